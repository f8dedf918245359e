/- Texts of this claim, put together: walks of the program's functions, and plain facts. -/
import Derived.Test.YtfaihkhdbapjmaaZFnAffected
import Derived.Test.YtfaihkhdbapjmaaBFnAffected0
import Derived.Test.YtfaihkhdbapjmaaBFnAffected7
import Derived.Test.YtfaihkhdbapjmaaBFnAffected8
import Derived.Test.YtfaihkhdbapjmaaBFnAffected9
import Derived.Test.YtfaihkhdbapjmaaBFnAffected10
import Derived.Test.YtfaihkhdbapjmaaBFnAffected11
import Derived.Test.YtfaihkhdbapjmaaBFnAffected12
import Derived.Test.YtfaihkhdbapjmaaBFnAffected13
import Derived.Test.YtfaihkhdbapjmaaBFnAffected14
namespace Go.Proofs.Ytfaihkhdbapjmaa.Q
open Go.RowKit Go.Proofs.YtfaihkhdbapjmaaW.PrintWords Go.Proofs.YtfaihkhdbapjmaaW.PrintLast Go.Proofs.YtfaihkhdbapjmaaW.PrintMore
attribute [local go_sem] max2_int min2_int max_two min_two max_three min_three max_four min_four
set_option linter.unusedVariables false
set_option linter.unusedSimpArgs false
mutual
def laws_FnAffected.j0 : Nat → List Int → Int → Int → List Int → Bool → Bool → Int → Int → List Int → Int → Int → List Int → Option (Bool)
 | 0, _, _, _, _, _, _, _, _, _, _, _, _ => none
 | k + 1, x0, x5, x6, x7, x8, x70, x522000, x522001, x522002, x523000, x523001, x523002 => if x70 = true then (none) else ((impl_AreasOf.f k x522000 x522001 x522002).bind fun bt532 => (laws_FnAffected.l0 k x0 x5 x6 x7 x8 bt532.1 bt532.2 0 x522000 x522001 x522002 x523000 x523001 x523002))
def laws_FnAffected.l0 : Nat → List Int → Int → Int → List Int → Bool → List Int → Bool → Int → Int → Int → List Int → Int → Int → List Int → Option (Bool)
 | 0, _, _, _, _, _, _, _, _, _, _, _, _, _, _ => none
 | k + 1, x0, x5, x6, x7, x8, x11, x12, x13, x522000, x522001, x522002, x523000, x523001, x523002 => if x13 < (x11.length : Int) then (laws_FnAffected.j2 k x0 x5 x6 x7 x8 x11 x12 x13 x8 x522000 x522001 x522002 x523000 x523001 x523002) else (laws_FnAffected.j2 k x0 x5 x6 x7 x8 x11 x12 x13 false x522000 x522001 x522002 x523000 x523001 x523002)
def laws_FnAffected.j2 : Nat → List Int → Int → Int → List Int → Bool → List Int → Bool → Int → Bool → Int → Int → List Int → Int → Int → List Int → Option (Bool)
 | 0, _, _, _, _, _, _, _, _, _, _, _, _, _, _, _ => none
 | k + 1, x0, x5, x6, x7, x8, x11, x12, x13, x82, x522000, x522001, x522002, x523000, x523001, x523002 => if x82 = true then (if 0 ≤ x13 then (if x13 < (x11.length : Int) then ((impl_AreaCoverage.f k x522000 x522001 x522002 (rd x11 x13) x523000 x523001 x523002 x5).bind fun bt537 => (if x12 = true then (if bt537.2.2 = true then ((laws_rHas.f k x7 (rd x11 x13)).bind fun t541 => (if bt537.1 > 0 then (if (t541 != (decide ((wrap64 (100 * bt537.1)) ≥ (wrap64 (x6 * bt537.2.1))))) = true then (none) else (laws_FnAffected.l0 k x0 x5 x6 x7 x8 x11 x12 (wrap64 (x13 + 1)) x522000 x522001 x522002 x523000 x523001 x523002)) else (if (t541 != false) = true then (none) else (laws_FnAffected.l0 k x0 x5 x6 x7 x8 x11 x12 (wrap64 (x13 + 1)) x522000 x522001 x522002 x523000 x523001 x523002)))) else (none)) else (none))) else (none)) else (none)) else ((spec_DrawAreaMaximum.f k x0).bind fun bt542 => ((impl_AreaMaximum.f k bt542.1 bt542.2.1 bt542.2.2.1 bt542.2.2.2.1 bt542.2.2.2.2.1 bt542.2.2.2.2.2.1 bt542.2.2.2.2.2.2).bind fun bt555 => ((spec_AreaMaximum.f k bt542.1 bt542.2.1 bt542.2.2.1 bt542.2.2.2.1 bt542.2.2.2.2.1 bt542.2.2.2.2.2.1 bt542.2.2.2.2.2.2).bind fun bt557 => (if bt555.1 = bt557.1 then (laws_FnAffected.j3 k x0 bt542.2.2.2.1 bt555.1 bt555.2 (bt555.2 != bt557.2) bt542.1 bt542.2.1 bt542.2.2.1 bt542.2.2.2.2.1 bt542.2.2.2.2.2.1 bt542.2.2.2.2.2.2) else (none)))))
def laws_FnAffected.j3 : Nat → List Int → Int → Int → Bool → Bool → Int → Int → List Int → Int → Int → List Int → Option (Bool)
 | 0, _, _, _, _, _, _, _, _, _, _, _ => none
 | k + 1, x0, x18, x20, x21, x149, x554000, x554001, x554002, x555000, x555001, x555002 => if x149 = true then (none) else (if x21 = true then ((impl_AreaCoverage.f k x554000 x554001 x554002 x18 x555000 x555001 x555002 x20).bind fun bt559 => (if bt559.2.2 = true then (if bt559.1 < 1 then (none) else (laws_FnAffected.j4 k x0 (decide (bt559.1 > bt559.2.1)))) else (none))) else ((spec_DrawAreaCoverage.f k x0).bind fun bt582 => ((impl_AreaCoverage.f k bt582.1 bt582.2.1 bt582.2.2.1 bt582.2.2.2.1 bt582.2.2.2.2.1 bt582.2.2.2.2.2.1 bt582.2.2.2.2.2.2.1 bt582.2.2.2.2.2.2.2).bind fun bt596 => ((spec_AreaCoverage.f k bt582.1 bt582.2.1 bt582.2.2.1 bt582.2.2.2.1 bt582.2.2.2.2.1 bt582.2.2.2.2.2.1 bt582.2.2.2.2.2.2.1 bt582.2.2.2.2.2.2.2).bind fun bt599 => (if bt596.1 = bt599.1 then (if bt596.2.1 = bt599.2.1 then (some (bt596.2.2 == bt599.2.2)) else (none)) else (none))))))
def laws_FnAffected.j4 : Nat → List Int → Bool → Option (Bool)
 | 0, _, _ => none
 | k + 1, x0, x170 => if x170 = true then (none) else ((spec_DrawAreaCoverage.f k x0).bind fun bt562 => ((impl_AreaCoverage.f k bt562.1 bt562.2.1 bt562.2.2.1 bt562.2.2.2.1 bt562.2.2.2.2.1 bt562.2.2.2.2.2.1 bt562.2.2.2.2.2.2.1 bt562.2.2.2.2.2.2.2).bind fun bt576 => ((spec_AreaCoverage.f k bt562.1 bt562.2.1 bt562.2.2.1 bt562.2.2.2.1 bt562.2.2.2.2.1 bt562.2.2.2.2.2.1 bt562.2.2.2.2.2.2.1 bt562.2.2.2.2.2.2.2).bind fun bt579 => (if bt576.1 = bt579.1 then (if bt576.2.1 = bt579.2.1 then (some (bt576.2.2 == bt579.2.2)) else (none)) else (none)))))
end
def laws_FnAffected.f (k : Nat) (l0 : List Int) : Option (Bool) := (laws_rBig.f l0).bind fun t508 => (if t508 = true then (some true) else ((spec_DrawAffectedAreas.f k l0).bind fun bt509 => ((impl_AffectedAreas.f k bt509.1 bt509.2.1 bt509.2.2.1 bt509.2.2.2.1 bt509.2.2.2.2.1 bt509.2.2.2.2.2.1 bt509.2.2.2.2.2.2.1 bt509.2.2.2.2.2.2.2).bind fun bt523 => ((spec_AffectedAreas.f k bt509.1 bt509.2.1 bt509.2.2.1 bt509.2.2.2.1 bt509.2.2.2.2.1 bt509.2.2.2.2.2.1 bt509.2.2.2.2.2.2.1 bt509.2.2.2.2.2.2.2).bind fun bt527 => (if (bt523.2 != bt527.2) = true then (none) else ((laws_rInts.f k bt523.1 bt527.1).bind fun t531 => (laws_FnAffected.j0 k l0 bt509.2.2.2.2.2.2.1 bt509.2.2.2.2.2.2.2 bt523.1 bt523.2 (!t531) bt509.1 bt509.2.1 bt509.2.2.1 bt509.2.2.2.1 bt509.2.2.2.2.1 bt509.2.2.2.2.2.1)))))))
def laws_FnAffected.T12 : Bool × List (List Nat × List Nat) := (true, [([], []), ([], []), ([], []), ([1, 2], [1, 2]), ([3], [3]), ([], []), ([], []), ([0, 4, 5, 6], [0, 4, 5, 6]), ([7], [7]), ([8], [8]), ([8], [8]), ([8], [8]), ([9, 7, 0, 1, 2, 3, 4, 5, 6, 7, 8, 9], [9]), ([10, 12, 0, 1, 2, 3, 4, 5, 6, 7, 8, 9, 10, 12], [10]), ([11, 13, 0, 1, 2, 3, 4, 5, 6, 7, 8, 9, 10, 11, 12, 13], [11])])
def laws_FnAffected.B12 : List Nat := [0, 0, 0, 6, 14, 0, 0, 127, 255, 511, 511, 511, 1023, 6143, 16383]
theorem laws_FnAffected.tab12 : rtab .any (opsOf Try.f3 12) = laws_FnAffected.T12 := by kernel_rfl
theorem laws_FnAffected.bits12 : waitsOk laws_FnAffected.T12.2 laws_FnAffected.B12 = true := by kernel_rfl
set_option maxHeartbeats 8000000 in
set_option maxRecDepth 100000 in
theorem laws_FnAffected.calls (k : Nat) (A0 : Option Addr) (c0 : Nat) (l0 : List Int) (r : Bool) (w : World) (hr0 : Kd.C (Kd.int .u8) w A0 l0.length l0) (hc0 : l0.length ≤ c0) (h : laws_FnAffected.f k l0 = some r) :
  Calls Try.prog 3 #[.slice A0 l0.length c0] w fun e w' => e = .returned (.bool r) ∧ Below w.heap.size w w' := by
 have hu26 := Try.underlying26
 have hu27 := Try.underlying27
 have HR0 := zm hr0
 have HC0 := zm hc0
 clear hr0 hc0
 have HB := zm (Below.refl w.heap.size w)
 have H : ((laws_rBig.f l0).bind fun t508 => (if t508 = true then (some true) else ((spec_DrawAffectedAreas.f k l0).bind fun bt509 => ((impl_AffectedAreas.f k bt509.1 bt509.2.1 bt509.2.2.1 bt509.2.2.2.1 bt509.2.2.2.2.1 bt509.2.2.2.2.2.1 bt509.2.2.2.2.2.2.1 bt509.2.2.2.2.2.2.2).bind fun bt523 => ((spec_AffectedAreas.f k bt509.1 bt509.2.1 bt509.2.2.1 bt509.2.2.2.1 bt509.2.2.2.2.1 bt509.2.2.2.2.2.1 bt509.2.2.2.2.2.2.1 bt509.2.2.2.2.2.2.2).bind fun bt527 => (if (bt523.2 != bt527.2) = true then (none) else ((laws_rInts.f k bt523.1 bt527.1).bind fun t531 => (laws_FnAffected.j0 k l0 bt509.2.2.2.2.2.2.1 bt509.2.2.2.2.2.2.2 bt523.1 bt523.2 (!t531) bt509.1 bt509.2.1 bt509.2.2.1 bt509.2.2.2.1 bt509.2.2.2.2.1 bt509.2.2.2.2.2.1)))))))) = some r := h
 clear h
 obtain ⟨t508, A20, H⟩ := zob H
 replace H : (if t508 = true then (some true) else ((spec_DrawAffectedAreas.f k l0).bind fun bt509 => ((impl_AffectedAreas.f k bt509.1 bt509.2.1 bt509.2.2.1 bt509.2.2.2.1 bt509.2.2.2.2.1 bt509.2.2.2.2.2.1 bt509.2.2.2.2.2.2.1 bt509.2.2.2.2.2.2.2).bind fun bt523 => ((spec_AffectedAreas.f k bt509.1 bt509.2.1 bt509.2.2.1 bt509.2.2.2.1 bt509.2.2.2.2.1 bt509.2.2.2.2.2.1 bt509.2.2.2.2.2.2.1 bt509.2.2.2.2.2.2.2).bind fun bt527 => (if (bt523.2 != bt527.2) = true then (none) else ((laws_rInts.f k bt523.1 bt527.1).bind fun t531 => (laws_FnAffected.j0 k l0 bt509.2.2.2.2.2.2.1 bt509.2.2.2.2.2.2.2 bt523.1 bt523.2 (!t531) bt509.1 bt509.2.1 bt509.2.2.1 bt509.2.2.2.1 bt509.2.2.2.2.1 bt509.2.2.2.2.2.1))))))) = some r := H
 have A2 := zm A20
 clear A20
 by_cases c3 : t508 = true
 case pos =>
  subst c3
  have H1 : (some true) = some r := by rw [if_pos rfl] at H; exact H
  clear H
  have H := H1
  clear H1
  obtain rfl := Option.some.inj H
  go_enter Try.func3, Try.ntmps3
  go_wp2_with (first | ((with_reducible refine zyg (f := 4) rfl ?_); refine goesL_ (some 38) rfl rfl Try.func4 (by kernel_rfl) rfl #[.slice A0 l0.length c0] rfl zq0 ?_; (with_reducible refine (laws_rBig.calls _ _ l0 true _ ?side1 ?side2 A2.out).mono ?_); (case side1 => exact zqC HR0.out); (case side2 => exact HC0.out); rintro e w' ⟨rfl, ⟨nd, rfl⟩⟩; refine ⟨_, rfl, ?_⟩))
  go_ret
  exact ⟨zqE, zq1⟩
 replace c3 := Bool.eq_false_iff.mpr c3
 subst c3
 have H1 : ((spec_DrawAffectedAreas.f k l0).bind fun bt509 => ((impl_AffectedAreas.f k bt509.1 bt509.2.1 bt509.2.2.1 bt509.2.2.2.1 bt509.2.2.2.2.1 bt509.2.2.2.2.2.1 bt509.2.2.2.2.2.2.1 bt509.2.2.2.2.2.2.2).bind fun bt523 => ((spec_AffectedAreas.f k bt509.1 bt509.2.1 bt509.2.2.1 bt509.2.2.2.1 bt509.2.2.2.2.1 bt509.2.2.2.2.2.1 bt509.2.2.2.2.2.2.1 bt509.2.2.2.2.2.2.2).bind fun bt527 => (if (bt523.2 != bt527.2) = true then (none) else ((laws_rInts.f k bt523.1 bt527.1).bind fun t531 => (laws_FnAffected.j0 k l0 bt509.2.2.2.2.2.2.1 bt509.2.2.2.2.2.2.2 bt523.1 bt523.2 (!t531) bt509.1 bt509.2.1 bt509.2.2.1 bt509.2.2.2.1 bt509.2.2.2.2.1 bt509.2.2.2.2.2.1)))))) = some r := by rw [if_neg (show ¬ (false = true) by decide)] at H; exact H
 clear H
 have H := H1
 clear H1
 obtain ⟨⟨t509, t510, t511, t514, t515, t516, t519, t520⟩, A40, H⟩ := zob H
 replace H : ((impl_AffectedAreas.f k t509 t510 t511 t514 t515 t516 t519 t520).bind fun bt523 => ((spec_AffectedAreas.f k t509 t510 t511 t514 t515 t516 t519 t520).bind fun bt527 => (if (bt523.2 != bt527.2) = true then (none) else ((laws_rInts.f k bt523.1 bt527.1).bind fun t531 => (laws_FnAffected.j0 k l0 t519 t520 bt523.1 bt523.2 (!t531) t509 t510 t511 t514 t515 t516))))) = some r := H
 have A4 := zm A40
 clear A40
 obtain ⟨⟨t523, t526⟩, A50, H⟩ := zob H
 replace H : ((spec_AffectedAreas.f k t509 t510 t511 t514 t515 t516 t519 t520).bind fun bt527 => (if (t526 != bt527.2) = true then (none) else ((laws_rInts.f k t523 bt527.1).bind fun t531 => (laws_FnAffected.j0 k l0 t519 t520 t523 t526 (!t531) t509 t510 t511 t514 t515 t516)))) = some r := H
 have A5 := zm A50
 clear A50
 obtain ⟨⟨t527, t530⟩, A60, H⟩ := zob H
 replace H : (if (t526 != t530) = true then (none) else ((laws_rInts.f k t523 t527).bind fun t531 => (laws_FnAffected.j0 k l0 t519 t520 t523 t526 (!t531) t509 t510 t511 t514 t515 t516))) = some r := H
 have A6 := zm A60
 clear A60
 have HC7 := zm H
 clear H
 go_enter Try.func3, Try.ntmps3
 go_upto_region 6 with (first | ((with_reducible refine zyg (f := 4) rfl ?_); refine goesL_ (some 38) rfl rfl Try.func4 (by kernel_rfl) rfl #[.slice A0 l0.length c0] rfl zq0 ?_; (with_reducible refine (laws_rBig.calls _ _ l0 false _ ?side1 ?side2 A2.out).mono ?_); (case side1 => exact zqC HR0.out); (case side2 => exact HC0.out); rintro e w' ⟨rfl, ⟨nd, rfl⟩⟩; refine ⟨_, rfl, ?_⟩) | ((with_reducible refine zyg (f := 5) rfl ?_); refine goesL_ (some 41) rfl rfl Try.func5 (by kernel_rfl) rfl #[.slice A0 l0.length c0] rfl zq0 ?_; (with_reducible refine (spec_DrawAffectedAreas.calls k _ _ l0 t509 t510 t511 t514 t515 t516 t519 t520 _ ?side1 ?side2 A4.out).mono ?_); (case side1 => exact zqC HR0.out); (case side2 => exact HC0.out); rintro e w8 ⟨v512, v517, rfl, ho0, ho1, hb⟩; refine ⟨_, rfl, ?_⟩; have HO513 := zm (Kd.R_lower ho0 (zyi zq1)); have HO518 := zm (Kd.Q_lower ho1 (zyi zq1)); replace HB := zm (zyh zq1 hb); (try clear hb); (try clear hb2); (try clear hk); (try clear hi); (try clear ho0); (try clear ho1)) | ((with_reducible refine gate_dst (N := 3) rfl ?_); refine box_event ?hg (N := 3) ?hd (cs := #[.int .i64 0, .int .i64 0, .slice none 0 0]) (t := 26) ?hr ?_; (case hd => rfl); (case hg => rfl); (case hr => exact zqS); intro gb521 hg w9 hbox hb; replace HO513 := zm (Kd.R_below (zqR HO513.out) hb); replace HO518 := zm (Kd.Q_below zq110 hb); have BK521 := zm (hbox); have GW521 := zm ((by rw [hg]; exact (zyi zq1) : w.heap.size ≤ gb521)); replace HB := zm (zyh zq1 hb); have GE521 := GW521; clear hb hbox hg) | ((with_reducible refine gate_dst (N := 4) rfl ?_); refine box_event ?hg (N := 4) ?hd (cs := #[.int .i64 0, .int .i64 0, .slice none 0 0]) (t := 27) ?hr ?_; (case hd => rfl); (case hg => rfl); (case hr => exact zqS); intro gb522 hg w10 hbox hb; replace HO513 := zm (Kd.R_below (zqR HO513.out) hb); replace HO518 := zm (Kd.Q_below zq110 hb); have BK522 := zm (hbox); have GW522 := zm ((by rw [hg]; exact (zyi zq106) : w.heap.size ≤ gb522)); replace HB := zm (zyh zq106 hb); have GE522 := GW522; have NB521_522 := zm ((by rw [hg]; exact Nat.ne_of_lt (blk_lt (g := gb521) (o := zcA) (zqK BK521.out)) : gb521 ≠ gb522)); have NB522_521 := zm ((by rw [hg]; exact Nat.ne_of_gt (blk_lt (g := gb521) (o := zcA) (zqK BK521.out)) : gb522 ≠ gb521)); replace BK521 := zm (zyb (g := gb521) (o := zcA) (zqK BK521.out) hb); clear hb hbox hg; have hnb11 := NB521_522.out; have hnc11 := NB522_521.out; have hcz12_0 := bz BK521.out 0 (.int .i64 0); have hcz12_1 := bz BK521.out 1 (.int .i64 0); have hcz12_2 := bz BK521.out 2 (.slice none 0 0); have hfz12_0 := zyF BK521.out 0; have hfz12_1 := zyF BK521.out 1; have hfz12_2 := zyF BK521.out 2; obtain ⟨Ao13, co13, eo13⟩ := Kd.R_slice HO513.out; subst eo13; have hcz14_0 := bz BK522.out 0 (.int .i64 0); have hcz14_1 := bz BK522.out 1 (.int .i64 0); have hcz14_2 := bz BK522.out 2 (.slice none 0 0); have hfz14_0 := zyF BK522.out 0; have hfz14_1 := zyF BK522.out 1; have hfz14_2 := zyF BK522.out 2; obtain ⟨Ao15, co15, eo15, _⟩ := Kd.Q_slice HO518.out; subst eo15) | ((with_reducible refine zyg (f := 6) rfl ?_); refine goesL_ (some 51) rfl rfl Try.func6 (by kernel_rfl) rfl #[.agg #[.int .i64 t509, .int .i64 t510, .slice Ao13 t511.length co13], .agg #[.int .i64 t514, .int .i64 t515, .slice Ao15 t516.length co15], .int .i64 t519, .int .i64 t520] rfl zq0 ?_; (with_reducible refine (impl_AffectedAreas.calls k t509 t510 _ _ t511 t514 t515 _ _ t516 t519 t520 t523 t526 _ ?side1 ?side2 ?side3 ?side4 A5.out).mono ?_); (case side1 => refine (Kd.R_reads' (e := 3) (base := w.heap.size) (ok := fun k_ => some k_ ≠ (.slice Ao15 t516.length co15 : Value).ownBlock) (n := t511.length) (c := co13) ?_).2.2; exact zq44); (case side2 => exact (Kd.R_reads' HO513.out).2.1); (case side3 => refine (Kd.Q_reads' (e := 3) (base := w.heap.size) (ok := fun k_ => some k_ ≠ (.slice Ao13 t511.length co13 : Value).ownBlock) (n := t516.length) (c := co15) ?_).2.2; exact zq45); (case side4 => exact (Kd.Q_reads' HO518.out).2.1); rintro e w16 ⟨v524, rfl, ho0, hb⟩; refine ⟨_, rfl, ?_⟩; have HO525 := zm (Kd.R_lower (Kd.R_new' (Kd.R_new' ho0 (Kd.R_lt zq44)) (Kd.Q_lt zq45)) (zyi zq14)); replace HO513 := zm (Kd.R_elder' zq44 (Kd.R_base ho0) hb); replace HO518 := zm (Kd.Q_elder' zq45 (Kd.R_base ho0) hb); replace BK521 := zm (zyb (g := gb521) (o := .cells #[.int .i64 t509, .int .i64 t510, .slice Ao13 t511.length co13] 26 (0, 0)) (by (with_reducible repeat (first | apply zN | apply zD | apply zL)); refine zye ?_ NB521_522.out _; (with_reducible repeat (first | apply zN | apply zD | apply zL)); refine zye ?_ NB521_522.out _; (with_reducible repeat (first | apply zN | apply zD | apply zL)); refine zye ?_ NB521_522.out _; (with_reducible repeat (first | apply zN | apply zD | apply zL)); refine blk_put (cs := #[.int .i64 t509, .int .i64 t510, .slice none 0 0]) ?_ 2 _ rfl; (with_reducible repeat (first | apply zN | apply zD | apply zL)); refine blk_put (cs := #[.int .i64 t509, .int .i64 0, .slice none 0 0]) ?_ 1 _ rfl; (with_reducible repeat (first | apply zN | apply zD | apply zL)); refine blk_put (cs := #[.int .i64 0, .int .i64 0, .slice none 0 0]) ?_ 0 _ rfl; (with_reducible repeat (first | apply zN | apply zD | apply zL)); exact BK521.out) hb); replace BK522 := zm (zyb (g := gb522) (o := .cells #[.int .i64 t514, .int .i64 t515, .slice Ao15 t516.length co15] 27 (0, 0)) (by (with_reducible repeat (first | apply zN | apply zD | apply zL)); refine blk_put (cs := #[.int .i64 t514, .int .i64 t515, .slice none 0 0]) ?_ 2 _ rfl; (with_reducible repeat (first | apply zN | apply zD | apply zL)); refine blk_put (cs := #[.int .i64 t514, .int .i64 0, .slice none 0 0]) ?_ 1 _ rfl; (with_reducible repeat (first | apply zN | apply zD | apply zL)); refine blk_put (cs := #[.int .i64 0, .int .i64 0, .slice none 0 0]) ?_ 0 _ rfl; (with_reducible repeat (first | apply zN | apply zD | apply zL)); refine zye ?_ NB522_521.out _; (with_reducible repeat (first | apply zN | apply zD | apply zL)); refine zye ?_ NB522_521.out _; (with_reducible repeat (first | apply zN | apply zD | apply zL)); refine zye ?_ NB522_521.out _; (with_reducible repeat (first | apply zN | apply zD | apply zL)); exact BK522.out) hb); replace HB := zm (zyh zq14 hb); (try clear hb); (try clear hb2); (try clear hk); (try clear hi); (try clear ho0); have hcz17_0 := bz BK521.out 0 (.int .i64 t509); have hcz17_1 := bz BK521.out 1 (.int .i64 t510); have hcz17_2 := bz BK521.out 2 (.slice Ao13 t511.length co13); have hfz17_0 := zyF BK521.out 0; have hfz17_1 := zyF BK521.out 1; have hfz17_2 := zyF BK521.out 2; have hcz18_0 := bz BK522.out 0 (.int .i64 t514); have hcz18_1 := bz BK522.out 1 (.int .i64 t515); have hcz18_2 := bz BK522.out 2 (.slice Ao15 t516.length co15); have hfz18_0 := zyF BK522.out 0; have hfz18_1 := zyF BK522.out 1; have hfz18_2 := zyF BK522.out 2) | ((with_reducible refine zyg (f := 7) rfl ?_); refine goesL_ (some 59) rfl rfl Try.func7 (by kernel_rfl) rfl #[.agg #[.int .i64 t509, .int .i64 t510, .slice Ao13 t511.length co13], .agg #[.int .i64 t514, .int .i64 t515, .slice Ao15 t516.length co15], .int .i64 t519, .int .i64 t520] rfl zq0 ?_; (with_reducible refine (spec_AffectedAreas.calls k t509 t510 _ _ t511 t514 t515 _ _ t516 t519 t520 t527 t530 _ ?side1 ?side2 ?side3 ?side4 A6.out).mono ?_); (case side1 => exact zqC (Kd.R_reads' HO513.out).2.2); (case side2 => exact (Kd.R_reads' HO513.out).2.1); (case side3 => exact zqC (Kd.Q_reads' HO518.out).2.2); (case side4 => exact (Kd.Q_reads' HO518.out).2.1); rintro e w19 ⟨v528, rfl, ho0, hb⟩; refine ⟨_, rfl, ?_⟩; have HO529 := zm (Kd.R_lower (Kd.R_new' (Kd.R_new' (Kd.R_new' ho0 (Kd.R_lt (zqR HO513.out))) (Kd.Q_lt zq110)) (Kd.R_lt (zqR HO525.out))) (zyi zq14)); replace HO513 := zm (Kd.R_elder' (zqR HO513.out) (Kd.R_base ho0) hb); replace HO518 := zm (Kd.Q_elder' zq110 (Kd.R_base ho0) hb); replace HO525 := zm (Kd.R_elder' (zqR HO525.out) (Kd.R_base ho0) hb); replace BK521 := zm (zyb (g := gb521) (o := .cells #[.int .i64 t509, .int .i64 t510, .slice Ao13 t511.length co13] 26 (0, 0)) (zqK BK521.out) hb); replace BK522 := zm (zyb (g := gb522) (o := .cells #[.int .i64 t514, .int .i64 t515, .slice Ao15 t516.length co15] 27 (0, 0)) (zqK BK522.out) hb); replace HB := zm (zyh zq14 hb); (try clear hb); (try clear hb2); (try clear hk); (try clear hi); (try clear ho0)))
 (try simp only [Act.put, List.setIfInBounds_toArray, List.set_cons_zero, List.set_cons_succ])
 go_cut [70] (fun v70 wc => ∃ (kq : Nat) (x70_6 : Bool), v70 = .bool x70_6 ∧ Aside0 (laws_FnAffected.j0 kq l0 t519 t520 t523 t526 x70_6 t509 t510 t511 t514 t515 t516 = some r) ∧ Aside0 (kq ≤ k) ∧ Aside0 (Kd.R (Kd.int .i64) 3 wc w.heap.size (fun k_ => some k_ ≠ ((.slice Ao13 t511.length co13) : Value).ownBlock ∧ some k_ ≠ ((.slice Ao15 t516.length co15) : Value).ownBlock) v524 t523) ∧ Aside0 (Kd.R (Kd.int .i64) 3 wc w.heap.size (fun k_ => some k_ ≠ (v524 : Value).ownBlock ∧ some k_ ≠ ((.slice Ao15 t516.length co15) : Value).ownBlock) (.slice Ao13 t511.length co13) t511) ∧ Aside0 (Kd.Q (Kd.int .i64) 3 wc w.heap.size (fun k_ => some k_ ≠ (v524 : Value).ownBlock ∧ some k_ ≠ ((.slice Ao13 t511.length co13) : Value).ownBlock) (.slice Ao15 t516.length co15) t516) ∧ Aside0 (wc.heap[gb521]? = some (.cells #[.int .i64 t509, .int .i64 t510, (.slice Ao13 t511.length co13)] 26 (0, 0))) ∧ Aside0 (wc.heap[gb522]? = some (.cells #[.int .i64 t514, .int .i64 t515, (.slice Ao15 t516.length co15)] 27 (0, 0))) ∧ Aside0 (Below w.heap.size w wc))
 case first =>
  have H := HC7.out
  clear HC7
  by_cases c20 : (t526 != t530) = true
  case pos =>
   rw [if_pos c20] at H
   exact absurd H (by simp)
  rw [if_neg c20] at H
  have c20b0 : (t526 != t530) = false := by simpa using c20
  (try (have c20b1 : decide (t526 = t530) = true := by simpa using c20))
  (try (have c20b2 : (t526 == t530) = true := by simpa using c20))
  clear c20
  (first | rw [c20b0] | (simp only [i64_w, i32_w]; rw [c20b0]) | rw [c20b1] | skip)
  obtain ⟨t531, A210, H⟩ := zob H
  replace H : (laws_FnAffected.j0 k l0 t519 t520 t523 t526 (!t531) t509 t510 t511 t514 t515 t516) = some r := H
  have A21 := zm A210
  clear A210
  have H' := zm H
  clear H
  obtain ⟨Ao22, co22, eo22⟩ := Kd.R_slice HO525.out
  subst eo22
  obtain ⟨Ao23, co23, eo23⟩ := Kd.R_slice HO529.out
  subst eo23
  go_wp2_with (first | (go_at_call 8; (with_reducible refine (laws_rInts.calls k _ _ t523 _ _ t527 t531 _ ?side1 ?side2 ?side3 ?side4 A21.out).mono ?_); (case side1 => exact zqC (Kd.R_reads' HO525.out).2.2); (case side2 => exact (Kd.R_reads' HO525.out).2.1); (case side3 => exact zqC (Kd.R_reads' HO529.out).2.2); (case side4 => exact (Kd.R_reads' HO529.out).2.1); rintro e w' ⟨rfl, ⟨nd, rfl⟩⟩))
  go_meet
  case rel => exact ⟨_, (!t531), (by first | rfl | (simp; done) | (simp [*]; done)), H', ⟨by first | omega | exact Nat.le_refl _⟩, ⟨by (with_reducible repeat (first | apply Kd.R_alloc | apply Kd.R_drewN | apply Kd.R_drew)); exact Kd.R_mono HO525.out (fun _ hk => ⟨hk.1.1.2, hk.1.2⟩)⟩, ⟨by (with_reducible repeat (first | apply Kd.R_alloc | apply Kd.R_drewN | apply Kd.R_drew)); exact Kd.R_mono HO513.out (fun _ hk => ⟨hk.1.2, hk.1.1⟩)⟩, ⟨by (with_reducible repeat (first | apply Kd.Q_alloc | apply Kd.Q_drewN | apply Kd.Q_drew)); exact Kd.Q_mono HO518.out (fun _ hk => ⟨hk.1.2, hk.1.1⟩)⟩, ⟨by (with_reducible repeat (first | apply zN | apply zD | apply zL)); exact BK521.out⟩, ⟨by (with_reducible repeat (first | apply zN | apply zD | apply zL)); exact BK522.out⟩, ⟨zq14⟩⟩
 clear HC7
 try clear c1
 try clear c2
 try clear p2
 try clear c3
 try clear c4
 try clear c5
 try clear c6
 try clear c7
 try clear c11
 try clear c20
 try clear c20b0
 try clear c20b1
 try clear c20b2
 try clear hcz12_0
 try clear hcz12_1
 try clear hcz12_2
 try clear hcz14_0
 try clear hcz14_1
 try clear hcz14_2
 try clear hcz17_0
 try clear hcz17_1
 try clear hcz17_2
 try clear hcz18_0
 try clear hcz18_1
 try clear hcz18_2
 try clear hfz12_0
 try clear hfz12_1
 try clear hfz12_2
 try clear hfz14_0
 try clear hfz14_1
 try clear hfz14_2
 try clear hfz17_0
 try clear hfz17_1
 try clear hfz17_2
 try clear hfz18_0
 try clear hfz18_1
 try clear hfz18_2
 obtain ⟨kq, x70_6, rfl, HA, HJ6, HO_7, HO_522002, HO_523002, BK521, BK522, HB⟩ := hcut
 cases kq with
 | zero => exact absurd HA.out (by simp [laws_FnAffected.j0])
 | succ kj6 =>
  have H := HA.out
  clear HA
  simp only [laws_FnAffected.j0] at H
  by_cases c24 : x70_6 = true
  case pos =>
   subst c24
   have H1 : (none) = some r := by rw [if_pos rfl] at H; exact H
   clear H
   have H := H1
   clear H1
   exact absurd H (by simp)
  replace c24 := Bool.eq_false_iff.mpr c24
  subst c24
  have H1 : ((impl_AreasOf.f kj6 t509 t510 t511).bind fun bt532 => (laws_FnAffected.l0 kj6 l0 t519 t520 t523 t526 bt532.1 bt532.2 0 t509 t510 t511 t514 t515 t516)) = some r := by rw [if_neg (show ¬ (false = true) by decide)] at H; exact H
  clear H
  have H := H1
  clear H1
  obtain ⟨⟨t532, t535⟩, A250, H⟩ := zob H
  replace H : (laws_FnAffected.l0 kj6 l0 t519 t520 t523 t526 t532 t535 0 t509 t510 t511 t514 t515 t516) = some r := H
  have A25 := zm A250
  clear A250
  have H' := zm H
  clear H
  have hnb26 := NB521_522.out
  have hnc26 := NB522_521.out
  have hcz27_0 := bz BK521.out 0 (.int .i64 t509)
  have hcz27_1 := bz BK521.out 1 (.int .i64 t510)
  have hcz27_2 := bz BK521.out 2 (.slice Ao13 t511.length co13)
  have hfz27_0 := zyF BK521.out 0
  have hfz27_1 := zyF BK521.out 1
  have hfz27_2 := zyF BK521.out 2
  go_wp2_with (first | ((with_reducible refine zyg (f := 9) rfl ?_); refine goesL_ (some 73) rfl rfl Try.func9 (by kernel_rfl) rfl #[.agg #[.int .i64 t509, .int .i64 t510, .slice Ao13 t511.length co13]] rfl zq0 ?_; (with_reducible refine (impl_AreasOf.calls kj6 t509 t510 _ _ t511 t532 t535 _ ?side1 ?side2 A25.out).mono ?_); (case side1 => exact zqC (Kd.R_reads' HO_522002.out).2.2); (case side2 => exact (Kd.R_reads' HO_522002.out).2.1); rintro e w28 ⟨v533, rfl, ho0, hb⟩; refine ⟨_, rfl, ?_⟩; have HO534 := zm (Kd.R_lower (Kd.R_new' (Kd.R_new' (Kd.R_new' ho0 (Kd.R_lt (zqR HO_7.out))) (Kd.R_lt (zqR HO_522002.out))) (Kd.Q_lt zq26)) (zyi zq14)); replace HO_7 := zm (Kd.R_elder' (zqR HO_7.out) (Kd.R_base ho0) hb); replace HO_522002 := zm (Kd.R_elder' (zqR HO_522002.out) (Kd.R_base ho0) hb); replace HO_523002 := zm (Kd.Q_elder' zq26 (Kd.R_base ho0) hb); replace BK521 := zm (zyb (g := gb521) (o := .cells #[.int .i64 t509, .int .i64 t510, .slice Ao13 t511.length co13] 26 (0, 0)) (zqK BK521.out) hb); replace BK522 := zm (zyb (g := gb522) (o := .cells #[.int .i64 t514, .int .i64 t515, .slice Ao15 t516.length co15] 27 (0, 0)) (zqK BK522.out) hb); replace HB := zm (zyh zq14 hb); (try clear hb); (try clear hb2); (try clear hk); (try clear hi); (try clear ho0)))
  go_loopg [13] kj6 (fun kq v13 w' => ∃ (x13_2 : Int), v13 = .int .i64 x13_2 ∧ Aside0 (laws_FnAffected.l0 kq l0 t519 t520 t523 t526 t532 t535 x13_2 t509 t510 t511 t514 t515 t516 = some r) ∧ Aside0 (kq ≤ kj6) ∧ Aside0 (Kd.R (Kd.int .i64) 3 w' w.heap.size (fun k_ => some k_ ≠ (v533 : Value).ownBlock ∧ some k_ ≠ ((.slice Ao13 t511.length co13) : Value).ownBlock ∧ some k_ ≠ ((.slice Ao15 t516.length co15) : Value).ownBlock) v524 t523) ∧ Aside0 (Kd.R (Kd.int .i64) 3 w' w.heap.size (fun k_ => some k_ ≠ (v524 : Value).ownBlock ∧ some k_ ≠ ((.slice Ao13 t511.length co13) : Value).ownBlock ∧ some k_ ≠ ((.slice Ao15 t516.length co15) : Value).ownBlock) v533 t532) ∧ Aside0 (Kd.R (Kd.int .i64) 3 w' w.heap.size (fun k_ => some k_ ≠ (v524 : Value).ownBlock ∧ some k_ ≠ (v533 : Value).ownBlock ∧ some k_ ≠ ((.slice Ao15 t516.length co15) : Value).ownBlock) (.slice Ao13 t511.length co13) t511) ∧ Aside0 (Kd.Q (Kd.int .i64) 3 w' w.heap.size (fun k_ => some k_ ≠ (v524 : Value).ownBlock ∧ some k_ ≠ (v533 : Value).ownBlock ∧ some k_ ≠ ((.slice Ao13 t511.length co13) : Value).ownBlock) (.slice Ao15 t516.length co15) t516) ∧ Aside0 (w'.heap[gb521]? = some (.cells #[.int .i64 t509, .int .i64 t510, (.slice Ao13 t511.length co13)] 26 (0, 0))) ∧ Aside0 (w'.heap[gb522]? = some (.cells #[.int .i64 t514, .int .i64 t515, (.slice Ao15 t516.length co15)] 27 (0, 0))) ∧ Aside0 (Below w.heap.size w w'))
  case atStart => exact ⟨(0), (by first | rfl | (simp; done) | (simp [*]; done)), H', ⟨Nat.le_refl _⟩, ⟨by (with_reducible repeat (first | apply Kd.R_alloc | apply Kd.R_drewN | apply Kd.R_drew)); exact Kd.R_mono HO_7.out (fun _ hk => ⟨hk.2, ⟨hk.1.1, hk.1.2⟩⟩)⟩, ⟨by (with_reducible repeat (first | apply Kd.R_alloc | apply Kd.R_drewN | apply Kd.R_drew)); exact Kd.R_mono HO534.out (fun _ hk => ⟨hk.1.1.2, ⟨hk.1.2, hk.2⟩⟩)⟩, ⟨by (with_reducible repeat (first | apply Kd.R_alloc | apply Kd.R_drewN | apply Kd.R_drew)); exact Kd.R_mono HO_522002.out (fun _ hk => ⟨hk.1.1, ⟨hk.2, hk.1.2⟩⟩)⟩, ⟨by (with_reducible repeat (first | apply Kd.Q_alloc | apply Kd.Q_drewN | apply Kd.Q_drew)); exact Kd.Q_mono HO_523002.out (fun _ hk => ⟨hk.1.1, ⟨hk.2, hk.1.2⟩⟩)⟩, ⟨by (with_reducible repeat (first | apply zN | apply zD | apply zL)); exact BK521.out⟩, ⟨by (with_reducible repeat (first | apply zN | apply zD | apply zL)); exact BK522.out⟩, ⟨zq14⟩⟩
  clear H'
  try clear c1
  try clear c2
  try clear p2
  try clear c3
  try clear c4
  try clear c5
  try clear c6
  try clear c7
  try clear c9
  try clear c11
  try clear c20
  try clear c20b0
  try clear c20b1
  try clear c20b2
  try clear c24
  try clear c26
  try clear hcz12_0
  try clear hcz12_1
  try clear hcz12_2
  try clear hcz14_0
  try clear hcz14_1
  try clear hcz14_2
  try clear hcz17_0
  try clear hcz17_1
  try clear hcz17_2
  try clear hcz18_0
  try clear hcz18_1
  try clear hcz18_2
  try clear hcz27_0
  try clear hcz27_1
  try clear hcz27_2
  try clear hfz12_0
  try clear hfz12_1
  try clear hfz12_2
  try clear hfz14_0
  try clear hfz14_1
  try clear hfz14_2
  try clear hfz17_0
  try clear hfz17_1
  try clear hfz17_2
  try clear hfz18_0
  try clear hfz18_1
  try clear hfz18_2
  try clear hfz27_0
  try clear hfz27_1
  try clear hfz27_2
  try clear p2
  obtain ⟨x13_2, rfl, HA, HK2, HO_7, HO_11, HO_522002, HO_523002, BK521, BK522, HB⟩ := hrel
  cases gk with
  | zero => exact absurd HA.out (by simp [laws_FnAffected.l0])
  | succ k2 =>
   have H := HA.out
   clear HA
   simp only [laws_FnAffected.l0] at H
   have HC29 := zm H
   clear H
   go_upto_region 10 with (fail)
   go_cut [82] (fun v82 wc => ∃ (kq : Nat) (x82_28 : Bool), v82 = .bool x82_28 ∧ Aside0 (laws_FnAffected.j2 kq l0 t519 t520 t523 t526 t532 t535 x13_2 x82_28 t509 t510 t511 t514 t515 t516 = some r) ∧ Aside0 (kq ≤ k2) ∧ Aside0 (Kd.R (Kd.int .i64) 3 wc w.heap.size (fun k_ => some k_ ≠ (v533 : Value).ownBlock ∧ some k_ ≠ ((.slice Ao13 t511.length co13) : Value).ownBlock ∧ some k_ ≠ ((.slice Ao15 t516.length co15) : Value).ownBlock) v524 t523) ∧ Aside0 (Kd.R (Kd.int .i64) 3 wc w.heap.size (fun k_ => some k_ ≠ (v524 : Value).ownBlock ∧ some k_ ≠ ((.slice Ao13 t511.length co13) : Value).ownBlock ∧ some k_ ≠ ((.slice Ao15 t516.length co15) : Value).ownBlock) v533 t532) ∧ Aside0 (Kd.R (Kd.int .i64) 3 wc w.heap.size (fun k_ => some k_ ≠ (v524 : Value).ownBlock ∧ some k_ ≠ (v533 : Value).ownBlock ∧ some k_ ≠ ((.slice Ao15 t516.length co15) : Value).ownBlock) (.slice Ao13 t511.length co13) t511) ∧ Aside0 (Kd.Q (Kd.int .i64) 3 wc w.heap.size (fun k_ => some k_ ≠ (v524 : Value).ownBlock ∧ some k_ ≠ (v533 : Value).ownBlock ∧ some k_ ≠ ((.slice Ao13 t511.length co13) : Value).ownBlock) (.slice Ao15 t516.length co15) t516) ∧ Aside0 (wc.heap[gb521]? = some (.cells #[.int .i64 t509, .int .i64 t510, (.slice Ao13 t511.length co13)] 26 (0, 0))) ∧ Aside0 (wc.heap[gb522]? = some (.cells #[.int .i64 t514, .int .i64 t515, (.slice Ao15 t516.length co15)] 27 (0, 0))) ∧ Aside0 (Below w.heap.size w wc))
   case first =>
    have H := HC29.out
    clear HC29
    by_cases c30 : x13_2 < (t532.length : Int)
    case neg =>
     rw [if_neg c30] at H
     have c30b0 : decide (x13_2 < (t532.length : Int)) = false := decide_eq_false c30
     clear c30
     (first | rw [c30b0] | (simp only [i64_w, i32_w]; rw [c30b0]) | skip)
     have H' := zm H
     clear H
     obtain ⟨Ao32, co32, eo32⟩ := Kd.R_slice HO_11.out
     subst eo32
     go_wp2
     go_meet
     case rel => exact ⟨_, (false), (by first | rfl | (simp; done) | (simp [*]; done)), H', ⟨by have := HJ6.out; have := HK2.out; first | omega | exact Nat.le_refl _⟩, ⟨zqR HO_7.out⟩, ⟨zqR HO_11.out⟩, ⟨zqR HO_522002.out⟩, ⟨by (with_reducible repeat (first | apply Kd.Q_alloc | apply Kd.Q_drewN | apply Kd.Q_drew)); exact HO_523002.out⟩, ⟨by (with_reducible repeat (first | apply zN | apply zD | apply zL)); exact BK521.out⟩, ⟨by (with_reducible repeat (first | apply zN | apply zD | apply zL)); exact BK522.out⟩, ⟨zq14⟩⟩
    rw [if_pos c30] at H
    have c30b0 : decide (x13_2 < (t532.length : Int)) = true := decide_eq_true c30
    clear c30
    (first | rw [c30b0] | (simp only [i64_w, i32_w]; rw [c30b0]) | skip)
    have H' := zm H
    clear H
    obtain ⟨Ao31, co31, eo31⟩ := Kd.R_slice HO_11.out
    subst eo31
    go_wp2
    go_meet
    case rel => exact ⟨_, (t526), (by first | rfl | (simp; done) | (simp [*]; done)), H', ⟨by have := HJ6.out; have := HK2.out; first | omega | exact Nat.le_refl _⟩, ⟨zqR HO_7.out⟩, ⟨zqR HO_11.out⟩, ⟨zqR HO_522002.out⟩, ⟨by (with_reducible repeat (first | apply Kd.Q_alloc | apply Kd.Q_drewN | apply Kd.Q_drew)); exact HO_523002.out⟩, ⟨by (with_reducible repeat (first | apply zN | apply zD | apply zL)); exact BK521.out⟩, ⟨by (with_reducible repeat (first | apply zN | apply zD | apply zL)); exact BK522.out⟩, ⟨zq14⟩⟩
   clear HC29
   try clear c1
   try clear c2
   try clear p2
   try clear c3
   try clear c4
   try clear c5
   try clear c6
   try clear c7
   try clear c9
   try clear c11
   try clear c20
   try clear c20b0
   try clear c20b1
   try clear c20b2
   try clear c24
   try clear c26
   try clear c30
   try clear c30b0
   try clear hcz12_0
   try clear hcz12_1
   try clear hcz12_2
   try clear hcz14_0
   try clear hcz14_1
   try clear hcz14_2
   try clear hcz17_0
   try clear hcz17_1
   try clear hcz17_2
   try clear hcz18_0
   try clear hcz18_1
   try clear hcz18_2
   try clear hcz27_0
   try clear hcz27_1
   try clear hcz27_2
   try clear hfz12_0
   try clear hfz12_1
   try clear hfz12_2
   try clear hfz14_0
   try clear hfz14_1
   try clear hfz14_2
   try clear hfz17_0
   try clear hfz17_1
   try clear hfz17_2
   try clear hfz18_0
   try clear hfz18_1
   try clear hfz18_2
   try clear hfz27_0
   try clear hfz27_1
   try clear hfz27_2
   try clear p2
   obtain ⟨kq, x82_28, rfl, HA, HJ28, HO_7, HO_11, HO_522002, HO_523002, BK521, BK522, HB⟩ := hcut
   cases kq with
   | zero => exact absurd HA.out (by simp [laws_FnAffected.j2])
   | succ kj28 =>
    have H := HA.out
    clear HA
    simp only [laws_FnAffected.j2] at H
    by_cases c33 : x82_28 = true
    case neg =>
     replace c33 := Bool.eq_false_iff.mpr c33
     subst c33
     have H1 : ((spec_DrawAreaMaximum.f kj28 l0).bind fun bt542 => ((impl_AreaMaximum.f kj28 bt542.1 bt542.2.1 bt542.2.2.1 bt542.2.2.2.1 bt542.2.2.2.2.1 bt542.2.2.2.2.2.1 bt542.2.2.2.2.2.2).bind fun bt555 => ((spec_AreaMaximum.f kj28 bt542.1 bt542.2.1 bt542.2.2.1 bt542.2.2.2.1 bt542.2.2.2.2.1 bt542.2.2.2.2.2.1 bt542.2.2.2.2.2.2).bind fun bt557 => (if bt555.1 = bt557.1 then (laws_FnAffected.j3 kj28 l0 bt542.2.2.2.1 bt555.1 bt555.2 (bt555.2 != bt557.2) bt542.1 bt542.2.1 bt542.2.2.1 bt542.2.2.2.2.1 bt542.2.2.2.2.2.1 bt542.2.2.2.2.2.2) else (none))))) = some r := by rw [if_neg (show ¬ (false = true) by decide)] at H; exact H
     clear H
     have H := H1
     clear H1
     obtain ⟨⟨t542, t543, t544, t547, t548, t549, t550⟩, A510, H⟩ := zob H
     replace H : ((impl_AreaMaximum.f kj28 t542 t543 t544 t547 t548 t549 t550).bind fun bt555 => ((spec_AreaMaximum.f kj28 t542 t543 t544 t547 t548 t549 t550).bind fun bt557 => (if bt555.1 = bt557.1 then (laws_FnAffected.j3 kj28 l0 t547 bt555.1 bt555.2 (bt555.2 != bt557.2) t542 t543 t544 t548 t549 t550) else (none)))) = some r := H
     have A51 := zm A510
     clear A510
     obtain ⟨⟨t555, t556⟩, A520, H⟩ := zob H
     replace H : ((spec_AreaMaximum.f kj28 t542 t543 t544 t547 t548 t549 t550).bind fun bt557 => (if t555 = bt557.1 then (laws_FnAffected.j3 kj28 l0 t547 t555 t556 (t556 != bt557.2) t542 t543 t544 t548 t549 t550) else (none))) = some r := H
     have A52 := zm A520
     clear A520
     obtain ⟨⟨t557, t558⟩, A530, H⟩ := zob H
     replace H : (if t555 = t557 then (laws_FnAffected.j3 kj28 l0 t547 t555 t556 (t556 != t558) t542 t543 t544 t548 t549 t550) else (none)) = some r := H
     have A53 := zm A530
     clear A530
     have HC54 := zm H
     clear H
     go_upto_region 18 with (first | ((with_reducible refine zyg (f := 12) rfl ?_); refine goesL_ (some 124) rfl rfl Try.func12 (by kernel_rfl) rfl #[.slice A0 l0.length c0] rfl zq0 ?_; (with_reducible refine (spec_DrawAreaMaximum.calls kj28 _ _ l0 t542 t543 t544 t547 t548 t549 t550 _ ?side1 ?side2 A51.out).mono ?_); (case side1 => exact zqC (Kd.C_below HR0.out HB.out)); (case side2 => exact HC0.out); rintro e w55 ⟨v545, v551, rfl, ho0, ho1, hb⟩; refine ⟨_, rfl, ?_⟩; have HO546 := zm (Kd.R_lower (Kd.R_new' (Kd.R_new' (Kd.R_new' (Kd.R_new' ho0 (Kd.R_lt (zqR HO_7.out))) (Kd.R_lt (zqR HO_11.out))) (Kd.R_lt (zqR HO_522002.out))) (Kd.Q_lt zq26)) (zyi zq14)); have HO552 := zm (Kd.Q_lower (Kd.Q_new' (Kd.Q_new' (Kd.Q_new' (Kd.Q_new' ho1 (Kd.R_lt (zqR HO_7.out))) (Kd.R_lt (zqR HO_11.out))) (Kd.R_lt (zqR HO_522002.out))) (Kd.Q_lt zq26)) (zyi zq14)); replace HO_7 := zm (Kd.R_mono (Kd.R_told (Kd.R_told (Kd.R_old (zqR HO_7.out) hb) (Kd.R_base ho0)) (Kd.Q_base ho1)) (fun _ h_ => h_.1)); replace HO_11 := zm (Kd.R_mono (Kd.R_told (Kd.R_told (Kd.R_old (zqR HO_11.out) hb) (Kd.R_base ho0)) (Kd.Q_base ho1)) (fun _ h_ => h_.1)); replace HO_522002 := zm (Kd.R_mono (Kd.R_told (Kd.R_told (Kd.R_old (zqR HO_522002.out) hb) (Kd.R_base ho0)) (Kd.Q_base ho1)) (fun _ h_ => h_.1)); replace HO_523002 := zm (Kd.Q_mono (Kd.Q_told (Kd.Q_told (Kd.Q_old zq26 hb) (Kd.R_base ho0)) (Kd.Q_base ho1)) (fun _ h_ => h_.1)); replace BK521 := zm (zyb (g := gb521) (o := .cells #[.int .i64 t509, .int .i64 t510, .slice Ao13 t511.length co13] 26 (0, 0)) (zqK BK521.out) hb); replace BK522 := zm (zyb (g := gb522) (o := .cells #[.int .i64 t514, .int .i64 t515, .slice Ao15 t516.length co15] 27 (0, 0)) (zqK BK522.out) hb); replace HB := zm (zyh zq14 hb); (try clear hb); (try clear hb2); (try clear hk); (try clear hi); (try clear ho0); (try clear ho1)) | ((with_reducible refine gate_dst (N := 17) rfl ?_); refine box_event ?hg (N := 17) ?hd (cs := #[.int .i64 0, .int .i64 0, .slice none 0 0]) (t := 26) ?hr ?_; (case hd => rfl); (case hg => rfl); (case hr => exact zqS); intro gb553 hg w56 hbox hb; replace HO_7 := zm (Kd.R_below (zqR HO_7.out) hb); replace HO_11 := zm (Kd.R_below (zqR HO_11.out) hb); replace HO_522002 := zm (Kd.R_below (zqR HO_522002.out) hb); replace HO_523002 := zm (Kd.Q_below zq26 hb); replace HO546 := zm (Kd.R_below (zqR HO546.out) hb); replace HO552 := zm (Kd.Q_below (by (with_reducible repeat (first | apply Kd.Q_alloc | apply Kd.Q_drewN | apply Kd.Q_drew)); exact HO552.out) hb); have BK553 := zm (hbox); have GW553 := zm ((by rw [hg]; exact (zyi zq14) : w.heap.size ≤ gb553)); have GE553 := zm ((by rw [hg]; exact (zyi zq14) : w.heap.size ≤ gb553)); replace HB := zm (zyh zq14 hb); have NB521_553 := zm ((by rw [hg]; exact Nat.ne_of_lt (blk_lt (g := gb521) (o := .cells #[.int .i64 t509, .int .i64 t510, .slice Ao13 t511.length co13] 26 (0, 0)) (zqK BK521.out)) : gb521 ≠ gb553)); have NB553_521 := zm ((by rw [hg]; exact Nat.ne_of_gt (blk_lt (g := gb521) (o := .cells #[.int .i64 t509, .int .i64 t510, .slice Ao13 t511.length co13] 26 (0, 0)) (zqK BK521.out)) : gb553 ≠ gb521)); replace BK521 := zm (zyb (g := gb521) (o := .cells #[.int .i64 t509, .int .i64 t510, .slice Ao13 t511.length co13] 26 (0, 0)) (zqK BK521.out) hb); have NB522_553 := zm ((by rw [hg]; exact Nat.ne_of_lt (blk_lt (g := gb522) (o := .cells #[.int .i64 t514, .int .i64 t515, .slice Ao15 t516.length co15] 27 (0, 0)) (zqK BK522.out)) : gb522 ≠ gb553)); have NB553_522 := zm ((by rw [hg]; exact Nat.ne_of_gt (blk_lt (g := gb522) (o := .cells #[.int .i64 t514, .int .i64 t515, .slice Ao15 t516.length co15] 27 (0, 0)) (zqK BK522.out)) : gb553 ≠ gb522)); replace BK522 := zm (zyb (g := gb522) (o := .cells #[.int .i64 t514, .int .i64 t515, .slice Ao15 t516.length co15] 27 (0, 0)) (zqK BK522.out) hb); clear hb hbox hg) | ((with_reducible refine gate_dst (N := 19) rfl ?_); refine box_event ?hg (N := 19) ?hd (cs := #[.int .i64 0, .int .i64 0, .slice none 0 0]) (t := 27) ?hr ?_; (case hd => rfl); (case hg => rfl); (case hr => exact zqS); intro gb554 hg w57 hbox hb; replace HO_7 := zm (Kd.R_below (zqR HO_7.out) hb); replace HO_11 := zm (Kd.R_below (zqR HO_11.out) hb); replace HO_522002 := zm (Kd.R_below (zqR HO_522002.out) hb); replace HO_523002 := zm (Kd.Q_below zq26 hb); replace HO546 := zm (Kd.R_below (zqR HO546.out) hb); replace HO552 := zm (Kd.Q_below (by (with_reducible repeat (first | apply Kd.Q_alloc | apply Kd.Q_drewN | apply Kd.Q_drew)); exact HO552.out) hb); have BK554 := zm (hbox); have GW554 := zm ((by rw [hg]; exact (zyi zq94) : w.heap.size ≤ gb554)); have GE554 := zm ((by rw [hg]; exact (zyi zq94) : w.heap.size ≤ gb554)); replace HB := zm (zyh zq94 hb); have NB521_554 := zm ((by rw [hg]; exact Nat.ne_of_lt (blk_lt (g := gb521) (o := .cells #[.int .i64 t509, .int .i64 t510, .slice Ao13 t511.length co13] 26 (0, 0)) (zqK BK521.out)) : gb521 ≠ gb554)); have NB554_521 := zm ((by rw [hg]; exact Nat.ne_of_gt (blk_lt (g := gb521) (o := .cells #[.int .i64 t509, .int .i64 t510, .slice Ao13 t511.length co13] 26 (0, 0)) (zqK BK521.out)) : gb554 ≠ gb521)); replace BK521 := zm (zyb (g := gb521) (o := .cells #[.int .i64 t509, .int .i64 t510, .slice Ao13 t511.length co13] 26 (0, 0)) (zqK BK521.out) hb); have NB522_554 := zm ((by rw [hg]; exact Nat.ne_of_lt (blk_lt (g := gb522) (o := .cells #[.int .i64 t514, .int .i64 t515, .slice Ao15 t516.length co15] 27 (0, 0)) (zqK BK522.out)) : gb522 ≠ gb554)); have NB554_522 := zm ((by rw [hg]; exact Nat.ne_of_gt (blk_lt (g := gb522) (o := .cells #[.int .i64 t514, .int .i64 t515, .slice Ao15 t516.length co15] 27 (0, 0)) (zqK BK522.out)) : gb554 ≠ gb522)); replace BK522 := zm (zyb (g := gb522) (o := .cells #[.int .i64 t514, .int .i64 t515, .slice Ao15 t516.length co15] 27 (0, 0)) (zqK BK522.out) hb); have NB553_554 := zm ((by rw [hg]; exact Nat.ne_of_lt (blk_lt (g := gb553) (o := zcA) (zqK BK553.out)) : gb553 ≠ gb554)); have NB554_553 := zm ((by rw [hg]; exact Nat.ne_of_gt (blk_lt (g := gb553) (o := zcA) (zqK BK553.out)) : gb554 ≠ gb553)); replace BK553 := zm (zyb (g := gb553) (o := zcA) (zqK BK553.out) hb); clear hb hbox hg; have hnb58 := NB553_521.out; have hnc58 := NB521_553.out; have hnb59 := NB553_522.out; have hnc59 := NB522_553.out; have hnb60 := NB553_554.out; have hnc60 := NB554_553.out; have hcz61_0 := bz BK553.out 0 (.int .i64 0); have hcz61_1 := bz BK553.out 1 (.int .i64 0); have hcz61_2 := bz BK553.out 2 (.slice none 0 0); have hfz61_0 := zyF BK553.out 0; have hfz61_1 := zyF BK553.out 1; have hfz61_2 := zyF BK553.out 2; obtain ⟨Ao62, co62, eo62⟩ := Kd.R_slice HO546.out; subst eo62; have hnb63 := NB554_521.out; have hnc63 := NB521_554.out; have hnb64 := NB554_522.out; have hnc64 := NB522_554.out; have hcz65_0 := bz BK554.out 0 (.int .i64 0); have hcz65_1 := bz BK554.out 1 (.int .i64 0); have hcz65_2 := bz BK554.out 2 (.slice none 0 0); have hfz65_0 := zyF BK554.out 0; have hfz65_1 := zyF BK554.out 1; have hfz65_2 := zyF BK554.out 2; obtain ⟨Ao66, co66, eo66, _⟩ := Kd.Q_slice HO552.out; subst eo66) | ((with_reducible refine zyg (f := 13) rfl ?_); refine goesL_ (some 132) rfl rfl Try.func13 (by kernel_rfl) rfl #[.agg #[.int .i64 t542, .int .i64 t543, .slice Ao62 t544.length co62], .int .i64 t547, .agg #[.int .i64 t548, .int .i64 t549, .slice Ao66 t550.length co66]] rfl zq0 ?_; (with_reducible refine (impl_AreaMaximum.calls kj28 t542 t543 _ _ t544 t547 t548 t549 _ _ t550 t555 t556 _ ?side1 ?side2 ?side3 ?side4 A52.out).mono ?_); (case side1 => refine (Kd.R_reads' (e := 3) (base := w.heap.size) (ok := fun k_ => ((((some k_ ≠ (.slice Ao66 t550.length co66 : Value).ownBlock ∧ some k_ ≠ (v524 : Value).ownBlock) ∧ some k_ ≠ (v533 : Value).ownBlock) ∧ some k_ ≠ (.slice Ao13 t511.length co13 : Value).ownBlock) ∧ some k_ ≠ (.slice Ao15 t516.length co15 : Value).ownBlock)) (n := t544.length) (c := co62) ?_).2.2; exact zq70); (case side2 => exact (Kd.R_reads' HO546.out).2.1); (case side3 => refine (Kd.Q_reads' (e := 3) (base := w.heap.size) (ok := fun k_ => ((((some k_ ≠ (.slice Ao62 t544.length co62 : Value).ownBlock ∧ some k_ ≠ (v524 : Value).ownBlock) ∧ some k_ ≠ (v533 : Value).ownBlock) ∧ some k_ ≠ (.slice Ao13 t511.length co13 : Value).ownBlock) ∧ some k_ ≠ (.slice Ao15 t516.length co15 : Value).ownBlock)) (n := t550.length) (c := co66) ?_).2.2; exact zq71); (case side4 => exact (Kd.Q_reads' HO552.out).2.1); rintro e w67 ⟨rfl, hb⟩; refine ⟨_, rfl, ?_⟩; replace HO_7 := zm (Kd.R_below (by (with_reducible repeat (first | apply Kd.R_alloc | apply Kd.R_drewN | apply Kd.R_drew)); exact (Kd.R_mono (Kd.R_mono (Kd.R_far (p := ⟨gb554, 2, none⟩) (Kd.R_far (p := ⟨gb554, 1, none⟩) (Kd.R_far (p := ⟨gb554, 0, none⟩) (Kd.R_far (p := ⟨gb553, 2, none⟩) (Kd.R_far (p := ⟨gb553, 1, none⟩) (Kd.R_far (p := ⟨gb553, 0, none⟩) (Kd.R_types (Kd.R_types HO_7.out BK553.out (by decide)) BK554.out (by decide)) (fun _ hk => hk.1.2) (.int .i64 t542)) (fun _ hk => hk.1.2) (.int .i64 t543)) (fun _ hk => hk.1.2) (.slice Ao62 t544.length co62)) (fun _ hk => hk.2) (.int .i64 t548)) (fun _ hk => hk.2) (.int .i64 t549)) (fun _ hk => hk.2) (.slice Ao66 t550.length co66)) (fun _ h_ => h_.1)) (fun _ h_ => h_.1))) hb); replace HO_11 := zm (Kd.R_below (by (with_reducible repeat (first | apply Kd.R_alloc | apply Kd.R_drewN | apply Kd.R_drew)); exact (Kd.R_mono (Kd.R_mono (Kd.R_far (p := ⟨gb554, 2, none⟩) (Kd.R_far (p := ⟨gb554, 1, none⟩) (Kd.R_far (p := ⟨gb554, 0, none⟩) (Kd.R_far (p := ⟨gb553, 2, none⟩) (Kd.R_far (p := ⟨gb553, 1, none⟩) (Kd.R_far (p := ⟨gb553, 0, none⟩) (Kd.R_types (Kd.R_types HO_11.out BK553.out (by decide)) BK554.out (by decide)) (fun _ hk => hk.1.2) (.int .i64 t542)) (fun _ hk => hk.1.2) (.int .i64 t543)) (fun _ hk => hk.1.2) (.slice Ao62 t544.length co62)) (fun _ hk => hk.2) (.int .i64 t548)) (fun _ hk => hk.2) (.int .i64 t549)) (fun _ hk => hk.2) (.slice Ao66 t550.length co66)) (fun _ h_ => h_.1)) (fun _ h_ => h_.1))) hb); replace HO_522002 := zm (Kd.R_below (by (with_reducible repeat (first | apply Kd.R_alloc | apply Kd.R_drewN | apply Kd.R_drew)); exact (Kd.R_mono (Kd.R_mono (Kd.R_far (p := ⟨gb554, 2, none⟩) (Kd.R_far (p := ⟨gb554, 1, none⟩) (Kd.R_far (p := ⟨gb554, 0, none⟩) (Kd.R_far (p := ⟨gb553, 2, none⟩) (Kd.R_far (p := ⟨gb553, 1, none⟩) (Kd.R_far (p := ⟨gb553, 0, none⟩) (Kd.R_types (Kd.R_types HO_522002.out BK553.out (by decide)) BK554.out (by decide)) (fun _ hk => hk.1.2) (.int .i64 t542)) (fun _ hk => hk.1.2) (.int .i64 t543)) (fun _ hk => hk.1.2) (.slice Ao62 t544.length co62)) (fun _ hk => hk.2) (.int .i64 t548)) (fun _ hk => hk.2) (.int .i64 t549)) (fun _ hk => hk.2) (.slice Ao66 t550.length co66)) (fun _ h_ => h_.1)) (fun _ h_ => h_.1))) hb); replace HO_523002 := zm (Kd.Q_below (by (with_reducible repeat (first | apply Kd.Q_alloc | apply Kd.Q_drewN | apply Kd.Q_drew)); exact (Kd.Q_mono (Kd.Q_mono (Kd.Q_far (p := ⟨gb554, 2, none⟩) (Kd.Q_far (p := ⟨gb554, 1, none⟩) (Kd.Q_far (p := ⟨gb554, 0, none⟩) (Kd.Q_far (p := ⟨gb553, 2, none⟩) (Kd.Q_far (p := ⟨gb553, 1, none⟩) (Kd.Q_far (p := ⟨gb553, 0, none⟩) (Kd.Q_types (Kd.Q_types HO_523002.out BK553.out (by decide)) BK554.out (by decide)) (fun _ hk => hk.1.2) (.int .i64 t542)) (fun _ hk => hk.1.2) (.int .i64 t543)) (fun _ hk => hk.1.2) (.slice Ao62 t544.length co62)) (fun _ hk => hk.2) (.int .i64 t548)) (fun _ hk => hk.2) (.int .i64 t549)) (fun _ hk => hk.2) (.slice Ao66 t550.length co66)) (fun _ h_ => h_.1)) (fun _ h_ => h_.1))) hb); replace HO546 := zm (Kd.R_below zq70 hb); replace HO552 := zm (Kd.Q_below zq71 hb); replace BK521 := zm (zyb (g := gb521) (o := .cells #[.int .i64 t509, .int .i64 t510, .slice Ao13 t511.length co13] 26 (0, 0)) (by (with_reducible repeat (first | apply zN | apply zD | apply zL)); refine zye ?_ NB521_554.out _; (with_reducible repeat (first | apply zN | apply zD | apply zL)); refine zye ?_ NB521_554.out _; (with_reducible repeat (first | apply zN | apply zD | apply zL)); refine zye ?_ NB521_554.out _; (with_reducible repeat (first | apply zN | apply zD | apply zL)); refine zye ?_ NB521_553.out _; (with_reducible repeat (first | apply zN | apply zD | apply zL)); refine zye ?_ NB521_553.out _; (with_reducible repeat (first | apply zN | apply zD | apply zL)); refine zye ?_ NB521_553.out _; (with_reducible repeat (first | apply zN | apply zD | apply zL)); exact BK521.out) hb); replace BK522 := zm (zyb (g := gb522) (o := .cells #[.int .i64 t514, .int .i64 t515, .slice Ao15 t516.length co15] 27 (0, 0)) (by (with_reducible repeat (first | apply zN | apply zD | apply zL)); refine zye ?_ NB522_554.out _; (with_reducible repeat (first | apply zN | apply zD | apply zL)); refine zye ?_ NB522_554.out _; (with_reducible repeat (first | apply zN | apply zD | apply zL)); refine zye ?_ NB522_554.out _; (with_reducible repeat (first | apply zN | apply zD | apply zL)); refine zye ?_ NB522_553.out _; (with_reducible repeat (first | apply zN | apply zD | apply zL)); refine zye ?_ NB522_553.out _; (with_reducible repeat (first | apply zN | apply zD | apply zL)); refine zye ?_ NB522_553.out _; (with_reducible repeat (first | apply zN | apply zD | apply zL)); exact BK522.out) hb); replace BK553 := zm (zyb (g := gb553) (o := .cells #[.int .i64 t542, .int .i64 t543, .slice Ao62 t544.length co62] 26 (0, 0)) (by (with_reducible repeat (first | apply zN | apply zD | apply zL)); refine zye ?_ NB553_554.out _; (with_reducible repeat (first | apply zN | apply zD | apply zL)); refine zye ?_ NB553_554.out _; (with_reducible repeat (first | apply zN | apply zD | apply zL)); refine zye ?_ NB553_554.out _; (with_reducible repeat (first | apply zN | apply zD | apply zL)); refine blk_put (cs := #[.int .i64 t542, .int .i64 t543, .slice none 0 0]) ?_ 2 _ rfl; (with_reducible repeat (first | apply zN | apply zD | apply zL)); refine blk_put (cs := #[.int .i64 t542, .int .i64 0, .slice none 0 0]) ?_ 1 _ rfl; (with_reducible repeat (first | apply zN | apply zD | apply zL)); refine blk_put (cs := #[.int .i64 0, .int .i64 0, .slice none 0 0]) ?_ 0 _ rfl; (with_reducible repeat (first | apply zN | apply zD | apply zL)); exact BK553.out) hb); replace BK554 := zm (zyb (g := gb554) (o := .cells #[.int .i64 t548, .int .i64 t549, .slice Ao66 t550.length co66] 27 (0, 0)) (by (with_reducible repeat (first | apply zN | apply zD | apply zL)); refine blk_put (cs := #[.int .i64 t548, .int .i64 t549, .slice none 0 0]) ?_ 2 _ rfl; (with_reducible repeat (first | apply zN | apply zD | apply zL)); refine blk_put (cs := #[.int .i64 t548, .int .i64 0, .slice none 0 0]) ?_ 1 _ rfl; (with_reducible repeat (first | apply zN | apply zD | apply zL)); refine blk_put (cs := #[.int .i64 0, .int .i64 0, .slice none 0 0]) ?_ 0 _ rfl; (with_reducible repeat (first | apply zN | apply zD | apply zL)); refine zye ?_ NB554_553.out _; (with_reducible repeat (first | apply zN | apply zD | apply zL)); refine zye ?_ NB554_553.out _; (with_reducible repeat (first | apply zN | apply zD | apply zL)); refine zye ?_ NB554_553.out _; (with_reducible repeat (first | apply zN | apply zD | apply zL)); exact BK554.out) hb); replace HB := zm (zyh zq12 hb); (try clear hb); (try clear hb2); (try clear hk); (try clear hi); have hcz68_0 := bz BK553.out 0 (.int .i64 t542); have hcz68_1 := bz BK553.out 1 (.int .i64 t543); have hcz68_2 := bz BK553.out 2 (.slice Ao62 t544.length co62); have hfz68_0 := zyF BK553.out 0; have hfz68_1 := zyF BK553.out 1; have hfz68_2 := zyF BK553.out 2; have hcz69_0 := bz BK554.out 0 (.int .i64 t548); have hcz69_1 := bz BK554.out 1 (.int .i64 t549); have hcz69_2 := bz BK554.out 2 (.slice Ao66 t550.length co66); have hfz69_0 := zyF BK554.out 0; have hfz69_1 := zyF BK554.out 1; have hfz69_2 := zyF BK554.out 2) | ((with_reducible refine zyg (f := 14) rfl ?_); refine goesL_ (some 139) rfl rfl Try.func14 (by kernel_rfl) rfl #[.agg #[.int .i64 t542, .int .i64 t543, .slice Ao62 t544.length co62], .int .i64 t547, .agg #[.int .i64 t548, .int .i64 t549, .slice Ao66 t550.length co66]] rfl zq0 ?_; (with_reducible refine (spec_AreaMaximum.calls kj28 t542 t543 _ _ t544 t547 t548 t549 _ _ t550 t557 t558 _ ?side1 ?side2 ?side3 ?side4 A53.out).mono ?_); (case side1 => exact zqC (Kd.R_reads' HO546.out).2.2); (case side2 => exact (Kd.R_reads' HO546.out).2.1); (case side3 => exact zqC (Kd.Q_reads' HO552.out).2.2); (case side4 => exact (Kd.Q_reads' HO552.out).2.1); rintro e w70 ⟨rfl, hb⟩; refine ⟨_, rfl, ?_⟩; replace HO_7 := zm (Kd.R_below (zqR HO_7.out) hb); replace HO_11 := zm (Kd.R_below (zqR HO_11.out) hb); replace HO_522002 := zm (Kd.R_below (zqR HO_522002.out) hb); replace HO_523002 := zm (Kd.Q_below zq26 hb); replace HO546 := zm (Kd.R_below (zqR HO546.out) hb); replace HO552 := zm (Kd.Q_below (by (with_reducible repeat (first | apply Kd.Q_alloc | apply Kd.Q_drewN | apply Kd.Q_drew)); exact HO552.out) hb); replace BK521 := zm (zyb (g := gb521) (o := .cells #[.int .i64 t509, .int .i64 t510, .slice Ao13 t511.length co13] 26 (0, 0)) (zqK BK521.out) hb); replace BK522 := zm (zyb (g := gb522) (o := .cells #[.int .i64 t514, .int .i64 t515, .slice Ao15 t516.length co15] 27 (0, 0)) (zqK BK522.out) hb); replace BK553 := zm (zyb (g := gb553) (o := .cells #[.int .i64 t542, .int .i64 t543, .slice Ao62 t544.length co62] 26 (0, 0)) (zqK BK553.out) hb); replace BK554 := zm (zyb (g := gb554) (o := .cells #[.int .i64 t548, .int .i64 t549, .slice Ao66 t550.length co66] 27 (0, 0)) (zqK BK554.out) hb); replace HB := zm (zyh zq12 hb); (try clear hb); (try clear hb2); (try clear hk); (try clear hi)))
     (try simp only [Act.put, List.setIfInBounds_toArray, List.set_cons_zero, List.set_cons_succ])
     go_cut [149] (fun v149 wc => ∃ (kq : Nat) (x149_53 : Bool), v149 = .bool x149_53 ∧ Aside0 (laws_FnAffected.j3 kq l0 t547 t555 t556 x149_53 t542 t543 t544 t548 t549 t550 = some r) ∧ Aside0 (kq ≤ kj28) ∧ Aside0 (Kd.R (Kd.int .i64) 3 wc w.heap.size (fun k_ => some k_ ≠ ((.slice Ao15 t516.length co15) : Value).ownBlock ∧ some k_ ≠ ((.slice Ao62 t544.length co62) : Value).ownBlock ∧ some k_ ≠ ((.slice Ao66 t550.length co66) : Value).ownBlock) (.slice Ao13 t511.length co13) t511) ∧ Aside0 (Kd.Q (Kd.int .i64) 3 wc w.heap.size (fun k_ => some k_ ≠ ((.slice Ao13 t511.length co13) : Value).ownBlock ∧ some k_ ≠ ((.slice Ao62 t544.length co62) : Value).ownBlock ∧ some k_ ≠ ((.slice Ao66 t550.length co66) : Value).ownBlock) (.slice Ao15 t516.length co15) t516) ∧ Aside0 (Kd.R (Kd.int .i64) 3 wc w.heap.size (fun k_ => some k_ ≠ ((.slice Ao13 t511.length co13) : Value).ownBlock ∧ some k_ ≠ ((.slice Ao15 t516.length co15) : Value).ownBlock ∧ some k_ ≠ ((.slice Ao66 t550.length co66) : Value).ownBlock) (.slice Ao62 t544.length co62) t544) ∧ Aside0 (Kd.Q (Kd.int .i64) 3 wc w.heap.size (fun k_ => some k_ ≠ ((.slice Ao13 t511.length co13) : Value).ownBlock ∧ some k_ ≠ ((.slice Ao15 t516.length co15) : Value).ownBlock ∧ some k_ ≠ ((.slice Ao62 t544.length co62) : Value).ownBlock) (.slice Ao66 t550.length co66) t550) ∧ Aside0 (wc.heap[gb521]? = some (.cells #[.int .i64 t509, .int .i64 t510, (.slice Ao13 t511.length co13)] 26 (0, 0))) ∧ Aside0 (wc.heap[gb522]? = some (.cells #[.int .i64 t514, .int .i64 t515, (.slice Ao15 t516.length co15)] 27 (0, 0))) ∧ Aside0 (wc.heap[gb553]? = some (.cells #[.int .i64 t542, .int .i64 t543, (.slice Ao62 t544.length co62)] 26 (0, 0))) ∧ Aside0 (wc.heap[gb554]? = some (.cells #[.int .i64 t548, .int .i64 t549, (.slice Ao66 t550.length co66)] 27 (0, 0))) ∧ Aside0 (Below w.heap.size w wc))
     case first =>
      have H := HC54.out
      clear HC54
      by_cases c71 : t555 = t557
      case neg =>
       rw [if_neg c71] at H
       exact absurd H (by simp)
      rw [if_pos c71] at H
      have c71b0 : (t555 == t557) = true := beq_iff_eq.mpr c71
      have c71b1 : (t555 != t557) = false := bne_eq_false_iff_eq.mpr c71
      clear c71
      (first | rw [c71b0] | (simp only [i64_w, i32_w]; rw [c71b0]) | rw [c71b1] | skip)
      have H' := zm H
      clear H
      go_wp2
      go_meet
      case rel => exact ⟨_, ((t556 != t558)), (by first | rfl | (simp; done) | (simp [*]; done)), H', ⟨by have := HJ6.out; have := HK2.out; have := HJ28.out; first | omega | exact Nat.le_refl _⟩, ⟨by (with_reducible repeat (first | apply Kd.R_alloc | apply Kd.R_drewN | apply Kd.R_drew)); exact Kd.R_mono HO_522002.out (fun _ hk => ⟨hk.1.1.2.2, ⟨hk.1.2, hk.2⟩⟩)⟩, ⟨by (with_reducible repeat (first | apply Kd.Q_alloc | apply Kd.Q_drewN | apply Kd.Q_drew)); exact Kd.Q_mono HO_523002.out (fun _ hk => ⟨hk.1.1.2.2, ⟨hk.1.2, hk.2⟩⟩)⟩, ⟨by (with_reducible repeat (first | apply Kd.R_alloc | apply Kd.R_drewN | apply Kd.R_drew)); exact Kd.R_mono HO546.out (fun _ hk => ⟨hk.1.2, ⟨hk.2, hk.1.1.1.1⟩⟩)⟩, ⟨by (with_reducible repeat (first | apply Kd.Q_alloc | apply Kd.Q_drewN | apply Kd.Q_drew)); exact Kd.Q_mono HO552.out (fun _ hk => ⟨hk.1.2, ⟨hk.2, hk.1.1.1.1⟩⟩)⟩, ⟨by (with_reducible repeat (first | apply zN | apply zD | apply zL)); exact BK521.out⟩, ⟨by (with_reducible repeat (first | apply zN | apply zD | apply zL)); exact BK522.out⟩, ⟨by (with_reducible repeat (first | apply zN | apply zD | apply zL)); exact BK553.out⟩, ⟨by (with_reducible repeat (first | apply zN | apply zD | apply zL)); exact BK554.out⟩, ⟨zq12⟩⟩
     clear HC54
     try clear c1
     try clear c2
     try clear p2
     try clear c3
     try clear c4
     try clear c5
     try clear p5
     try clear q5
     try clear hx5
     try clear c6
     try clear p6
     try clear c7
     try clear c9
     try clear c10
     try clear c11
     try clear c12
     try clear c13
     try clear c14
     try clear c20
     try clear c20b0
     try clear c20b1
     try clear c20b2
     try clear c24
     try clear c26
     try clear c30
     try clear c30b0
     try clear c33
     try clear c34
     try clear c34b0
     try clear c35
     try clear c35b0
     try clear c37
     try clear c38
     try clear c40
     try clear c40b0
     try clear c41
     try clear c41b0
     try clear c41b1
     try clear c41b2
     try clear c46
     try clear c46b0
     try clear c46b1
     try clear c46b2
     try clear p53
     try clear q53
     try clear hx53
     try clear p54
     try clear q54
     try clear hx54
     try clear c58
     try clear c59
     try clear c60
     try clear c63
     try clear c64
     try clear p64
     try clear c71
     try clear c71b0
     try clear c71b1
     try clear hcz12_0
     try clear hcz12_1
     try clear hcz12_2
     try clear hcz14_0
     try clear hcz14_1
     try clear hcz14_2
     try clear hcz17_0
     try clear hcz17_1
     try clear hcz17_2
     try clear hcz18_0
     try clear hcz18_1
     try clear hcz18_2
     try clear hcz27_0
     try clear hcz27_1
     try clear hcz27_2
     try clear hcz61_0
     try clear hcz61_1
     try clear hcz61_2
     try clear hcz65_0
     try clear hcz65_1
     try clear hcz65_2
     try clear hcz68_0
     try clear hcz68_1
     try clear hcz68_2
     try clear hcz69_0
     try clear hcz69_1
     try clear hcz69_2
     try clear hfz12_0
     try clear hfz12_1
     try clear hfz12_2
     try clear hfz14_0
     try clear hfz14_1
     try clear hfz14_2
     try clear hfz17_0
     try clear hfz17_1
     try clear hfz17_2
     try clear hfz18_0
     try clear hfz18_1
     try clear hfz18_2
     try clear hfz27_0
     try clear hfz27_1
     try clear hfz27_2
     try clear hfz61_0
     try clear hfz61_1
     try clear hfz61_2
     try clear hfz65_0
     try clear hfz65_1
     try clear hfz65_2
     try clear hfz68_0
     try clear hfz68_1
     try clear hfz68_2
     try clear hfz69_0
     try clear hfz69_1
     try clear hfz69_2
     try clear hx536_0
     try clear hx540_0
     try clear p2
     try clear p536
     try clear p540
     try clear q536
     try clear q540
     obtain ⟨kq, x149_53, rfl, HA, HJ53, HO_522002, HO_523002, HO_554002, HO_555002, BK521, BK522, BK553, BK554, HB⟩ := hcut
     cases kq with
     | zero => exact absurd HA.out (by simp [laws_FnAffected.j3])
     | succ kj53 =>
      have H := HA.out
      clear HA
      simp only [laws_FnAffected.j3] at H
      by_cases c72 : x149_53 = true
      case pos =>
       subst c72
       have H1 : (none) = some r := by rw [if_pos rfl] at H; exact H
       clear H
       have H := H1
       clear H1
       exact absurd H (by simp)
      replace c72 := Bool.eq_false_iff.mpr c72
      subst c72
      have H1 : (if t556 = true then ((impl_AreaCoverage.f kj53 t542 t543 t544 t547 t548 t549 t550 t555).bind fun bt559 => (if bt559.2.2 = true then (if bt559.1 < 1 then (none) else (laws_FnAffected.j4 kj53 l0 (decide (bt559.1 > bt559.2.1)))) else (none))) else ((spec_DrawAreaCoverage.f kj53 l0).bind fun bt582 => ((impl_AreaCoverage.f kj53 bt582.1 bt582.2.1 bt582.2.2.1 bt582.2.2.2.1 bt582.2.2.2.2.1 bt582.2.2.2.2.2.1 bt582.2.2.2.2.2.2.1 bt582.2.2.2.2.2.2.2).bind fun bt596 => ((spec_AreaCoverage.f kj53 bt582.1 bt582.2.1 bt582.2.2.1 bt582.2.2.2.1 bt582.2.2.2.2.1 bt582.2.2.2.2.2.1 bt582.2.2.2.2.2.2.1 bt582.2.2.2.2.2.2.2).bind fun bt599 => (if bt596.1 = bt599.1 then (if bt596.2.1 = bt599.2.1 then (some (bt596.2.2 == bt599.2.2)) else (none)) else (none)))))) = some r := by rw [if_neg (show ¬ (false = true) by decide)] at H; exact H
      clear H
      have H := H1
      clear H1
      by_cases c73 : t556 = true
      case neg =>
       replace c73 := Bool.eq_false_iff.mpr c73
       subst c73
       have H1 : ((spec_DrawAreaCoverage.f kj53 l0).bind fun bt582 => ((impl_AreaCoverage.f kj53 bt582.1 bt582.2.1 bt582.2.2.1 bt582.2.2.2.1 bt582.2.2.2.2.1 bt582.2.2.2.2.2.1 bt582.2.2.2.2.2.2.1 bt582.2.2.2.2.2.2.2).bind fun bt596 => ((spec_AreaCoverage.f kj53 bt582.1 bt582.2.1 bt582.2.2.1 bt582.2.2.2.1 bt582.2.2.2.2.1 bt582.2.2.2.2.2.1 bt582.2.2.2.2.2.2.1 bt582.2.2.2.2.2.2.2).bind fun bt599 => (if bt596.1 = bt599.1 then (if bt596.2.1 = bt599.2.1 then (some (bt596.2.2 == bt599.2.2)) else (none)) else (none))))) = some r := by rw [if_neg (show ¬ (false = true) by decide)] at H; exact H
       clear H
       have H := H1
       clear H1
       obtain ⟨⟨t582, t583, t584, t587, t588, t589, t590, t593⟩, A1120, H⟩ := zob H
       replace H : ((impl_AreaCoverage.f kj53 t582 t583 t584 t587 t588 t589 t590 t593).bind fun bt596 => ((spec_AreaCoverage.f kj53 t582 t583 t584 t587 t588 t589 t590 t593).bind fun bt599 => (if bt596.1 = bt599.1 then (if bt596.2.1 = bt599.2.1 then (some (bt596.2.2 == bt599.2.2)) else (none)) else (none)))) = some r := H
       have A112 := zm A1120
       clear A1120
       obtain ⟨⟨t596, t597, t598⟩, A1130, H⟩ := zob H
       replace H : ((spec_AreaCoverage.f kj53 t582 t583 t584 t587 t588 t589 t590 t593).bind fun bt599 => (if t596 = bt599.1 then (if t597 = bt599.2.1 then (some (t598 == bt599.2.2)) else (none)) else (none))) = some r := H
       have A113 := zm A1130
       clear A1130
       obtain ⟨⟨t599, t600, t601⟩, A1140, H⟩ := zob H
       replace H : (if t596 = t599 then (if t597 = t600 then (some (t598 == t601)) else (none)) else (none)) = some r := H
       have A114 := zm A1140
       clear A1140
       by_cases c115 : t596 = t599
       case neg =>
        rw [if_neg c115] at H
        exact absurd H (by simp)
       rw [if_pos c115] at H
       have c115b0 : (t596 == t599) = true := beq_iff_eq.mpr c115
       have c115b1 : (t596 != t599) = false := bne_eq_false_iff_eq.mpr c115
       clear c115
       by_cases c116 : t597 = t600
       case neg =>
        rw [if_neg c116] at H
        exact absurd H (by simp)
       rw [if_pos c116] at H
       have c116b0 : (t597 == t600) = true := beq_iff_eq.mpr c116
       have c116b1 : (t597 != t600) = false := bne_eq_false_iff_eq.mpr c116
       clear c116
       obtain rfl := Option.some.inj H
       go_wp2_with (first | ((with_reducible refine zyg (f := 15) rfl ?_); refine goesL_ (some 173) rfl rfl Try.func15 (by kernel_rfl) rfl #[.slice A0 l0.length c0] rfl zq0 ?_; (with_reducible refine (spec_DrawAreaCoverage.calls kj53 _ _ l0 t582 t583 t584 t587 t588 t589 t590 t593 _ ?side1 ?side2 A112.out).mono ?_); (case side1 => exact zqC (Kd.C_below HR0.out HB.out)); (case side2 => exact HC0.out); rintro e w117 ⟨v585, v591, rfl, ho0, ho1, hb⟩; refine ⟨_, rfl, ?_⟩; have HO586 := zm (Kd.R_lower (Kd.R_new' (Kd.R_new' (Kd.R_new' (Kd.R_new' ho0 (Kd.R_lt (zqR HO_522002.out))) (Kd.Q_lt zq26)) (Kd.R_lt (zqR HO_554002.out))) (Kd.Q_lt zq48)) (zyi zq12)); have HO592 := zm (Kd.Q_lower (Kd.Q_new' (Kd.Q_new' (Kd.Q_new' (Kd.Q_new' ho1 (Kd.R_lt (zqR HO_522002.out))) (Kd.Q_lt zq26)) (Kd.R_lt (zqR HO_554002.out))) (Kd.Q_lt zq48)) (zyi zq12)); replace HO_522002 := zm (Kd.R_mono (Kd.R_told (Kd.R_told (Kd.R_old (zqR HO_522002.out) hb) (Kd.R_base ho0)) (Kd.Q_base ho1)) (fun _ h_ => h_.1)); replace HO_523002 := zm (Kd.Q_mono (Kd.Q_told (Kd.Q_told (Kd.Q_old zq26 hb) (Kd.R_base ho0)) (Kd.Q_base ho1)) (fun _ h_ => h_.1)); replace HO_554002 := zm (Kd.R_mono (Kd.R_told (Kd.R_told (Kd.R_old (zqR HO_554002.out) hb) (Kd.R_base ho0)) (Kd.Q_base ho1)) (fun _ h_ => h_.1)); replace HO_555002 := zm (Kd.Q_mono (Kd.Q_told (Kd.Q_told (Kd.Q_old zq48 hb) (Kd.R_base ho0)) (Kd.Q_base ho1)) (fun _ h_ => h_.1)); replace BK521 := zm (zyb (g := gb521) (o := .cells #[.int .i64 t509, .int .i64 t510, .slice Ao13 t511.length co13] 26 (0, 0)) (zqK BK521.out) hb); replace BK522 := zm (zyb (g := gb522) (o := .cells #[.int .i64 t514, .int .i64 t515, .slice Ao15 t516.length co15] 27 (0, 0)) (zqK BK522.out) hb); replace BK553 := zm (zyb (g := gb553) (o := .cells #[.int .i64 t542, .int .i64 t543, .slice Ao62 t544.length co62] 26 (0, 0)) (zqK BK553.out) hb); replace BK554 := zm (zyb (g := gb554) (o := .cells #[.int .i64 t548, .int .i64 t549, .slice Ao66 t550.length co66] 27 (0, 0)) (zqK BK554.out) hb); replace HB := zm (zyh zq12 hb); (try clear hb); (try clear hb2); (try clear hk); (try clear hi); (try clear ho0); (try clear ho1)) | ((with_reducible refine gate_dst (N := 27) rfl ?_); refine box_event ?hg (N := 27) ?hd (cs := #[.int .i64 0, .int .i64 0, .slice none 0 0]) (t := 26) ?hr ?_; (case hd => rfl); (case hg => rfl); (case hr => exact zqS); intro gb594 hg w118 hbox hb; replace HO_522002 := zm (Kd.R_below (zqR HO_522002.out) hb); replace HO_523002 := zm (Kd.Q_below zq26 hb); replace HO_554002 := zm (Kd.R_below (zqR HO_554002.out) hb); replace HO_555002 := zm (Kd.Q_below zq48 hb); replace HO586 := zm (Kd.R_below (zqR HO586.out) hb); replace HO592 := zm (Kd.Q_below (by (with_reducible repeat (first | apply Kd.Q_alloc | apply Kd.Q_drewN | apply Kd.Q_drew)); exact HO592.out) hb); have BK594 := zm (hbox); have GW594 := zm ((by rw [hg]; exact (zyi zq12) : w.heap.size ≤ gb594)); have GE594 := zm ((by rw [hg]; exact (zyi zq12) : w.heap.size ≤ gb594)); replace HB := zm (zyh zq12 hb); have NB521_594 := zm ((by rw [hg]; exact Nat.ne_of_lt (blk_lt (g := gb521) (o := .cells #[.int .i64 t509, .int .i64 t510, .slice Ao13 t511.length co13] 26 (0, 0)) (zqK BK521.out)) : gb521 ≠ gb594)); have NB594_521 := zm ((by rw [hg]; exact Nat.ne_of_gt (blk_lt (g := gb521) (o := .cells #[.int .i64 t509, .int .i64 t510, .slice Ao13 t511.length co13] 26 (0, 0)) (zqK BK521.out)) : gb594 ≠ gb521)); replace BK521 := zm (zyb (g := gb521) (o := .cells #[.int .i64 t509, .int .i64 t510, .slice Ao13 t511.length co13] 26 (0, 0)) (zqK BK521.out) hb); have NB522_594 := zm ((by rw [hg]; exact Nat.ne_of_lt (blk_lt (g := gb522) (o := .cells #[.int .i64 t514, .int .i64 t515, .slice Ao15 t516.length co15] 27 (0, 0)) (zqK BK522.out)) : gb522 ≠ gb594)); have NB594_522 := zm ((by rw [hg]; exact Nat.ne_of_gt (blk_lt (g := gb522) (o := .cells #[.int .i64 t514, .int .i64 t515, .slice Ao15 t516.length co15] 27 (0, 0)) (zqK BK522.out)) : gb594 ≠ gb522)); replace BK522 := zm (zyb (g := gb522) (o := .cells #[.int .i64 t514, .int .i64 t515, .slice Ao15 t516.length co15] 27 (0, 0)) (zqK BK522.out) hb); have NB553_594 := zm ((by rw [hg]; exact Nat.ne_of_lt (blk_lt (g := gb553) (o := .cells #[.int .i64 t542, .int .i64 t543, .slice Ao62 t544.length co62] 26 (0, 0)) (zqK BK553.out)) : gb553 ≠ gb594)); have NB594_553 := zm ((by rw [hg]; exact Nat.ne_of_gt (blk_lt (g := gb553) (o := .cells #[.int .i64 t542, .int .i64 t543, .slice Ao62 t544.length co62] 26 (0, 0)) (zqK BK553.out)) : gb594 ≠ gb553)); replace BK553 := zm (zyb (g := gb553) (o := .cells #[.int .i64 t542, .int .i64 t543, .slice Ao62 t544.length co62] 26 (0, 0)) (zqK BK553.out) hb); have NB554_594 := zm ((by rw [hg]; exact Nat.ne_of_lt (blk_lt (g := gb554) (o := .cells #[.int .i64 t548, .int .i64 t549, .slice Ao66 t550.length co66] 27 (0, 0)) (zqK BK554.out)) : gb554 ≠ gb594)); have NB594_554 := zm ((by rw [hg]; exact Nat.ne_of_gt (blk_lt (g := gb554) (o := .cells #[.int .i64 t548, .int .i64 t549, .slice Ao66 t550.length co66] 27 (0, 0)) (zqK BK554.out)) : gb594 ≠ gb554)); replace BK554 := zm (zyb (g := gb554) (o := .cells #[.int .i64 t548, .int .i64 t549, .slice Ao66 t550.length co66] 27 (0, 0)) (zqK BK554.out) hb); clear hb hbox hg) | ((with_reducible refine gate_dst (N := 29) rfl ?_); refine box_event ?hg (N := 29) ?hd (cs := #[.int .i64 0, .int .i64 0, .slice none 0 0]) (t := 27) ?hr ?_; (case hd => rfl); (case hg => rfl); (case hr => exact zqS); intro gb595 hg w119 hbox hb; replace HO_522002 := zm (Kd.R_below (zqR HO_522002.out) hb); replace HO_523002 := zm (Kd.Q_below zq26 hb); replace HO_554002 := zm (Kd.R_below (zqR HO_554002.out) hb); replace HO_555002 := zm (Kd.Q_below zq48 hb); replace HO586 := zm (Kd.R_below (zqR HO586.out) hb); replace HO592 := zm (Kd.Q_below (by (with_reducible repeat (first | apply Kd.Q_alloc | apply Kd.Q_drewN | apply Kd.Q_drew)); exact HO592.out) hb); have BK595 := zm (hbox); have GW595 := zm ((by rw [hg]; exact (zyi zq87) : w.heap.size ≤ gb595)); have GE595 := zm ((by rw [hg]; exact (zyi zq87) : w.heap.size ≤ gb595)); replace HB := zm (zyh zq87 hb); have NB521_595 := zm ((by rw [hg]; exact Nat.ne_of_lt (blk_lt (g := gb521) (o := .cells #[.int .i64 t509, .int .i64 t510, .slice Ao13 t511.length co13] 26 (0, 0)) (zqK BK521.out)) : gb521 ≠ gb595)); have NB595_521 := zm ((by rw [hg]; exact Nat.ne_of_gt (blk_lt (g := gb521) (o := .cells #[.int .i64 t509, .int .i64 t510, .slice Ao13 t511.length co13] 26 (0, 0)) (zqK BK521.out)) : gb595 ≠ gb521)); replace BK521 := zm (zyb (g := gb521) (o := .cells #[.int .i64 t509, .int .i64 t510, .slice Ao13 t511.length co13] 26 (0, 0)) (zqK BK521.out) hb); have NB522_595 := zm ((by rw [hg]; exact Nat.ne_of_lt (blk_lt (g := gb522) (o := .cells #[.int .i64 t514, .int .i64 t515, .slice Ao15 t516.length co15] 27 (0, 0)) (zqK BK522.out)) : gb522 ≠ gb595)); have NB595_522 := zm ((by rw [hg]; exact Nat.ne_of_gt (blk_lt (g := gb522) (o := .cells #[.int .i64 t514, .int .i64 t515, .slice Ao15 t516.length co15] 27 (0, 0)) (zqK BK522.out)) : gb595 ≠ gb522)); replace BK522 := zm (zyb (g := gb522) (o := .cells #[.int .i64 t514, .int .i64 t515, .slice Ao15 t516.length co15] 27 (0, 0)) (zqK BK522.out) hb); have NB553_595 := zm ((by rw [hg]; exact Nat.ne_of_lt (blk_lt (g := gb553) (o := .cells #[.int .i64 t542, .int .i64 t543, .slice Ao62 t544.length co62] 26 (0, 0)) (zqK BK553.out)) : gb553 ≠ gb595)); have NB595_553 := zm ((by rw [hg]; exact Nat.ne_of_gt (blk_lt (g := gb553) (o := .cells #[.int .i64 t542, .int .i64 t543, .slice Ao62 t544.length co62] 26 (0, 0)) (zqK BK553.out)) : gb595 ≠ gb553)); replace BK553 := zm (zyb (g := gb553) (o := .cells #[.int .i64 t542, .int .i64 t543, .slice Ao62 t544.length co62] 26 (0, 0)) (zqK BK553.out) hb); have NB554_595 := zm ((by rw [hg]; exact Nat.ne_of_lt (blk_lt (g := gb554) (o := .cells #[.int .i64 t548, .int .i64 t549, .slice Ao66 t550.length co66] 27 (0, 0)) (zqK BK554.out)) : gb554 ≠ gb595)); have NB595_554 := zm ((by rw [hg]; exact Nat.ne_of_gt (blk_lt (g := gb554) (o := .cells #[.int .i64 t548, .int .i64 t549, .slice Ao66 t550.length co66] 27 (0, 0)) (zqK BK554.out)) : gb595 ≠ gb554)); replace BK554 := zm (zyb (g := gb554) (o := .cells #[.int .i64 t548, .int .i64 t549, .slice Ao66 t550.length co66] 27 (0, 0)) (zqK BK554.out) hb); have NB594_595 := zm ((by rw [hg]; exact Nat.ne_of_lt (blk_lt (g := gb594) (o := zcA) (zqK BK594.out)) : gb594 ≠ gb595)); have NB595_594 := zm ((by rw [hg]; exact Nat.ne_of_gt (blk_lt (g := gb594) (o := zcA) (zqK BK594.out)) : gb595 ≠ gb594)); replace BK594 := zm (zyb (g := gb594) (o := zcA) (zqK BK594.out) hb); clear hb hbox hg; have hnb120 := NB594_521.out; have hnc120 := NB521_594.out; have hnb121 := NB594_522.out; have hnc121 := NB522_594.out; have hnb122 := NB594_553.out; have hnc122 := NB553_594.out; have hnb123 := NB594_554.out; have hnc123 := NB554_594.out; have hnb124 := NB594_595.out; have hnc124 := NB595_594.out; have hcz125_0 := bz BK594.out 0 (.int .i64 0); have hcz125_1 := bz BK594.out 1 (.int .i64 0); have hcz125_2 := bz BK594.out 2 (.slice none 0 0); have hfz125_0 := zyF BK594.out 0; have hfz125_1 := zyF BK594.out 1; have hfz125_2 := zyF BK594.out 2; obtain ⟨Ao126, co126, eo126⟩ := Kd.R_slice HO586.out; subst eo126; have hnb127 := NB595_521.out; have hnc127 := NB521_595.out; have hnb128 := NB595_522.out; have hnc128 := NB522_595.out; have hnb129 := NB595_553.out; have hnc129 := NB553_595.out; have hnb130 := NB595_554.out; have hnc130 := NB554_595.out; have hcz131_0 := bz BK595.out 0 (.int .i64 0); have hcz131_1 := bz BK595.out 1 (.int .i64 0); have hcz131_2 := bz BK595.out 2 (.slice none 0 0); have hfz131_0 := zyF BK595.out 0; have hfz131_1 := zyF BK595.out 1; have hfz131_2 := zyF BK595.out 2; obtain ⟨Ao132, co132, eo132, _⟩ := Kd.Q_slice HO592.out; subst eo132) | ((with_reducible refine zyg (f := 10) rfl ?_); refine goesL_ (some 183) rfl rfl Try.func10 (by kernel_rfl) rfl #[.agg #[.int .i64 t582, .int .i64 t583, .slice Ao126 t584.length co126], .int .i64 t587, .agg #[.int .i64 t588, .int .i64 t589, .slice Ao132 t590.length co132], .int .i64 t593] rfl zq0 ?_; (with_reducible refine (impl_AreaCoverage.calls kj53 t582 t583 _ _ t584 t587 t588 t589 _ _ t590 t593 t596 t597 t598 _ ?side1 ?side2 ?side3 ?side4 A113.out).mono ?_); (case side1 => refine (Kd.R_reads' (e := 3) (base := w.heap.size) (ok := fun k_ => ((((some k_ ≠ (.slice Ao132 t590.length co132 : Value).ownBlock ∧ some k_ ≠ (.slice Ao13 t511.length co13 : Value).ownBlock) ∧ some k_ ≠ (.slice Ao15 t516.length co15 : Value).ownBlock) ∧ some k_ ≠ (.slice Ao62 t544.length co62 : Value).ownBlock) ∧ some k_ ≠ (.slice Ao66 t550.length co66 : Value).ownBlock)) (n := t584.length) (c := co126) ?_).2.2; exact zq66); (case side2 => exact (Kd.R_reads' HO586.out).2.1); (case side3 => refine (Kd.Q_reads' (e := 3) (base := w.heap.size) (ok := fun k_ => ((((some k_ ≠ (.slice Ao126 t584.length co126 : Value).ownBlock ∧ some k_ ≠ (.slice Ao13 t511.length co13 : Value).ownBlock) ∧ some k_ ≠ (.slice Ao15 t516.length co15 : Value).ownBlock) ∧ some k_ ≠ (.slice Ao62 t544.length co62 : Value).ownBlock) ∧ some k_ ≠ (.slice Ao66 t550.length co66 : Value).ownBlock)) (n := t590.length) (c := co132) ?_).2.2; exact zq67); (case side4 => exact (Kd.Q_reads' HO592.out).2.1); rintro e w133 ⟨rfl, hb⟩; refine ⟨_, rfl, ?_⟩; replace HO_522002 := zm (Kd.R_below (by (with_reducible repeat (first | apply Kd.R_alloc | apply Kd.R_drewN | apply Kd.R_drew)); exact (Kd.R_mono (Kd.R_mono (Kd.R_far (p := ⟨gb595, 2, none⟩) (Kd.R_far (p := ⟨gb595, 1, none⟩) (Kd.R_far (p := ⟨gb595, 0, none⟩) (Kd.R_far (p := ⟨gb594, 2, none⟩) (Kd.R_far (p := ⟨gb594, 1, none⟩) (Kd.R_far (p := ⟨gb594, 0, none⟩) (Kd.R_types (Kd.R_types HO_522002.out BK594.out (by decide)) BK595.out (by decide)) (fun _ hk => hk.1.2) (.int .i64 t582)) (fun _ hk => hk.1.2) (.int .i64 t583)) (fun _ hk => hk.1.2) (.slice Ao126 t584.length co126)) (fun _ hk => hk.2) (.int .i64 t588)) (fun _ hk => hk.2) (.int .i64 t589)) (fun _ hk => hk.2) (.slice Ao132 t590.length co132)) (fun _ h_ => h_.1)) (fun _ h_ => h_.1))) hb); replace HO_523002 := zm (Kd.Q_below (by (with_reducible repeat (first | apply Kd.Q_alloc | apply Kd.Q_drewN | apply Kd.Q_drew)); exact (Kd.Q_mono (Kd.Q_mono (Kd.Q_far (p := ⟨gb595, 2, none⟩) (Kd.Q_far (p := ⟨gb595, 1, none⟩) (Kd.Q_far (p := ⟨gb595, 0, none⟩) (Kd.Q_far (p := ⟨gb594, 2, none⟩) (Kd.Q_far (p := ⟨gb594, 1, none⟩) (Kd.Q_far (p := ⟨gb594, 0, none⟩) (Kd.Q_types (Kd.Q_types HO_523002.out BK594.out (by decide)) BK595.out (by decide)) (fun _ hk => hk.1.2) (.int .i64 t582)) (fun _ hk => hk.1.2) (.int .i64 t583)) (fun _ hk => hk.1.2) (.slice Ao126 t584.length co126)) (fun _ hk => hk.2) (.int .i64 t588)) (fun _ hk => hk.2) (.int .i64 t589)) (fun _ hk => hk.2) (.slice Ao132 t590.length co132)) (fun _ h_ => h_.1)) (fun _ h_ => h_.1))) hb); replace HO_554002 := zm (Kd.R_below (by (with_reducible repeat (first | apply Kd.R_alloc | apply Kd.R_drewN | apply Kd.R_drew)); exact (Kd.R_mono (Kd.R_mono (Kd.R_far (p := ⟨gb595, 2, none⟩) (Kd.R_far (p := ⟨gb595, 1, none⟩) (Kd.R_far (p := ⟨gb595, 0, none⟩) (Kd.R_far (p := ⟨gb594, 2, none⟩) (Kd.R_far (p := ⟨gb594, 1, none⟩) (Kd.R_far (p := ⟨gb594, 0, none⟩) (Kd.R_types (Kd.R_types HO_554002.out BK594.out (by decide)) BK595.out (by decide)) (fun _ hk => hk.1.2) (.int .i64 t582)) (fun _ hk => hk.1.2) (.int .i64 t583)) (fun _ hk => hk.1.2) (.slice Ao126 t584.length co126)) (fun _ hk => hk.2) (.int .i64 t588)) (fun _ hk => hk.2) (.int .i64 t589)) (fun _ hk => hk.2) (.slice Ao132 t590.length co132)) (fun _ h_ => h_.1)) (fun _ h_ => h_.1))) hb); replace HO_555002 := zm (Kd.Q_below (by (with_reducible repeat (first | apply Kd.Q_alloc | apply Kd.Q_drewN | apply Kd.Q_drew)); exact (Kd.Q_mono (Kd.Q_mono (Kd.Q_far (p := ⟨gb595, 2, none⟩) (Kd.Q_far (p := ⟨gb595, 1, none⟩) (Kd.Q_far (p := ⟨gb595, 0, none⟩) (Kd.Q_far (p := ⟨gb594, 2, none⟩) (Kd.Q_far (p := ⟨gb594, 1, none⟩) (Kd.Q_far (p := ⟨gb594, 0, none⟩) (Kd.Q_types (Kd.Q_types HO_555002.out BK594.out (by decide)) BK595.out (by decide)) (fun _ hk => hk.1.2) (.int .i64 t582)) (fun _ hk => hk.1.2) (.int .i64 t583)) (fun _ hk => hk.1.2) (.slice Ao126 t584.length co126)) (fun _ hk => hk.2) (.int .i64 t588)) (fun _ hk => hk.2) (.int .i64 t589)) (fun _ hk => hk.2) (.slice Ao132 t590.length co132)) (fun _ h_ => h_.1)) (fun _ h_ => h_.1))) hb); replace HO586 := zm (Kd.R_below zq66 hb); replace HO592 := zm (Kd.Q_below zq67 hb); replace BK521 := zm (zyb (g := gb521) (o := .cells #[.int .i64 t509, .int .i64 t510, .slice Ao13 t511.length co13] 26 (0, 0)) (by (with_reducible repeat (first | apply zN | apply zD | apply zL)); refine zye ?_ NB521_595.out _; (with_reducible repeat (first | apply zN | apply zD | apply zL)); refine zye ?_ NB521_595.out _; (with_reducible repeat (first | apply zN | apply zD | apply zL)); refine zye ?_ NB521_595.out _; (with_reducible repeat (first | apply zN | apply zD | apply zL)); refine zye ?_ NB521_594.out _; (with_reducible repeat (first | apply zN | apply zD | apply zL)); refine zye ?_ NB521_594.out _; (with_reducible repeat (first | apply zN | apply zD | apply zL)); refine zye ?_ NB521_594.out _; (with_reducible repeat (first | apply zN | apply zD | apply zL)); exact BK521.out) hb); replace BK522 := zm (zyb (g := gb522) (o := .cells #[.int .i64 t514, .int .i64 t515, .slice Ao15 t516.length co15] 27 (0, 0)) (by (with_reducible repeat (first | apply zN | apply zD | apply zL)); refine zye ?_ NB522_595.out _; (with_reducible repeat (first | apply zN | apply zD | apply zL)); refine zye ?_ NB522_595.out _; (with_reducible repeat (first | apply zN | apply zD | apply zL)); refine zye ?_ NB522_595.out _; (with_reducible repeat (first | apply zN | apply zD | apply zL)); refine zye ?_ NB522_594.out _; (with_reducible repeat (first | apply zN | apply zD | apply zL)); refine zye ?_ NB522_594.out _; (with_reducible repeat (first | apply zN | apply zD | apply zL)); refine zye ?_ NB522_594.out _; (with_reducible repeat (first | apply zN | apply zD | apply zL)); exact BK522.out) hb); replace BK553 := zm (zyb (g := gb553) (o := .cells #[.int .i64 t542, .int .i64 t543, .slice Ao62 t544.length co62] 26 (0, 0)) (by (with_reducible repeat (first | apply zN | apply zD | apply zL)); refine zye ?_ NB553_595.out _; (with_reducible repeat (first | apply zN | apply zD | apply zL)); refine zye ?_ NB553_595.out _; (with_reducible repeat (first | apply zN | apply zD | apply zL)); refine zye ?_ NB553_595.out _; (with_reducible repeat (first | apply zN | apply zD | apply zL)); refine zye ?_ NB553_594.out _; (with_reducible repeat (first | apply zN | apply zD | apply zL)); refine zye ?_ NB553_594.out _; (with_reducible repeat (first | apply zN | apply zD | apply zL)); refine zye ?_ NB553_594.out _; (with_reducible repeat (first | apply zN | apply zD | apply zL)); exact BK553.out) hb); replace BK554 := zm (zyb (g := gb554) (o := .cells #[.int .i64 t548, .int .i64 t549, .slice Ao66 t550.length co66] 27 (0, 0)) (by (with_reducible repeat (first | apply zN | apply zD | apply zL)); refine zye ?_ NB554_595.out _; (with_reducible repeat (first | apply zN | apply zD | apply zL)); refine zye ?_ NB554_595.out _; (with_reducible repeat (first | apply zN | apply zD | apply zL)); refine zye ?_ NB554_595.out _; (with_reducible repeat (first | apply zN | apply zD | apply zL)); refine zye ?_ NB554_594.out _; (with_reducible repeat (first | apply zN | apply zD | apply zL)); refine zye ?_ NB554_594.out _; (with_reducible repeat (first | apply zN | apply zD | apply zL)); refine zye ?_ NB554_594.out _; (with_reducible repeat (first | apply zN | apply zD | apply zL)); exact BK554.out) hb); replace BK594 := zm (zyb (g := gb594) (o := .cells #[.int .i64 t582, .int .i64 t583, .slice Ao126 t584.length co126] 26 (0, 0)) (by (with_reducible repeat (first | apply zN | apply zD | apply zL)); refine zye ?_ NB594_595.out _; (with_reducible repeat (first | apply zN | apply zD | apply zL)); refine zye ?_ NB594_595.out _; (with_reducible repeat (first | apply zN | apply zD | apply zL)); refine zye ?_ NB594_595.out _; (with_reducible repeat (first | apply zN | apply zD | apply zL)); refine blk_put (cs := #[.int .i64 t582, .int .i64 t583, .slice none 0 0]) ?_ 2 _ rfl; (with_reducible repeat (first | apply zN | apply zD | apply zL)); refine blk_put (cs := #[.int .i64 t582, .int .i64 0, .slice none 0 0]) ?_ 1 _ rfl; (with_reducible repeat (first | apply zN | apply zD | apply zL)); refine blk_put (cs := #[.int .i64 0, .int .i64 0, .slice none 0 0]) ?_ 0 _ rfl; (with_reducible repeat (first | apply zN | apply zD | apply zL)); exact BK594.out) hb); replace BK595 := zm (zyb (g := gb595) (o := .cells #[.int .i64 t588, .int .i64 t589, .slice Ao132 t590.length co132] 27 (0, 0)) (by (with_reducible repeat (first | apply zN | apply zD | apply zL)); refine blk_put (cs := #[.int .i64 t588, .int .i64 t589, .slice none 0 0]) ?_ 2 _ rfl; (with_reducible repeat (first | apply zN | apply zD | apply zL)); refine blk_put (cs := #[.int .i64 t588, .int .i64 0, .slice none 0 0]) ?_ 1 _ rfl; (with_reducible repeat (first | apply zN | apply zD | apply zL)); refine blk_put (cs := #[.int .i64 0, .int .i64 0, .slice none 0 0]) ?_ 0 _ rfl; (with_reducible repeat (first | apply zN | apply zD | apply zL)); refine zye ?_ NB595_594.out _; (with_reducible repeat (first | apply zN | apply zD | apply zL)); refine zye ?_ NB595_594.out _; (with_reducible repeat (first | apply zN | apply zD | apply zL)); refine zye ?_ NB595_594.out _; (with_reducible repeat (first | apply zN | apply zD | apply zL)); exact BK595.out) hb); replace HB := zm (zyh zq78 hb); (try clear hb); (try clear hb2); (try clear hk); (try clear hi); have hcz134_0 := bz BK594.out 0 (.int .i64 t582); have hcz134_1 := bz BK594.out 1 (.int .i64 t583); have hcz134_2 := bz BK594.out 2 (.slice Ao126 t584.length co126); have hfz134_0 := zyF BK594.out 0; have hfz134_1 := zyF BK594.out 1; have hfz134_2 := zyF BK594.out 2; have hcz135_0 := bz BK595.out 0 (.int .i64 t588); have hcz135_1 := bz BK595.out 1 (.int .i64 t589); have hcz135_2 := bz BK595.out 2 (.slice Ao132 t590.length co132); have hfz135_0 := zyF BK595.out 0; have hfz135_1 := zyF BK595.out 1; have hfz135_2 := zyF BK595.out 2) | ((with_reducible refine zyg (f := 16) rfl ?_); refine goesL_ (some 192) rfl rfl Try.func16 (by kernel_rfl) rfl #[.agg #[.int .i64 t582, .int .i64 t583, .slice Ao126 t584.length co126], .int .i64 t587, .agg #[.int .i64 t588, .int .i64 t589, .slice Ao132 t590.length co132], .int .i64 t593] rfl zq0 ?_; (with_reducible refine (spec_AreaCoverage.calls kj53 t582 t583 _ _ t584 t587 t588 t589 _ _ t590 t593 t599 t600 t601 _ ?side1 ?side2 ?side3 ?side4 A114.out).mono ?_); (case side1 => exact zqC (Kd.R_reads' HO586.out).2.2); (case side2 => exact (Kd.R_reads' HO586.out).2.1); (case side3 => exact zqC (Kd.Q_reads' HO592.out).2.2); (case side4 => exact (Kd.Q_reads' HO592.out).2.1); rintro e w136 ⟨rfl, hb⟩; refine ⟨_, rfl, ?_⟩; replace HO_522002 := zm (Kd.R_below (zqR HO_522002.out) hb); replace HO_523002 := zm (Kd.Q_below zq26 hb); replace HO_554002 := zm (Kd.R_below (zqR HO_554002.out) hb); replace HO_555002 := zm (Kd.Q_below zq48 hb); replace HO586 := zm (Kd.R_below (zqR HO586.out) hb); replace HO592 := zm (Kd.Q_below (by (with_reducible repeat (first | apply Kd.Q_alloc | apply Kd.Q_drewN | apply Kd.Q_drew)); exact HO592.out) hb); replace BK521 := zm (zyb (g := gb521) (o := .cells #[.int .i64 t509, .int .i64 t510, .slice Ao13 t511.length co13] 26 (0, 0)) (zqK BK521.out) hb); replace BK522 := zm (zyb (g := gb522) (o := .cells #[.int .i64 t514, .int .i64 t515, .slice Ao15 t516.length co15] 27 (0, 0)) (zqK BK522.out) hb); replace BK553 := zm (zyb (g := gb553) (o := .cells #[.int .i64 t542, .int .i64 t543, .slice Ao62 t544.length co62] 26 (0, 0)) (zqK BK553.out) hb); replace BK554 := zm (zyb (g := gb554) (o := .cells #[.int .i64 t548, .int .i64 t549, .slice Ao66 t550.length co66] 27 (0, 0)) (zqK BK554.out) hb); replace BK594 := zm (zyb (g := gb594) (o := .cells #[.int .i64 t582, .int .i64 t583, .slice Ao126 t584.length co126] 26 (0, 0)) (zqK BK594.out) hb); replace BK595 := zm (zyb (g := gb595) (o := .cells #[.int .i64 t588, .int .i64 t589, .slice Ao132 t590.length co132] 27 (0, 0)) (zqK BK595.out) hb); replace HB := zm (zyh zq78 hb); (try clear hb); (try clear hb2); (try clear hk); (try clear hi)))
       go_ret
       exact ⟨zqE, zq78⟩
      subst c73
      have H1 : ((impl_AreaCoverage.f kj53 t542 t543 t544 t547 t548 t549 t550 t555).bind fun bt559 => (if bt559.2.2 = true then (if bt559.1 < 1 then (none) else (laws_FnAffected.j4 kj53 l0 (decide (bt559.1 > bt559.2.1)))) else (none))) = some r := by rw [if_pos rfl] at H; exact H
      clear H
      have H := H1
      clear H1
      obtain ⟨⟨t559, t560, t561⟩, A740, H⟩ := zob H
      replace H : (if t561 = true then (if t559 < 1 then (none) else (laws_FnAffected.j4 kj53 l0 (decide (t559 > t560)))) else (none)) = some r := H
      have A74 := zm A740
      clear A740
      have HC75 := zm H
      clear H
      have hnb76 := NB553_521.out
      have hnc76 := NB521_553.out
      have hnb77 := NB553_522.out
      have hnc77 := NB522_553.out
      have hnb78 := NB553_554.out
      have hnc78 := NB554_553.out
      have hcz79_0 := bz BK553.out 0 (.int .i64 t542)
      have hcz79_1 := bz BK553.out 1 (.int .i64 t543)
      have hcz79_2 := bz BK553.out 2 (.slice Ao62 t544.length co62)
      have hfz79_0 := zyF BK553.out 0
      have hfz79_1 := zyF BK553.out 1
      have hfz79_2 := zyF BK553.out 2
      have hnb80 := NB554_521.out
      have hnc80 := NB521_554.out
      have hnb81 := NB554_522.out
      have hnc81 := NB522_554.out
      have hcz82_0 := bz BK554.out 0 (.int .i64 t548)
      have hcz82_1 := bz BK554.out 1 (.int .i64 t549)
      have hcz82_2 := bz BK554.out 2 (.slice Ao66 t550.length co66)
      have hfz82_0 := zyF BK554.out 0
      have hfz82_1 := zyF BK554.out 1
      have hfz82_2 := zyF BK554.out 2
      go_upto_region 22 with (first | ((with_reducible refine zyg (f := 10) rfl ?_); refine goesL_ (some 156) rfl rfl Try.func10 (by kernel_rfl) rfl #[.agg #[.int .i64 t542, .int .i64 t543, .slice Ao62 t544.length co62], .int .i64 t547, .agg #[.int .i64 t548, .int .i64 t549, .slice Ao66 t550.length co66], .int .i64 t555] rfl zq0 ?_; (with_reducible refine (impl_AreaCoverage.calls kj53 t542 t543 _ _ t544 t547 t548 t549 _ _ t550 t555 t559 t560 t561 _ ?side1 ?side2 ?side3 ?side4 A74.out).mono ?_); (case side1 => exact zqC (Kd.R_reads' HO_554002.out).2.2); (case side2 => exact (Kd.R_reads' HO_554002.out).2.1); (case side3 => exact zqC (Kd.Q_reads' HO_555002.out).2.2); (case side4 => exact (Kd.Q_reads' HO_555002.out).2.1); rintro e w83 ⟨rfl, hb⟩; refine ⟨_, rfl, ?_⟩; replace HO_522002 := zm (Kd.R_below (zqR HO_522002.out) hb); replace HO_523002 := zm (Kd.Q_below zq26 hb); replace HO_554002 := zm (Kd.R_below (zqR HO_554002.out) hb); replace HO_555002 := zm (Kd.Q_below zq48 hb); replace BK521 := zm (zyb (g := gb521) (o := .cells #[.int .i64 t509, .int .i64 t510, .slice Ao13 t511.length co13] 26 (0, 0)) (zqK BK521.out) hb); replace BK522 := zm (zyb (g := gb522) (o := .cells #[.int .i64 t514, .int .i64 t515, .slice Ao15 t516.length co15] 27 (0, 0)) (zqK BK522.out) hb); replace BK553 := zm (zyb (g := gb553) (o := .cells #[.int .i64 t542, .int .i64 t543, .slice Ao62 t544.length co62] 26 (0, 0)) (zqK BK553.out) hb); replace BK554 := zm (zyb (g := gb554) (o := .cells #[.int .i64 t548, .int .i64 t549, .slice Ao66 t550.length co66] 27 (0, 0)) (zqK BK554.out) hb); replace HB := zm (zyh zq12 hb); (try clear hb); (try clear hb2); (try clear hk); (try clear hi)))
      (try simp only [Act.put, List.setIfInBounds_toArray, List.set_cons_zero, List.set_cons_succ])
      go_cut [170] (fun v170 wc => ∃ (kq : Nat) (x170_74 : Bool), v170 = .bool x170_74 ∧ Aside0 (laws_FnAffected.j4 kq l0 x170_74 = some r) ∧ Aside0 (kq ≤ kj53) ∧ Aside0 (Kd.R (Kd.int .i64) 3 wc w.heap.size (fun k_ => some k_ ≠ ((.slice Ao15 t516.length co15) : Value).ownBlock ∧ some k_ ≠ ((.slice Ao62 t544.length co62) : Value).ownBlock ∧ some k_ ≠ ((.slice Ao66 t550.length co66) : Value).ownBlock) (.slice Ao13 t511.length co13) t511) ∧ Aside0 (Kd.Q (Kd.int .i64) 3 wc w.heap.size (fun k_ => some k_ ≠ ((.slice Ao13 t511.length co13) : Value).ownBlock ∧ some k_ ≠ ((.slice Ao62 t544.length co62) : Value).ownBlock ∧ some k_ ≠ ((.slice Ao66 t550.length co66) : Value).ownBlock) (.slice Ao15 t516.length co15) t516) ∧ Aside0 (Kd.R (Kd.int .i64) 3 wc w.heap.size (fun k_ => some k_ ≠ ((.slice Ao13 t511.length co13) : Value).ownBlock ∧ some k_ ≠ ((.slice Ao15 t516.length co15) : Value).ownBlock ∧ some k_ ≠ ((.slice Ao66 t550.length co66) : Value).ownBlock) (.slice Ao62 t544.length co62) t544) ∧ Aside0 (Kd.Q (Kd.int .i64) 3 wc w.heap.size (fun k_ => some k_ ≠ ((.slice Ao13 t511.length co13) : Value).ownBlock ∧ some k_ ≠ ((.slice Ao15 t516.length co15) : Value).ownBlock ∧ some k_ ≠ ((.slice Ao62 t544.length co62) : Value).ownBlock) (.slice Ao66 t550.length co66) t550) ∧ Aside0 (wc.heap[gb521]? = some (.cells #[.int .i64 t509, .int .i64 t510, (.slice Ao13 t511.length co13)] 26 (0, 0))) ∧ Aside0 (wc.heap[gb522]? = some (.cells #[.int .i64 t514, .int .i64 t515, (.slice Ao15 t516.length co15)] 27 (0, 0))) ∧ Aside0 (wc.heap[gb553]? = some (.cells #[.int .i64 t542, .int .i64 t543, (.slice Ao62 t544.length co62)] 26 (0, 0))) ∧ Aside0 (wc.heap[gb554]? = some (.cells #[.int .i64 t548, .int .i64 t549, (.slice Ao66 t550.length co66)] 27 (0, 0))) ∧ Aside0 (Below w.heap.size w wc))
      case first =>
       have H := HC75.out
       clear HC75
       by_cases c84 : t561 = true
       case neg =>
        replace c84 := Bool.eq_false_iff.mpr c84
        subst c84
        have H1 : (none) = some r := by rw [if_neg (show ¬ (false = true) by decide)] at H; exact H
        clear H
        have H := H1
        clear H1
        exact absurd H (by simp)
       subst c84
       have H1 : (if t559 < 1 then (none) else (laws_FnAffected.j4 kj53 l0 (decide (t559 > t560)))) = some r := by rw [if_pos rfl] at H; exact H
       clear H
       have H := H1
       clear H1
       by_cases c85 : t559 < 1
       case pos =>
        rw [if_pos c85] at H
        exact absurd H (by simp)
       rw [if_neg c85] at H
       have c85b0 : decide (t559 < 1) = false := decide_eq_false c85
       clear c85
       (first | rw [c85b0] | (simp only [i64_w, i32_w]; rw [c85b0]) | skip)
       have H' := zm H
       clear H
       go_wp2
       go_meet
       case rel => exact ⟨_, (decide (t559 > t560)), (by first | rfl | (simp; done) | (simp [*]; done)), H', ⟨by have := HJ6.out; have := HK2.out; have := HJ28.out; have := HJ53.out; first | omega | exact Nat.le_refl _⟩, ⟨zqR HO_522002.out⟩, ⟨by (with_reducible repeat (first | apply Kd.Q_alloc | apply Kd.Q_drewN | apply Kd.Q_drew)); exact HO_523002.out⟩, ⟨zqR HO_554002.out⟩, ⟨by (with_reducible repeat (first | apply Kd.Q_alloc | apply Kd.Q_drewN | apply Kd.Q_drew)); exact HO_555002.out⟩, ⟨by (with_reducible repeat (first | apply zN | apply zD | apply zL)); exact BK521.out⟩, ⟨by (with_reducible repeat (first | apply zN | apply zD | apply zL)); exact BK522.out⟩, ⟨by (with_reducible repeat (first | apply zN | apply zD | apply zL)); exact BK553.out⟩, ⟨by (with_reducible repeat (first | apply zN | apply zD | apply zL)); exact BK554.out⟩, ⟨zq12⟩⟩
      clear HC75
      try clear c1
      try clear c2
      try clear p2
      try clear c3
      try clear c4
      try clear c5
      try clear p5
      try clear q5
      try clear hx5
      try clear c6
      try clear p6
      try clear c7
      try clear c8
      try clear c9
      try clear c10
      try clear c11
      try clear c12
      try clear c13
      try clear c14
      try clear c20
      try clear c20b0
      try clear c20b1
      try clear c20b2
      try clear c24
      try clear c26
      try clear c30
      try clear c30b0
      try clear c33
      try clear c34
      try clear c34b0
      try clear c35
      try clear c35b0
      try clear c37
      try clear c38
      try clear c40
      try clear c40b0
      try clear c41
      try clear c41b0
      try clear c41b1
      try clear c41b2
      try clear c46
      try clear c46b0
      try clear c46b1
      try clear c46b2
      try clear p53
      try clear q53
      try clear hx53
      try clear p54
      try clear q54
      try clear hx54
      try clear c58
      try clear c59
      try clear c60
      try clear c63
      try clear c64
      try clear p64
      try clear c71
      try clear c71b0
      try clear c71b1
      try clear c72
      try clear c73
      try clear c76
      try clear c77
      try clear c78
      try clear c80
      try clear c81
      try clear c84
      try clear c85
      try clear c85b0
      try clear hcz12_0
      try clear hcz12_1
      try clear hcz12_2
      try clear hcz14_0
      try clear hcz14_1
      try clear hcz14_2
      try clear hcz17_0
      try clear hcz17_1
      try clear hcz17_2
      try clear hcz18_0
      try clear hcz18_1
      try clear hcz18_2
      try clear hcz27_0
      try clear hcz27_1
      try clear hcz27_2
      try clear hcz61_0
      try clear hcz61_1
      try clear hcz61_2
      try clear hcz65_0
      try clear hcz65_1
      try clear hcz65_2
      try clear hcz68_0
      try clear hcz68_1
      try clear hcz68_2
      try clear hcz69_0
      try clear hcz69_1
      try clear hcz69_2
      try clear hcz79_0
      try clear hcz79_1
      try clear hcz79_2
      try clear hcz82_0
      try clear hcz82_1
      try clear hcz82_2
      try clear hfz12_0
      try clear hfz12_1
      try clear hfz12_2
      try clear hfz14_0
      try clear hfz14_1
      try clear hfz14_2
      try clear hfz17_0
      try clear hfz17_1
      try clear hfz17_2
      try clear hfz18_0
      try clear hfz18_1
      try clear hfz18_2
      try clear hfz27_0
      try clear hfz27_1
      try clear hfz27_2
      try clear hfz61_0
      try clear hfz61_1
      try clear hfz61_2
      try clear hfz65_0
      try clear hfz65_1
      try clear hfz65_2
      try clear hfz68_0
      try clear hfz68_1
      try clear hfz68_2
      try clear hfz69_0
      try clear hfz69_1
      try clear hfz69_2
      try clear hfz79_0
      try clear hfz79_1
      try clear hfz79_2
      try clear hfz82_0
      try clear hfz82_1
      try clear hfz82_2
      try clear hx536_0
      try clear hx540_0
      try clear p2
      try clear p5
      try clear p53
      try clear p536
      try clear p54
      try clear p540
      try clear p6
      try clear p64
      try clear q5
      try clear q53
      try clear q536
      try clear q54
      try clear q540
      obtain ⟨kq, x170_74, rfl, HA, HJ74, HO_522002, HO_523002, HO_554002, HO_555002, BK521, BK522, BK553, BK554, HB⟩ := hcut
      cases kq with
      | zero => exact absurd HA.out (by simp [laws_FnAffected.j4])
      | succ kj74 =>
       have H := HA.out
       clear HA
       simp only [laws_FnAffected.j4] at H
       by_cases c86 : x170_74 = true
       case pos =>
        subst c86
        have H1 : (none) = some r := by rw [if_pos rfl] at H; exact H
        clear H
        have H := H1
        clear H1
        exact absurd H (by simp)
       replace c86 := Bool.eq_false_iff.mpr c86
       subst c86
       have H1 : ((spec_DrawAreaCoverage.f kj74 l0).bind fun bt562 => ((impl_AreaCoverage.f kj74 bt562.1 bt562.2.1 bt562.2.2.1 bt562.2.2.2.1 bt562.2.2.2.2.1 bt562.2.2.2.2.2.1 bt562.2.2.2.2.2.2.1 bt562.2.2.2.2.2.2.2).bind fun bt576 => ((spec_AreaCoverage.f kj74 bt562.1 bt562.2.1 bt562.2.2.1 bt562.2.2.2.1 bt562.2.2.2.2.1 bt562.2.2.2.2.2.1 bt562.2.2.2.2.2.2.1 bt562.2.2.2.2.2.2.2).bind fun bt579 => (if bt576.1 = bt579.1 then (if bt576.2.1 = bt579.2.1 then (some (bt576.2.2 == bt579.2.2)) else (none)) else (none))))) = some r := by rw [if_neg (show ¬ (false = true) by decide)] at H; exact H
       clear H
       have H := H1
       clear H1
       obtain ⟨⟨t562, t563, t564, t567, t568, t569, t570, t573⟩, A870, H⟩ := zob H
       replace H : ((impl_AreaCoverage.f kj74 t562 t563 t564 t567 t568 t569 t570 t573).bind fun bt576 => ((spec_AreaCoverage.f kj74 t562 t563 t564 t567 t568 t569 t570 t573).bind fun bt579 => (if bt576.1 = bt579.1 then (if bt576.2.1 = bt579.2.1 then (some (bt576.2.2 == bt579.2.2)) else (none)) else (none)))) = some r := H
       have A87 := zm A870
       clear A870
       obtain ⟨⟨t576, t577, t578⟩, A880, H⟩ := zob H
       replace H : ((spec_AreaCoverage.f kj74 t562 t563 t564 t567 t568 t569 t570 t573).bind fun bt579 => (if t576 = bt579.1 then (if t577 = bt579.2.1 then (some (t578 == bt579.2.2)) else (none)) else (none))) = some r := H
       have A88 := zm A880
       clear A880
       obtain ⟨⟨t579, t580, t581⟩, A890, H⟩ := zob H
       replace H : (if t576 = t579 then (if t577 = t580 then (some (t578 == t581)) else (none)) else (none)) = some r := H
       have A89 := zm A890
       clear A890
       by_cases c90 : t576 = t579
       case neg =>
        rw [if_neg c90] at H
        exact absurd H (by simp)
       rw [if_pos c90] at H
       have c90b0 : (t576 == t579) = true := beq_iff_eq.mpr c90
       have c90b1 : (t576 != t579) = false := bne_eq_false_iff_eq.mpr c90
       clear c90
       by_cases c91 : t577 = t580
       case neg =>
        rw [if_neg c91] at H
        exact absurd H (by simp)
       rw [if_pos c91] at H
       have c91b0 : (t577 == t580) = true := beq_iff_eq.mpr c91
       have c91b1 : (t577 != t580) = false := bne_eq_false_iff_eq.mpr c91
       clear c91
       obtain rfl := Option.some.inj H
       go_wp2_with (first | ((with_reducible refine zyg (f := 15) rfl ?_); refine goesL_ (some 173) rfl rfl Try.func15 (by kernel_rfl) rfl #[.slice A0 l0.length c0] rfl zq0 ?_; (with_reducible refine (spec_DrawAreaCoverage.calls kj74 _ _ l0 t562 t563 t564 t567 t568 t569 t570 t573 _ ?side1 ?side2 A87.out).mono ?_); (case side1 => exact zqC (Kd.C_below HR0.out HB.out)); (case side2 => exact HC0.out); rintro e w92 ⟨v565, v571, rfl, ho0, ho1, hb⟩; refine ⟨_, rfl, ?_⟩; have HO566 := zm (Kd.R_lower (Kd.R_new' (Kd.R_new' (Kd.R_new' (Kd.R_new' ho0 (Kd.R_lt (zqR HO_522002.out))) (Kd.Q_lt zq26)) (Kd.R_lt (zqR HO_554002.out))) (Kd.Q_lt zq48)) (zyi zq12)); have HO572 := zm (Kd.Q_lower (Kd.Q_new' (Kd.Q_new' (Kd.Q_new' (Kd.Q_new' ho1 (Kd.R_lt (zqR HO_522002.out))) (Kd.Q_lt zq26)) (Kd.R_lt (zqR HO_554002.out))) (Kd.Q_lt zq48)) (zyi zq12)); replace HO_522002 := zm (Kd.R_mono (Kd.R_told (Kd.R_told (Kd.R_old (zqR HO_522002.out) hb) (Kd.R_base ho0)) (Kd.Q_base ho1)) (fun _ h_ => h_.1)); replace HO_523002 := zm (Kd.Q_mono (Kd.Q_told (Kd.Q_told (Kd.Q_old zq26 hb) (Kd.R_base ho0)) (Kd.Q_base ho1)) (fun _ h_ => h_.1)); replace HO_554002 := zm (Kd.R_mono (Kd.R_told (Kd.R_told (Kd.R_old (zqR HO_554002.out) hb) (Kd.R_base ho0)) (Kd.Q_base ho1)) (fun _ h_ => h_.1)); replace HO_555002 := zm (Kd.Q_mono (Kd.Q_told (Kd.Q_told (Kd.Q_old zq48 hb) (Kd.R_base ho0)) (Kd.Q_base ho1)) (fun _ h_ => h_.1)); replace BK521 := zm (zyb (g := gb521) (o := .cells #[.int .i64 t509, .int .i64 t510, .slice Ao13 t511.length co13] 26 (0, 0)) (zqK BK521.out) hb); replace BK522 := zm (zyb (g := gb522) (o := .cells #[.int .i64 t514, .int .i64 t515, .slice Ao15 t516.length co15] 27 (0, 0)) (zqK BK522.out) hb); replace BK553 := zm (zyb (g := gb553) (o := .cells #[.int .i64 t542, .int .i64 t543, .slice Ao62 t544.length co62] 26 (0, 0)) (zqK BK553.out) hb); replace BK554 := zm (zyb (g := gb554) (o := .cells #[.int .i64 t548, .int .i64 t549, .slice Ao66 t550.length co66] 27 (0, 0)) (zqK BK554.out) hb); replace HB := zm (zyh zq12 hb); (try clear hb); (try clear hb2); (try clear hk); (try clear hi); (try clear ho0); (try clear ho1)) | ((with_reducible refine gate_dst (N := 27) rfl ?_); refine box_event ?hg (N := 27) ?hd (cs := #[.int .i64 0, .int .i64 0, .slice none 0 0]) (t := 26) ?hr ?_; (case hd => rfl); (case hg => rfl); (case hr => exact zqS); intro gb574 hg w93 hbox hb; replace HO_522002 := zm (Kd.R_below (zqR HO_522002.out) hb); replace HO_523002 := zm (Kd.Q_below zq26 hb); replace HO_554002 := zm (Kd.R_below (zqR HO_554002.out) hb); replace HO_555002 := zm (Kd.Q_below zq48 hb); replace HO566 := zm (Kd.R_below (zqR HO566.out) hb); replace HO572 := zm (Kd.Q_below (by (with_reducible repeat (first | apply Kd.Q_alloc | apply Kd.Q_drewN | apply Kd.Q_drew)); exact HO572.out) hb); have BK574 := zm (hbox); have GW574 := zm ((by rw [hg]; exact (zyi zq12) : w.heap.size ≤ gb574)); have GE574 := zm ((by rw [hg]; exact (zyi zq12) : w.heap.size ≤ gb574)); replace HB := zm (zyh zq12 hb); have NB521_574 := zm ((by rw [hg]; exact Nat.ne_of_lt (blk_lt (g := gb521) (o := .cells #[.int .i64 t509, .int .i64 t510, .slice Ao13 t511.length co13] 26 (0, 0)) (zqK BK521.out)) : gb521 ≠ gb574)); have NB574_521 := zm ((by rw [hg]; exact Nat.ne_of_gt (blk_lt (g := gb521) (o := .cells #[.int .i64 t509, .int .i64 t510, .slice Ao13 t511.length co13] 26 (0, 0)) (zqK BK521.out)) : gb574 ≠ gb521)); replace BK521 := zm (zyb (g := gb521) (o := .cells #[.int .i64 t509, .int .i64 t510, .slice Ao13 t511.length co13] 26 (0, 0)) (zqK BK521.out) hb); have NB522_574 := zm ((by rw [hg]; exact Nat.ne_of_lt (blk_lt (g := gb522) (o := .cells #[.int .i64 t514, .int .i64 t515, .slice Ao15 t516.length co15] 27 (0, 0)) (zqK BK522.out)) : gb522 ≠ gb574)); have NB574_522 := zm ((by rw [hg]; exact Nat.ne_of_gt (blk_lt (g := gb522) (o := .cells #[.int .i64 t514, .int .i64 t515, .slice Ao15 t516.length co15] 27 (0, 0)) (zqK BK522.out)) : gb574 ≠ gb522)); replace BK522 := zm (zyb (g := gb522) (o := .cells #[.int .i64 t514, .int .i64 t515, .slice Ao15 t516.length co15] 27 (0, 0)) (zqK BK522.out) hb); have NB553_574 := zm ((by rw [hg]; exact Nat.ne_of_lt (blk_lt (g := gb553) (o := .cells #[.int .i64 t542, .int .i64 t543, .slice Ao62 t544.length co62] 26 (0, 0)) (zqK BK553.out)) : gb553 ≠ gb574)); have NB574_553 := zm ((by rw [hg]; exact Nat.ne_of_gt (blk_lt (g := gb553) (o := .cells #[.int .i64 t542, .int .i64 t543, .slice Ao62 t544.length co62] 26 (0, 0)) (zqK BK553.out)) : gb574 ≠ gb553)); replace BK553 := zm (zyb (g := gb553) (o := .cells #[.int .i64 t542, .int .i64 t543, .slice Ao62 t544.length co62] 26 (0, 0)) (zqK BK553.out) hb); have NB554_574 := zm ((by rw [hg]; exact Nat.ne_of_lt (blk_lt (g := gb554) (o := .cells #[.int .i64 t548, .int .i64 t549, .slice Ao66 t550.length co66] 27 (0, 0)) (zqK BK554.out)) : gb554 ≠ gb574)); have NB574_554 := zm ((by rw [hg]; exact Nat.ne_of_gt (blk_lt (g := gb554) (o := .cells #[.int .i64 t548, .int .i64 t549, .slice Ao66 t550.length co66] 27 (0, 0)) (zqK BK554.out)) : gb574 ≠ gb554)); replace BK554 := zm (zyb (g := gb554) (o := .cells #[.int .i64 t548, .int .i64 t549, .slice Ao66 t550.length co66] 27 (0, 0)) (zqK BK554.out) hb); clear hb hbox hg) | ((with_reducible refine gate_dst (N := 29) rfl ?_); refine box_event ?hg (N := 29) ?hd (cs := #[.int .i64 0, .int .i64 0, .slice none 0 0]) (t := 27) ?hr ?_; (case hd => rfl); (case hg => rfl); (case hr => exact zqS); intro gb575 hg w94 hbox hb; replace HO_522002 := zm (Kd.R_below (zqR HO_522002.out) hb); replace HO_523002 := zm (Kd.Q_below zq26 hb); replace HO_554002 := zm (Kd.R_below (zqR HO_554002.out) hb); replace HO_555002 := zm (Kd.Q_below zq48 hb); replace HO566 := zm (Kd.R_below (zqR HO566.out) hb); replace HO572 := zm (Kd.Q_below (by (with_reducible repeat (first | apply Kd.Q_alloc | apply Kd.Q_drewN | apply Kd.Q_drew)); exact HO572.out) hb); have BK575 := zm (hbox); have GW575 := zm ((by rw [hg]; exact (zyi zq88) : w.heap.size ≤ gb575)); have GE575 := zm ((by rw [hg]; exact (zyi zq88) : w.heap.size ≤ gb575)); replace HB := zm (zyh zq88 hb); have NB521_575 := zm ((by rw [hg]; exact Nat.ne_of_lt (blk_lt (g := gb521) (o := .cells #[.int .i64 t509, .int .i64 t510, .slice Ao13 t511.length co13] 26 (0, 0)) (zqK BK521.out)) : gb521 ≠ gb575)); have NB575_521 := zm ((by rw [hg]; exact Nat.ne_of_gt (blk_lt (g := gb521) (o := .cells #[.int .i64 t509, .int .i64 t510, .slice Ao13 t511.length co13] 26 (0, 0)) (zqK BK521.out)) : gb575 ≠ gb521)); replace BK521 := zm (zyb (g := gb521) (o := .cells #[.int .i64 t509, .int .i64 t510, .slice Ao13 t511.length co13] 26 (0, 0)) (zqK BK521.out) hb); have NB522_575 := zm ((by rw [hg]; exact Nat.ne_of_lt (blk_lt (g := gb522) (o := .cells #[.int .i64 t514, .int .i64 t515, .slice Ao15 t516.length co15] 27 (0, 0)) (zqK BK522.out)) : gb522 ≠ gb575)); have NB575_522 := zm ((by rw [hg]; exact Nat.ne_of_gt (blk_lt (g := gb522) (o := .cells #[.int .i64 t514, .int .i64 t515, .slice Ao15 t516.length co15] 27 (0, 0)) (zqK BK522.out)) : gb575 ≠ gb522)); replace BK522 := zm (zyb (g := gb522) (o := .cells #[.int .i64 t514, .int .i64 t515, .slice Ao15 t516.length co15] 27 (0, 0)) (zqK BK522.out) hb); have NB553_575 := zm ((by rw [hg]; exact Nat.ne_of_lt (blk_lt (g := gb553) (o := .cells #[.int .i64 t542, .int .i64 t543, .slice Ao62 t544.length co62] 26 (0, 0)) (zqK BK553.out)) : gb553 ≠ gb575)); have NB575_553 := zm ((by rw [hg]; exact Nat.ne_of_gt (blk_lt (g := gb553) (o := .cells #[.int .i64 t542, .int .i64 t543, .slice Ao62 t544.length co62] 26 (0, 0)) (zqK BK553.out)) : gb575 ≠ gb553)); replace BK553 := zm (zyb (g := gb553) (o := .cells #[.int .i64 t542, .int .i64 t543, .slice Ao62 t544.length co62] 26 (0, 0)) (zqK BK553.out) hb); have NB554_575 := zm ((by rw [hg]; exact Nat.ne_of_lt (blk_lt (g := gb554) (o := .cells #[.int .i64 t548, .int .i64 t549, .slice Ao66 t550.length co66] 27 (0, 0)) (zqK BK554.out)) : gb554 ≠ gb575)); have NB575_554 := zm ((by rw [hg]; exact Nat.ne_of_gt (blk_lt (g := gb554) (o := .cells #[.int .i64 t548, .int .i64 t549, .slice Ao66 t550.length co66] 27 (0, 0)) (zqK BK554.out)) : gb575 ≠ gb554)); replace BK554 := zm (zyb (g := gb554) (o := .cells #[.int .i64 t548, .int .i64 t549, .slice Ao66 t550.length co66] 27 (0, 0)) (zqK BK554.out) hb); have NB574_575 := zm ((by rw [hg]; exact Nat.ne_of_lt (blk_lt (g := gb574) (o := zcA) (zqK BK574.out)) : gb574 ≠ gb575)); have NB575_574 := zm ((by rw [hg]; exact Nat.ne_of_gt (blk_lt (g := gb574) (o := zcA) (zqK BK574.out)) : gb575 ≠ gb574)); replace BK574 := zm (zyb (g := gb574) (o := zcA) (zqK BK574.out) hb); clear hb hbox hg; have hnb95 := NB574_521.out; have hnc95 := NB521_574.out; have hnb96 := NB574_522.out; have hnc96 := NB522_574.out; have hnb97 := NB574_553.out; have hnc97 := NB553_574.out; have hnb98 := NB574_554.out; have hnc98 := NB554_574.out; have hnb99 := NB574_575.out; have hnc99 := NB575_574.out; have hcz100_0 := bz BK574.out 0 (.int .i64 0); have hcz100_1 := bz BK574.out 1 (.int .i64 0); have hcz100_2 := bz BK574.out 2 (.slice none 0 0); have hfz100_0 := zyF BK574.out 0; have hfz100_1 := zyF BK574.out 1; have hfz100_2 := zyF BK574.out 2; obtain ⟨Ao101, co101, eo101⟩ := Kd.R_slice HO566.out; subst eo101; have hnb102 := NB575_521.out; have hnc102 := NB521_575.out; have hnb103 := NB575_522.out; have hnc103 := NB522_575.out; have hnb104 := NB575_553.out; have hnc104 := NB553_575.out; have hnb105 := NB575_554.out; have hnc105 := NB554_575.out; have hcz106_0 := bz BK575.out 0 (.int .i64 0); have hcz106_1 := bz BK575.out 1 (.int .i64 0); have hcz106_2 := bz BK575.out 2 (.slice none 0 0); have hfz106_0 := zyF BK575.out 0; have hfz106_1 := zyF BK575.out 1; have hfz106_2 := zyF BK575.out 2; obtain ⟨Ao107, co107, eo107, _⟩ := Kd.Q_slice HO572.out; subst eo107) | ((with_reducible refine zyg (f := 10) rfl ?_); refine goesL_ (some 183) rfl rfl Try.func10 (by kernel_rfl) rfl #[.agg #[.int .i64 t562, .int .i64 t563, .slice Ao101 t564.length co101], .int .i64 t567, .agg #[.int .i64 t568, .int .i64 t569, .slice Ao107 t570.length co107], .int .i64 t573] rfl zq0 ?_; (with_reducible refine (impl_AreaCoverage.calls kj74 t562 t563 _ _ t564 t567 t568 t569 _ _ t570 t573 t576 t577 t578 _ ?side1 ?side2 ?side3 ?side4 A88.out).mono ?_); (case side1 => refine (Kd.R_reads' (e := 3) (base := w.heap.size) (ok := fun k_ => ((((some k_ ≠ (.slice Ao107 t570.length co107 : Value).ownBlock ∧ some k_ ≠ (.slice Ao13 t511.length co13 : Value).ownBlock) ∧ some k_ ≠ (.slice Ao15 t516.length co15 : Value).ownBlock) ∧ some k_ ≠ (.slice Ao62 t544.length co62 : Value).ownBlock) ∧ some k_ ≠ (.slice Ao66 t550.length co66 : Value).ownBlock)) (n := t564.length) (c := co101) ?_).2.2; exact zq68); (case side2 => exact (Kd.R_reads' HO566.out).2.1); (case side3 => refine (Kd.Q_reads' (e := 3) (base := w.heap.size) (ok := fun k_ => ((((some k_ ≠ (.slice Ao101 t564.length co101 : Value).ownBlock ∧ some k_ ≠ (.slice Ao13 t511.length co13 : Value).ownBlock) ∧ some k_ ≠ (.slice Ao15 t516.length co15 : Value).ownBlock) ∧ some k_ ≠ (.slice Ao62 t544.length co62 : Value).ownBlock) ∧ some k_ ≠ (.slice Ao66 t550.length co66 : Value).ownBlock)) (n := t570.length) (c := co107) ?_).2.2; exact zq69); (case side4 => exact (Kd.Q_reads' HO572.out).2.1); rintro e w108 ⟨rfl, hb⟩; refine ⟨_, rfl, ?_⟩; replace HO_522002 := zm (Kd.R_below (by (with_reducible repeat (first | apply Kd.R_alloc | apply Kd.R_drewN | apply Kd.R_drew)); exact (Kd.R_mono (Kd.R_mono (Kd.R_far (p := ⟨gb575, 2, none⟩) (Kd.R_far (p := ⟨gb575, 1, none⟩) (Kd.R_far (p := ⟨gb575, 0, none⟩) (Kd.R_far (p := ⟨gb574, 2, none⟩) (Kd.R_far (p := ⟨gb574, 1, none⟩) (Kd.R_far (p := ⟨gb574, 0, none⟩) (Kd.R_types (Kd.R_types HO_522002.out BK574.out (by decide)) BK575.out (by decide)) (fun _ hk => hk.1.2) (.int .i64 t562)) (fun _ hk => hk.1.2) (.int .i64 t563)) (fun _ hk => hk.1.2) (.slice Ao101 t564.length co101)) (fun _ hk => hk.2) (.int .i64 t568)) (fun _ hk => hk.2) (.int .i64 t569)) (fun _ hk => hk.2) (.slice Ao107 t570.length co107)) (fun _ h_ => h_.1)) (fun _ h_ => h_.1))) hb); replace HO_523002 := zm (Kd.Q_below (by (with_reducible repeat (first | apply Kd.Q_alloc | apply Kd.Q_drewN | apply Kd.Q_drew)); exact (Kd.Q_mono (Kd.Q_mono (Kd.Q_far (p := ⟨gb575, 2, none⟩) (Kd.Q_far (p := ⟨gb575, 1, none⟩) (Kd.Q_far (p := ⟨gb575, 0, none⟩) (Kd.Q_far (p := ⟨gb574, 2, none⟩) (Kd.Q_far (p := ⟨gb574, 1, none⟩) (Kd.Q_far (p := ⟨gb574, 0, none⟩) (Kd.Q_types (Kd.Q_types HO_523002.out BK574.out (by decide)) BK575.out (by decide)) (fun _ hk => hk.1.2) (.int .i64 t562)) (fun _ hk => hk.1.2) (.int .i64 t563)) (fun _ hk => hk.1.2) (.slice Ao101 t564.length co101)) (fun _ hk => hk.2) (.int .i64 t568)) (fun _ hk => hk.2) (.int .i64 t569)) (fun _ hk => hk.2) (.slice Ao107 t570.length co107)) (fun _ h_ => h_.1)) (fun _ h_ => h_.1))) hb); replace HO_554002 := zm (Kd.R_below (by (with_reducible repeat (first | apply Kd.R_alloc | apply Kd.R_drewN | apply Kd.R_drew)); exact (Kd.R_mono (Kd.R_mono (Kd.R_far (p := ⟨gb575, 2, none⟩) (Kd.R_far (p := ⟨gb575, 1, none⟩) (Kd.R_far (p := ⟨gb575, 0, none⟩) (Kd.R_far (p := ⟨gb574, 2, none⟩) (Kd.R_far (p := ⟨gb574, 1, none⟩) (Kd.R_far (p := ⟨gb574, 0, none⟩) (Kd.R_types (Kd.R_types HO_554002.out BK574.out (by decide)) BK575.out (by decide)) (fun _ hk => hk.1.2) (.int .i64 t562)) (fun _ hk => hk.1.2) (.int .i64 t563)) (fun _ hk => hk.1.2) (.slice Ao101 t564.length co101)) (fun _ hk => hk.2) (.int .i64 t568)) (fun _ hk => hk.2) (.int .i64 t569)) (fun _ hk => hk.2) (.slice Ao107 t570.length co107)) (fun _ h_ => h_.1)) (fun _ h_ => h_.1))) hb); replace HO_555002 := zm (Kd.Q_below (by (with_reducible repeat (first | apply Kd.Q_alloc | apply Kd.Q_drewN | apply Kd.Q_drew)); exact (Kd.Q_mono (Kd.Q_mono (Kd.Q_far (p := ⟨gb575, 2, none⟩) (Kd.Q_far (p := ⟨gb575, 1, none⟩) (Kd.Q_far (p := ⟨gb575, 0, none⟩) (Kd.Q_far (p := ⟨gb574, 2, none⟩) (Kd.Q_far (p := ⟨gb574, 1, none⟩) (Kd.Q_far (p := ⟨gb574, 0, none⟩) (Kd.Q_types (Kd.Q_types HO_555002.out BK574.out (by decide)) BK575.out (by decide)) (fun _ hk => hk.1.2) (.int .i64 t562)) (fun _ hk => hk.1.2) (.int .i64 t563)) (fun _ hk => hk.1.2) (.slice Ao101 t564.length co101)) (fun _ hk => hk.2) (.int .i64 t568)) (fun _ hk => hk.2) (.int .i64 t569)) (fun _ hk => hk.2) (.slice Ao107 t570.length co107)) (fun _ h_ => h_.1)) (fun _ h_ => h_.1))) hb); replace HO566 := zm (Kd.R_below zq68 hb); replace HO572 := zm (Kd.Q_below zq69 hb); replace BK521 := zm (zyb (g := gb521) (o := .cells #[.int .i64 t509, .int .i64 t510, .slice Ao13 t511.length co13] 26 (0, 0)) (by (with_reducible repeat (first | apply zN | apply zD | apply zL)); refine zye ?_ NB521_575.out _; (with_reducible repeat (first | apply zN | apply zD | apply zL)); refine zye ?_ NB521_575.out _; (with_reducible repeat (first | apply zN | apply zD | apply zL)); refine zye ?_ NB521_575.out _; (with_reducible repeat (first | apply zN | apply zD | apply zL)); refine zye ?_ NB521_574.out _; (with_reducible repeat (first | apply zN | apply zD | apply zL)); refine zye ?_ NB521_574.out _; (with_reducible repeat (first | apply zN | apply zD | apply zL)); refine zye ?_ NB521_574.out _; (with_reducible repeat (first | apply zN | apply zD | apply zL)); exact BK521.out) hb); replace BK522 := zm (zyb (g := gb522) (o := .cells #[.int .i64 t514, .int .i64 t515, .slice Ao15 t516.length co15] 27 (0, 0)) (by (with_reducible repeat (first | apply zN | apply zD | apply zL)); refine zye ?_ NB522_575.out _; (with_reducible repeat (first | apply zN | apply zD | apply zL)); refine zye ?_ NB522_575.out _; (with_reducible repeat (first | apply zN | apply zD | apply zL)); refine zye ?_ NB522_575.out _; (with_reducible repeat (first | apply zN | apply zD | apply zL)); refine zye ?_ NB522_574.out _; (with_reducible repeat (first | apply zN | apply zD | apply zL)); refine zye ?_ NB522_574.out _; (with_reducible repeat (first | apply zN | apply zD | apply zL)); refine zye ?_ NB522_574.out _; (with_reducible repeat (first | apply zN | apply zD | apply zL)); exact BK522.out) hb); replace BK553 := zm (zyb (g := gb553) (o := .cells #[.int .i64 t542, .int .i64 t543, .slice Ao62 t544.length co62] 26 (0, 0)) (by (with_reducible repeat (first | apply zN | apply zD | apply zL)); refine zye ?_ NB553_575.out _; (with_reducible repeat (first | apply zN | apply zD | apply zL)); refine zye ?_ NB553_575.out _; (with_reducible repeat (first | apply zN | apply zD | apply zL)); refine zye ?_ NB553_575.out _; (with_reducible repeat (first | apply zN | apply zD | apply zL)); refine zye ?_ NB553_574.out _; (with_reducible repeat (first | apply zN | apply zD | apply zL)); refine zye ?_ NB553_574.out _; (with_reducible repeat (first | apply zN | apply zD | apply zL)); refine zye ?_ NB553_574.out _; (with_reducible repeat (first | apply zN | apply zD | apply zL)); exact BK553.out) hb); replace BK554 := zm (zyb (g := gb554) (o := .cells #[.int .i64 t548, .int .i64 t549, .slice Ao66 t550.length co66] 27 (0, 0)) (by (with_reducible repeat (first | apply zN | apply zD | apply zL)); refine zye ?_ NB554_575.out _; (with_reducible repeat (first | apply zN | apply zD | apply zL)); refine zye ?_ NB554_575.out _; (with_reducible repeat (first | apply zN | apply zD | apply zL)); refine zye ?_ NB554_575.out _; (with_reducible repeat (first | apply zN | apply zD | apply zL)); refine zye ?_ NB554_574.out _; (with_reducible repeat (first | apply zN | apply zD | apply zL)); refine zye ?_ NB554_574.out _; (with_reducible repeat (first | apply zN | apply zD | apply zL)); refine zye ?_ NB554_574.out _; (with_reducible repeat (first | apply zN | apply zD | apply zL)); exact BK554.out) hb); replace BK574 := zm (zyb (g := gb574) (o := .cells #[.int .i64 t562, .int .i64 t563, .slice Ao101 t564.length co101] 26 (0, 0)) (by (with_reducible repeat (first | apply zN | apply zD | apply zL)); refine zye ?_ NB574_575.out _; (with_reducible repeat (first | apply zN | apply zD | apply zL)); refine zye ?_ NB574_575.out _; (with_reducible repeat (first | apply zN | apply zD | apply zL)); refine zye ?_ NB574_575.out _; (with_reducible repeat (first | apply zN | apply zD | apply zL)); refine blk_put (cs := #[.int .i64 t562, .int .i64 t563, .slice none 0 0]) ?_ 2 _ rfl; (with_reducible repeat (first | apply zN | apply zD | apply zL)); refine blk_put (cs := #[.int .i64 t562, .int .i64 0, .slice none 0 0]) ?_ 1 _ rfl; (with_reducible repeat (first | apply zN | apply zD | apply zL)); refine blk_put (cs := #[.int .i64 0, .int .i64 0, .slice none 0 0]) ?_ 0 _ rfl; (with_reducible repeat (first | apply zN | apply zD | apply zL)); exact BK574.out) hb); replace BK575 := zm (zyb (g := gb575) (o := .cells #[.int .i64 t568, .int .i64 t569, .slice Ao107 t570.length co107] 27 (0, 0)) (by (with_reducible repeat (first | apply zN | apply zD | apply zL)); refine blk_put (cs := #[.int .i64 t568, .int .i64 t569, .slice none 0 0]) ?_ 2 _ rfl; (with_reducible repeat (first | apply zN | apply zD | apply zL)); refine blk_put (cs := #[.int .i64 t568, .int .i64 0, .slice none 0 0]) ?_ 1 _ rfl; (with_reducible repeat (first | apply zN | apply zD | apply zL)); refine blk_put (cs := #[.int .i64 0, .int .i64 0, .slice none 0 0]) ?_ 0 _ rfl; (with_reducible repeat (first | apply zN | apply zD | apply zL)); refine zye ?_ NB575_574.out _; (with_reducible repeat (first | apply zN | apply zD | apply zL)); refine zye ?_ NB575_574.out _; (with_reducible repeat (first | apply zN | apply zD | apply zL)); refine zye ?_ NB575_574.out _; (with_reducible repeat (first | apply zN | apply zD | apply zL)); exact BK575.out) hb); replace HB := zm (zyh zq79 hb); (try clear hb); (try clear hb2); (try clear hk); (try clear hi); have hcz109_0 := bz BK574.out 0 (.int .i64 t562); have hcz109_1 := bz BK574.out 1 (.int .i64 t563); have hcz109_2 := bz BK574.out 2 (.slice Ao101 t564.length co101); have hfz109_0 := zyF BK574.out 0; have hfz109_1 := zyF BK574.out 1; have hfz109_2 := zyF BK574.out 2; have hcz110_0 := bz BK575.out 0 (.int .i64 t568); have hcz110_1 := bz BK575.out 1 (.int .i64 t569); have hcz110_2 := bz BK575.out 2 (.slice Ao107 t570.length co107); have hfz110_0 := zyF BK575.out 0; have hfz110_1 := zyF BK575.out 1; have hfz110_2 := zyF BK575.out 2) | ((with_reducible refine zyg (f := 16) rfl ?_); refine goesL_ (some 192) rfl rfl Try.func16 (by kernel_rfl) rfl #[.agg #[.int .i64 t562, .int .i64 t563, .slice Ao101 t564.length co101], .int .i64 t567, .agg #[.int .i64 t568, .int .i64 t569, .slice Ao107 t570.length co107], .int .i64 t573] rfl zq0 ?_; (with_reducible refine (spec_AreaCoverage.calls kj74 t562 t563 _ _ t564 t567 t568 t569 _ _ t570 t573 t579 t580 t581 _ ?side1 ?side2 ?side3 ?side4 A89.out).mono ?_); (case side1 => exact zqC (Kd.R_reads' HO566.out).2.2); (case side2 => exact (Kd.R_reads' HO566.out).2.1); (case side3 => exact zqC (Kd.Q_reads' HO572.out).2.2); (case side4 => exact (Kd.Q_reads' HO572.out).2.1); rintro e w111 ⟨rfl, hb⟩; refine ⟨_, rfl, ?_⟩; replace HO_522002 := zm (Kd.R_below (zqR HO_522002.out) hb); replace HO_523002 := zm (Kd.Q_below zq26 hb); replace HO_554002 := zm (Kd.R_below (zqR HO_554002.out) hb); replace HO_555002 := zm (Kd.Q_below zq48 hb); replace HO566 := zm (Kd.R_below (zqR HO566.out) hb); replace HO572 := zm (Kd.Q_below (by (with_reducible repeat (first | apply Kd.Q_alloc | apply Kd.Q_drewN | apply Kd.Q_drew)); exact HO572.out) hb); replace BK521 := zm (zyb (g := gb521) (o := .cells #[.int .i64 t509, .int .i64 t510, .slice Ao13 t511.length co13] 26 (0, 0)) (zqK BK521.out) hb); replace BK522 := zm (zyb (g := gb522) (o := .cells #[.int .i64 t514, .int .i64 t515, .slice Ao15 t516.length co15] 27 (0, 0)) (zqK BK522.out) hb); replace BK553 := zm (zyb (g := gb553) (o := .cells #[.int .i64 t542, .int .i64 t543, .slice Ao62 t544.length co62] 26 (0, 0)) (zqK BK553.out) hb); replace BK554 := zm (zyb (g := gb554) (o := .cells #[.int .i64 t548, .int .i64 t549, .slice Ao66 t550.length co66] 27 (0, 0)) (zqK BK554.out) hb); replace BK574 := zm (zyb (g := gb574) (o := .cells #[.int .i64 t562, .int .i64 t563, .slice Ao101 t564.length co101] 26 (0, 0)) (zqK BK574.out) hb); replace BK575 := zm (zyb (g := gb575) (o := .cells #[.int .i64 t568, .int .i64 t569, .slice Ao107 t570.length co107] 27 (0, 0)) (zqK BK575.out) hb); replace HB := zm (zyh zq79 hb); (try clear hb); (try clear hb2); (try clear hk); (try clear hi)))
       go_ret
       exact ⟨zqE, zq79⟩
    subst c33
    have H1 : (if 0 ≤ x13_2 then (if x13_2 < (t532.length : Int) then ((impl_AreaCoverage.f kj28 t509 t510 t511 (rd t532 x13_2) t514 t515 t516 t519).bind fun bt537 => (if t535 = true then (if bt537.2.2 = true then ((laws_rHas.f kj28 t523 (rd t532 x13_2)).bind fun t541 => (if bt537.1 > 0 then (if (t541 != (decide ((wrap64 (100 * bt537.1)) ≥ (wrap64 (t520 * bt537.2.1))))) = true then (none) else (laws_FnAffected.l0 kj28 l0 t519 t520 t523 t526 t532 t535 (wrap64 (x13_2 + 1)) t509 t510 t511 t514 t515 t516)) else (if (t541 != false) = true then (none) else (laws_FnAffected.l0 kj28 l0 t519 t520 t523 t526 t532 t535 (wrap64 (x13_2 + 1)) t509 t510 t511 t514 t515 t516)))) else (none)) else (none))) else (none)) else (none)) = some r := by rw [if_pos rfl] at H; exact H
    clear H
    have H := H1
    clear H1
    by_cases c34 : 0 ≤ x13_2
    case neg =>
     rw [if_neg c34] at H
     exact absurd H (by simp)
    rw [if_pos c34] at H
    have c34b0 : decide (0 ≤ x13_2) = true := decide_eq_true c34
    clear c34
    by_cases c35 : x13_2 < (t532.length : Int)
    case neg =>
     rw [if_neg c35] at H
     exact absurd H (by simp)
    rw [if_pos c35] at H
    have c35b0 : decide (x13_2 < (t532.length : Int)) = true := decide_eq_true c35
    clear c35
    obtain ⟨⟨t537, t538, t539⟩, A360, H⟩ := zob H
    replace H : (if t535 = true then (if t539 = true then ((laws_rHas.f kj28 t523 (rd t532 x13_2)).bind fun t541 => (if t537 > 0 then (if (t541 != (decide ((wrap64 (100 * t537)) ≥ (wrap64 (t520 * t538))))) = true then (none) else (laws_FnAffected.l0 kj28 l0 t519 t520 t523 t526 t532 t535 (wrap64 (x13_2 + 1)) t509 t510 t511 t514 t515 t516)) else (if (t541 != false) = true then (none) else (laws_FnAffected.l0 kj28 l0 t519 t520 t523 t526 t532 t535 (wrap64 (x13_2 + 1)) t509 t510 t511 t514 t515 t516)))) else (none)) else (none)) = some r := H
    have A36 := zm A360
    clear A360
    by_cases c37 : t535 = true
    case neg =>
     replace c37 := Bool.eq_false_iff.mpr c37
     subst c37
     have H1 : (none) = some r := by rw [if_neg (show ¬ (false = true) by decide)] at H; exact H
     clear H
     have H := H1
     clear H1
     exact absurd H (by simp)
    subst c37
    have H1 : (if t539 = true then ((laws_rHas.f kj28 t523 (rd t532 x13_2)).bind fun t541 => (if t537 > 0 then (if (t541 != (decide ((wrap64 (100 * t537)) ≥ (wrap64 (t520 * t538))))) = true then (none) else (laws_FnAffected.l0 kj28 l0 t519 t520 t523 t526 t532 true (wrap64 (x13_2 + 1)) t509 t510 t511 t514 t515 t516)) else (if (t541 != false) = true then (none) else (laws_FnAffected.l0 kj28 l0 t519 t520 t523 t526 t532 true (wrap64 (x13_2 + 1)) t509 t510 t511 t514 t515 t516)))) else (none)) = some r := by rw [if_pos rfl] at H; exact H
    clear H
    have H := H1
    clear H1
    by_cases c38 : t539 = true
    case neg =>
     replace c38 := Bool.eq_false_iff.mpr c38
     subst c38
     have H1 : (none) = some r := by rw [if_neg (show ¬ (false = true) by decide)] at H; exact H
     clear H
     have H := H1
     clear H1
     exact absurd H (by simp)
    subst c38
    have H1 : ((laws_rHas.f kj28 t523 (rd t532 x13_2)).bind fun t541 => (if t537 > 0 then (if (t541 != (decide ((wrap64 (100 * t537)) ≥ (wrap64 (t520 * t538))))) = true then (none) else (laws_FnAffected.l0 kj28 l0 t519 t520 t523 t526 t532 true (wrap64 (x13_2 + 1)) t509 t510 t511 t514 t515 t516)) else (if (t541 != false) = true then (none) else (laws_FnAffected.l0 kj28 l0 t519 t520 t523 t526 t532 true (wrap64 (x13_2 + 1)) t509 t510 t511 t514 t515 t516)))) = some r := by rw [if_pos rfl] at H; exact H
    clear H
    have H := H1
    clear H1
    obtain ⟨t541, A390, H⟩ := zob H
    replace H : (if t537 > 0 then (if (t541 != (decide ((wrap64 (100 * t537)) ≥ (wrap64 (t520 * t538))))) = true then (none) else (laws_FnAffected.l0 kj28 l0 t519 t520 t523 t526 t532 true (wrap64 (x13_2 + 1)) t509 t510 t511 t514 t515 t516)) else (if (t541 != false) = true then (none) else (laws_FnAffected.l0 kj28 l0 t519 t520 t523 t526 t532 true (wrap64 (x13_2 + 1)) t509 t510 t511 t514 t515 t516))) = some r := H
    have A39 := zm A390
    clear A390
    by_cases c40 : t537 > 0
    case neg =>
     rw [if_neg c40] at H
     have c40b0 : decide (0 < t537) = false := decide_eq_false c40
     clear c40
     by_cases c46 : (t541 != false) = true
     case pos =>
      rw [if_pos c46] at H
      exact absurd H (by simp)
     rw [if_neg c46] at H
     have c46b0 : (t541 != false) = false := by simpa using c46
     (try (have c46b1 : decide (t541 = false) = true := by simpa using c46))
     (try (have c46b2 : (t541 == false) = true := by simpa using c46))
     clear c46
     have H' := zm H
     clear H
     try go_wp2
     have n0_ := zm (Kd.R_drew HO_7.out)
     have n1_ := zm (Kd.R_drew HO_11.out)
     have n2_ := zm (Kd.R_drew HO_522002.out)
     have n3_ := zm (Kd.Q_drew HO_523002.out)
     have n4_ := zm (zD BK521.out)
     have n5_ := zm (zD BK522.out)
     have n6_ := zm (zyr HB.out)
     clear HO_7
     clear HO_11
     clear HO_522002
     clear HO_523002
     clear BK521
     clear BK522
     clear HB
     have HO_7 := n0_
     have HO_11 := n1_
     have HO_522002 := n2_
     have HO_523002 := n3_
     have BK521 := n4_
     have BK522 := n5_
     have HB := n6_
     clear n0_ n1_ n2_ n3_ n4_ n5_ n6_
     obtain ⟨Ao48, co48, eo48⟩ := Kd.R_slice HO_11.out
     (first | subst eo48 | (injection eo48 with f1_ f2_ f3_; have f4_ := f1_.symm; have f5_ := f3_.symm; clear f1_ f2_ f3_; subst f4_; subst f5_))
     have p536 : 0 ≤ (x13_2 : Int) := of_decide_eq_true zq6
     have q536 : x13_2 < (t532.length : Int) := of_decide_eq_true zq6
     obtain ⟨ad536, e536, hx536_0⟩ := Kd.at_int (Kd.R_reads' HO_11.out).2.2 x13_2 p536 q536
     cases e536
     replace p536 := eq_true p536
     replace q536 := eq_true q536
     refine start_ (n := 15) (S := fun w' => w'.cell? ⟨gb521, 0, none⟩ = some (.int .i64 t509) ∧ w'.cell? ⟨gb521, 1, none⟩ = some (.int .i64 t510) ∧ w'.cell? ⟨gb521, 2, none⟩ = some (.slice Ao13 t511.length co13) ∧ w'.cell? ⟨gb522, 0, none⟩ = some (.int .i64 t514) ∧ w'.cell? ⟨gb522, 1, none⟩ = some (.int .i64 t515) ∧ w'.cell? ⟨gb522, 2, none⟩ = some (.slice Ao15 t516.length co15) ∧ w'.cell? (ad536.add (x13_2).toNat) = some (.int .i64 (rd t532 x13_2))) (ds := []) #[zf, zf, zf, zf, zf, zf, zf, zf, zf, zf, zf, zf, zf, zf, zf] (by kernel_rfl) rfl rfl ⟨(zyk BK521.out 0).trans rfl, (zyk BK521.out 1).trans rfl, (zyk BK521.out 2).trans rfl, (zyk BK522.out 0).trans rfl, (zyk BK522.out 1).trans rfl, (zyk BK522.out 2).trans rfl, hx536_0⟩ (fun hHeld => ?_); refine with_tabW laws_FnAffected.tab12 laws_FnAffected.bits12 (fun HT_ HW_ => ?_)
     generalize wc.drew = w47 at HO_7 HO_11 HO_522002 HO_523002 BK521 BK522 HB hx536_0 hHeld ⊢
     refine zP 1 (some 87) #[zf, zt, zf, zf, zf, zf, zf, zf, zf, zf, zf, zf, zf, zf, zf] ?_ rfl rfl HT_ (Or.inl ⟨by rfl, ?_⟩) ?_ ?_ ?_
     rotate_left; · exact zqB
     rotate_left; · exact zqA
     refine zP 2 (some 88) #[zf, zt, zt, zf, zf, zf, zf, zf, zf, zf, zf, zf, zf, zf, zf] ?_ rfl rfl HT_ (Or.inl ⟨by rfl, ?_⟩) ?_ ?_ ?_
     rotate_left; · exact zqB
     rotate_left; · exact zqA
     refine zP 3 (some 89) #[zf, zt, zt, zt, zf, zf, zf, zf, zf, zf, zf, zf, zf, zf, zf] ?_ rfl rfl HT_ (Or.inl ⟨by rfl, ?_⟩) ?_ ?_ ?_
     rotate_left; · exact zqB
     rotate_left; · exact zqA
     refine zP 6 (some 92) #[zf, zt, zt, zt, zf, zf, zt, zf, zf, zf, zf, zf, zf, zf, zf] ?_ rfl rfl HT_ (Or.inl ⟨by rfl, ?_⟩) ?_ ?_ ?_
     rotate_left; · exact zqB
     rotate_left; · exact zqA
     refine zT 0 (some 86) #[zt, zt, zt, zt, zf, zf, zt, zf, zf, zf, zf, zf, zf, zf, zf] ?_ rfl rfl HT_ HW_ (Or.inl ⟨by rfl, ?_⟩) hHeld ?_ ?_ ?_
     rotate_left
     ·
      rintro w' ⟨s0, s1, s2, s3, s4, s5, s6⟩
      go_simp
      with_reducible rfl
     rotate_left; · exact zqA
     refine zT 4 (some 90) #[zt, zt, zt, zt, zt, zf, zt, zf, zf, zf, zf, zf, zf, zf, zf] ?_ rfl rfl HT_ HW_ (Or.inl ⟨by rfl, ?_⟩) hHeld ?_ ?_ ?_
     rotate_left
     ·
      rintro w' ⟨s0, s1, s2, s3, s4, s5, s6⟩
      go_simp
      with_reducible rfl
     rotate_left; · exact zqA
     refine zT 5 (some 91) #[zt, zt, zt, zt, zt, zt, zt, zf, zf, zf, zf, zf, zf, zf, zf] ?_ rfl rfl HT_ HW_ (Or.inl ⟨by rfl, ?_⟩) hHeld ?_ ?_ ?_
     rotate_left
     ·
      rintro w' ⟨s0, s1, s2, s3, s4, s5, s6⟩
      go_simp
      with_reducible rfl
     rotate_left; · exact zqA
     refine one_ (i := 7) (N := some 93) #[zt, zt, zt, zt, zt, zt, zt, zt, zf, zf, zf, zf, zf, zf, zf] rfl rfl (one_of HT_.out (by kernel_rfl)) (by decide) (fun K hK => ?_)
     refine goes_ Try.func10 (by kernel_rfl) rfl #[.agg #[.int .i64 t509, .int .i64 t510, .slice Ao13 t511.length co13], .int .i64 (rd t532 x13_2), .agg #[.int .i64 t514, .int .i64 t515, .slice Ao15 t516.length co15], .int .i64 t519] (by rfl) rfl rfl zq0 ?_
     with_reducible refine (impl_AreaCoverage.calls kj28 t509 t510 _ _ t511 (rd t532 x13_2) t514 t515 _ _ t516 t519 t537 t538 true _ ?side1 ?side2 ?side3 ?side4 A36.out).mono ?_
     (case side1 => exact zqC (Kd.R_reads' HO_522002.out).2.2)
     (case side2 => exact (Kd.R_reads' HO_522002.out).2.1)
     (case side3 => exact zqC (Kd.Q_reads' HO_523002.out).2.2)
     (case side4 => exact (Kd.Q_reads' HO_523002.out).2.1)
     rintro e w49 ⟨rfl, hb⟩
     have HS6_ := (hb.cell (World.block_lt_of_cell? _ _ (hHeld.2.2.2.2.2.2))).trans (hHeld.2.2.2.2.2.2)
     refine ⟨_, rfl, ?_⟩
     have n0_ := zm (Kd.R_below (zqR HO_7.out) hb)
     have n1_ := zm (Kd.R_below (zqR HO_11.out) hb)
     have n2_ := zm (Kd.R_below (zqR HO_522002.out) hb)
     have n3_ := zm (Kd.Q_below zq26 hb)
     have n4_ := zm (zyb (g := gb521) (o := .cells #[.int .i64 t509, .int .i64 t510, .slice Ao13 t511.length co13] 26 (0, 0)) (zqK BK521.out) hb)
     have n5_ := zm (zyb (g := gb522) (o := .cells #[.int .i64 t514, .int .i64 t515, .slice Ao15 t516.length co15] 27 (0, 0)) (zqK BK522.out) hb)
     have n6_ := zm (zyh zq14 hb)
     clear HO_7
     clear HO_11
     clear HO_522002
     clear HO_523002
     clear BK521
     clear BK522
     clear HB
     have HO_7 := n0_
     have HO_11 := n1_
     have HO_522002 := n2_
     have HO_523002 := n3_
     have BK521 := n4_
     have BK522 := n5_
     have HB := n6_
     clear n0_ n1_ n2_ n3_ n4_ n5_ n6_
     (try clear hb)
     (try clear hb2)
     (try clear hk)
     (try clear hi)
     refine hK.out _ _ ⟨(zyk BK521.out 0).trans rfl, (zyk BK521.out 1).trans rfl, (zyk BK521.out 2).trans rfl, (zyk BK522.out 0).trans rfl, (zyk BK522.out 1).trans rfl, (zyk BK522.out 2).trans rfl, HS6_⟩ (fun hHeld => ?_)
     clear hK K
     refine norm_ (a' := ?_) ?_ ?_
     rotate_left
     ·
      show Act.put _ (some 93) _ = _
      simp only [Act.put, List.setIfInBounds_toArray, List.set_cons_zero, List.set_cons_succ, i64_w, i32_w]
      rfl
     refine zP 8 (some 85) #[zt, zt, zt, zt, zt, zt, zt, zt, zt, zf, zf, zf, zf, zf, zf] ?_ rfl rfl HT_ (Or.inl ⟨by rfl, ?_⟩) ?_ ?_ ?_
     rotate_left; · exact zqB
     rotate_left; · exact zqA
     refine zP 9 (some 94) #[zt, zt, zt, zt, zt, zt, zt, zt, zt, zt, zf, zf, zf, zf, zf] ?_ rfl rfl HT_ (Or.inl ⟨by rfl, ?_⟩) ?_ ?_ ?_
     rotate_left; · exact zqB
     rotate_left; · exact zqA
     refine zP 10 (some 95) #[zt, zt, zt, zt, zt, zt, zt, zt, zt, zt, zt, zf, zf, zf, zf] ?_ rfl rfl HT_ (Or.inl ⟨by rfl, ?_⟩) ?_ ?_ ?_
     rotate_left; · exact zqB
     rotate_left; · exact zqA
     refine zP 11 (some 96) #[zt, zt, zt, zt, zt, zt, zt, zt, zt, zt, zt, zt, zf, zf, zf] ?_ rfl rfl HT_ (Or.inl ⟨by rfl, ?_⟩) ?_ ?_ ?_
     rotate_left; · exact zqB
     rotate_left; · exact zqA
     refine zP 12 (some 14) #[zt, zt, zt, zt, zt, zt, zt, zt, zt, zt, zt, zt, zt, zf, zf] ?_ rfl rfl HT_ (Or.inl ⟨by rfl, ?_⟩) ?_ ?_ ?_
     rotate_left; · exact zqB
     rotate_left; · exact zqA
     refine zP 13 (some 15) #[zt, zt, zt, zt, zt, zt, zt, zt, zt, zt, zt, zt, zt, zt, zf] ?_ rfl rfl HT_ (Or.inl ⟨by rfl, ?_⟩) ?_ ?_ ?_
     rotate_left; · exact zqB
     rotate_left; · exact zqA
     refine zP 14 (some 16) #[zt, zt, zt, zt, zt, zt, zt, zt, zt, zt, zt, zt, zt, zt, zt] ?_ rfl rfl HT_ (Or.inl ⟨by rfl, ?_⟩) ?_ ?_ ?_
     rotate_left; · exact zqB
     rotate_left; · exact zqA
     refine done_ (done_of HT_.out (by kernel_rfl)) ?_
     have p540 : 0 ≤ (x13_2 : Int) := of_decide_eq_true zq6
     have q540 : x13_2 < (t532.length : Int) := of_decide_eq_true zq6
     obtain ⟨ad540, e540, hx540_0⟩ := Kd.at_int (Kd.R_reads' HO_11.out).2.2 x13_2 p540 q540
     obtain rfl : ad536 = ad540 := (by injection e540)
     replace p540 := eq_true p540
     replace q540 := eq_true q540
     obtain ⟨Ao50, co50, eo50⟩ := Kd.R_slice HO_7.out
     subst eo50
     try go_wp2_with (first | (go_at_call 11; (with_reducible refine (laws_rHas.calls kj28 _ _ t523 (rd t532 x13_2) t541 _ ?side1 ?side2 A39.out).mono ?_); (case side1 => exact zqC (Kd.R_reads' HO_7.out).2.2); (case side2 => exact (Kd.R_reads' HO_7.out).2.1); rintro e w' ⟨rfl, ⟨nd, rfl⟩⟩))
     go_roundg kj28
     case measure => have := HJ6.out; have := HK2.out; have := HJ28.out; omega
     case rel => exact ⟨(wrap64 (x13_2 + 1)), (by first | rfl | (simp; done) | (simp [*]; done)), H', ⟨by have := HJ6.out; have := HK2.out; have := HJ28.out; omega⟩, ⟨zqR HO_7.out⟩, ⟨zqR HO_11.out⟩, ⟨zqR HO_522002.out⟩, ⟨by (with_reducible repeat (first | apply Kd.Q_alloc | apply Kd.Q_drewN | apply Kd.Q_drew)); exact HO_523002.out⟩, ⟨by (with_reducible repeat (first | apply zN | apply zD | apply zL)); exact BK521.out⟩, ⟨by (with_reducible repeat (first | apply zN | apply zD | apply zL)); exact BK522.out⟩, ⟨zq14⟩⟩
    rw [if_pos c40] at H
    have c40b0 : decide (0 < t537) = true := decide_eq_true c40
    clear c40
    by_cases c41 : (t541 != (decide ((wrap64 (100 * t537)) ≥ (wrap64 (t520 * t538))))) = true
    case pos =>
     rw [if_pos c41] at H
     exact absurd H (by simp)
    rw [if_neg c41] at H
    have c41b0 : (t541 != (decide ((wrap64 (100 * t537)) ≥ (wrap64 (t520 * t538))))) = false := by simpa using c41
    (try (have c41b1 : decide (t541 = (decide ((wrap64 (100 * t537)) ≥ (wrap64 (t520 * t538))))) = true := by simpa using c41))
    (try (have c41b2 : (t541 == (decide ((wrap64 (100 * t537)) ≥ (wrap64 (t520 * t538))))) = true := by simpa using c41))
    clear c41
    have H' := zm H
    clear H
    try go_wp2
    have n0_ := zm (Kd.R_drew HO_7.out)
    have n1_ := zm (Kd.R_drew HO_11.out)
    have n2_ := zm (Kd.R_drew HO_522002.out)
    have n3_ := zm (Kd.Q_drew HO_523002.out)
    have n4_ := zm (zD BK521.out)
    have n5_ := zm (zD BK522.out)
    have n6_ := zm (zyr HB.out)
    clear HO_7
    clear HO_11
    clear HO_522002
    clear HO_523002
    clear BK521
    clear BK522
    clear HB
    have HO_7 := n0_
    have HO_11 := n1_
    have HO_522002 := n2_
    have HO_523002 := n3_
    have BK521 := n4_
    have BK522 := n5_
    have HB := n6_
    clear n0_ n1_ n2_ n3_ n4_ n5_ n6_
    obtain ⟨Ao43, co43, eo43⟩ := Kd.R_slice HO_11.out
    (first | subst eo43 | (injection eo43 with f1_ f2_ f3_; have f4_ := f1_.symm; have f5_ := f3_.symm; clear f1_ f2_ f3_; subst f4_; subst f5_))
    have p536 : 0 ≤ (x13_2 : Int) := of_decide_eq_true zq6
    have q536 : x13_2 < (t532.length : Int) := of_decide_eq_true zq6
    obtain ⟨ad536, e536, hx536_0⟩ := Kd.at_int (Kd.R_reads' HO_11.out).2.2 x13_2 p536 q536
    cases e536
    replace p536 := eq_true p536
    replace q536 := eq_true q536
    refine start_ (n := 15) (S := fun w' => w'.cell? ⟨gb521, 0, none⟩ = some (.int .i64 t509) ∧ w'.cell? ⟨gb521, 1, none⟩ = some (.int .i64 t510) ∧ w'.cell? ⟨gb521, 2, none⟩ = some (.slice Ao13 t511.length co13) ∧ w'.cell? ⟨gb522, 0, none⟩ = some (.int .i64 t514) ∧ w'.cell? ⟨gb522, 1, none⟩ = some (.int .i64 t515) ∧ w'.cell? ⟨gb522, 2, none⟩ = some (.slice Ao15 t516.length co15) ∧ w'.cell? (ad536.add (x13_2).toNat) = some (.int .i64 (rd t532 x13_2))) (ds := []) #[zf, zf, zf, zf, zf, zf, zf, zf, zf, zf, zf, zf, zf, zf, zf] (by kernel_rfl) rfl rfl ⟨(zyk BK521.out 0).trans rfl, (zyk BK521.out 1).trans rfl, (zyk BK521.out 2).trans rfl, (zyk BK522.out 0).trans rfl, (zyk BK522.out 1).trans rfl, (zyk BK522.out 2).trans rfl, hx536_0⟩ (fun hHeld => ?_); refine with_tabW laws_FnAffected.tab12 laws_FnAffected.bits12 (fun HT_ HW_ => ?_)
    generalize wc.drew = w42 at HO_7 HO_11 HO_522002 HO_523002 BK521 BK522 HB hx536_0 hHeld ⊢
    refine zP 1 (some 87) #[zf, zt, zf, zf, zf, zf, zf, zf, zf, zf, zf, zf, zf, zf, zf] ?_ rfl rfl HT_ (Or.inl ⟨by rfl, ?_⟩) ?_ ?_ ?_
    rotate_left; · exact zqB
    rotate_left; · exact zqA
    refine zP 2 (some 88) #[zf, zt, zt, zf, zf, zf, zf, zf, zf, zf, zf, zf, zf, zf, zf] ?_ rfl rfl HT_ (Or.inl ⟨by rfl, ?_⟩) ?_ ?_ ?_
    rotate_left; · exact zqB
    rotate_left; · exact zqA
    refine zP 3 (some 89) #[zf, zt, zt, zt, zf, zf, zf, zf, zf, zf, zf, zf, zf, zf, zf] ?_ rfl rfl HT_ (Or.inl ⟨by rfl, ?_⟩) ?_ ?_ ?_
    rotate_left; · exact zqB
    rotate_left; · exact zqA
    refine zP 6 (some 92) #[zf, zt, zt, zt, zf, zf, zt, zf, zf, zf, zf, zf, zf, zf, zf] ?_ rfl rfl HT_ (Or.inl ⟨by rfl, ?_⟩) ?_ ?_ ?_
    rotate_left; · exact zqB
    rotate_left; · exact zqA
    refine zT 0 (some 86) #[zt, zt, zt, zt, zf, zf, zt, zf, zf, zf, zf, zf, zf, zf, zf] ?_ rfl rfl HT_ HW_ (Or.inl ⟨by rfl, ?_⟩) hHeld ?_ ?_ ?_
    rotate_left
    ·
     rintro w' ⟨s0, s1, s2, s3, s4, s5, s6⟩
     go_simp
     with_reducible rfl
    rotate_left; · exact zqA
    refine zT 4 (some 90) #[zt, zt, zt, zt, zt, zf, zt, zf, zf, zf, zf, zf, zf, zf, zf] ?_ rfl rfl HT_ HW_ (Or.inl ⟨by rfl, ?_⟩) hHeld ?_ ?_ ?_
    rotate_left
    ·
     rintro w' ⟨s0, s1, s2, s3, s4, s5, s6⟩
     go_simp
     with_reducible rfl
    rotate_left; · exact zqA
    refine zT 5 (some 91) #[zt, zt, zt, zt, zt, zt, zt, zf, zf, zf, zf, zf, zf, zf, zf] ?_ rfl rfl HT_ HW_ (Or.inl ⟨by rfl, ?_⟩) hHeld ?_ ?_ ?_
    rotate_left
    ·
     rintro w' ⟨s0, s1, s2, s3, s4, s5, s6⟩
     go_simp
     with_reducible rfl
    rotate_left; · exact zqA
    refine one_ (i := 7) (N := some 93) #[zt, zt, zt, zt, zt, zt, zt, zt, zf, zf, zf, zf, zf, zf, zf] rfl rfl (one_of HT_.out (by kernel_rfl)) (by decide) (fun K hK => ?_)
    refine goes_ Try.func10 (by kernel_rfl) rfl #[.agg #[.int .i64 t509, .int .i64 t510, .slice Ao13 t511.length co13], .int .i64 (rd t532 x13_2), .agg #[.int .i64 t514, .int .i64 t515, .slice Ao15 t516.length co15], .int .i64 t519] (by rfl) rfl rfl zq0 ?_
    with_reducible refine (impl_AreaCoverage.calls kj28 t509 t510 _ _ t511 (rd t532 x13_2) t514 t515 _ _ t516 t519 t537 t538 true _ ?side1 ?side2 ?side3 ?side4 A36.out).mono ?_
    (case side1 => exact zqC (Kd.R_reads' HO_522002.out).2.2)
    (case side2 => exact (Kd.R_reads' HO_522002.out).2.1)
    (case side3 => exact zqC (Kd.Q_reads' HO_523002.out).2.2)
    (case side4 => exact (Kd.Q_reads' HO_523002.out).2.1)
    rintro e w44 ⟨rfl, hb⟩
    have HS6_ := (hb.cell (World.block_lt_of_cell? _ _ (hHeld.2.2.2.2.2.2))).trans (hHeld.2.2.2.2.2.2)
    refine ⟨_, rfl, ?_⟩
    have n0_ := zm (Kd.R_below (zqR HO_7.out) hb)
    have n1_ := zm (Kd.R_below (zqR HO_11.out) hb)
    have n2_ := zm (Kd.R_below (zqR HO_522002.out) hb)
    have n3_ := zm (Kd.Q_below zq26 hb)
    have n4_ := zm (zyb (g := gb521) (o := .cells #[.int .i64 t509, .int .i64 t510, .slice Ao13 t511.length co13] 26 (0, 0)) (zqK BK521.out) hb)
    have n5_ := zm (zyb (g := gb522) (o := .cells #[.int .i64 t514, .int .i64 t515, .slice Ao15 t516.length co15] 27 (0, 0)) (zqK BK522.out) hb)
    have n6_ := zm (zyh zq14 hb)
    clear HO_7
    clear HO_11
    clear HO_522002
    clear HO_523002
    clear BK521
    clear BK522
    clear HB
    have HO_7 := n0_
    have HO_11 := n1_
    have HO_522002 := n2_
    have HO_523002 := n3_
    have BK521 := n4_
    have BK522 := n5_
    have HB := n6_
    clear n0_ n1_ n2_ n3_ n4_ n5_ n6_
    (try clear hb)
    (try clear hb2)
    (try clear hk)
    (try clear hi)
    refine hK.out _ _ ⟨(zyk BK521.out 0).trans rfl, (zyk BK521.out 1).trans rfl, (zyk BK521.out 2).trans rfl, (zyk BK522.out 0).trans rfl, (zyk BK522.out 1).trans rfl, (zyk BK522.out 2).trans rfl, HS6_⟩ (fun hHeld => ?_)
    clear hK K
    refine norm_ (a' := ?_) ?_ ?_
    rotate_left
    ·
     show Act.put _ (some 93) _ = _
     simp only [Act.put, List.setIfInBounds_toArray, List.set_cons_zero, List.set_cons_succ, i64_w, i32_w]
     rfl
    refine zP 8 (some 85) #[zt, zt, zt, zt, zt, zt, zt, zt, zt, zf, zf, zf, zf, zf, zf] ?_ rfl rfl HT_ (Or.inl ⟨by rfl, ?_⟩) ?_ ?_ ?_
    rotate_left; · exact zqB
    rotate_left; · exact zqA
    refine zP 9 (some 94) #[zt, zt, zt, zt, zt, zt, zt, zt, zt, zt, zf, zf, zf, zf, zf] ?_ rfl rfl HT_ (Or.inl ⟨by rfl, ?_⟩) ?_ ?_ ?_
    rotate_left; · exact zqB
    rotate_left; · exact zqA
    refine zP 10 (some 95) #[zt, zt, zt, zt, zt, zt, zt, zt, zt, zt, zt, zf, zf, zf, zf] ?_ rfl rfl HT_ (Or.inl ⟨by rfl, ?_⟩) ?_ ?_ ?_
    rotate_left; · exact zqB
    rotate_left; · exact zqA
    refine zP 11 (some 96) #[zt, zt, zt, zt, zt, zt, zt, zt, zt, zt, zt, zt, zf, zf, zf] ?_ rfl rfl HT_ (Or.inl ⟨by rfl, ?_⟩) ?_ ?_ ?_
    rotate_left; · exact zqB
    rotate_left; · exact zqA
    refine zP 12 (some 14) #[zt, zt, zt, zt, zt, zt, zt, zt, zt, zt, zt, zt, zt, zf, zf] ?_ rfl rfl HT_ (Or.inl ⟨by rfl, ?_⟩) ?_ ?_ ?_
    rotate_left; · exact zqB
    rotate_left; · exact zqA
    refine zP 13 (some 15) #[zt, zt, zt, zt, zt, zt, zt, zt, zt, zt, zt, zt, zt, zt, zf] ?_ rfl rfl HT_ (Or.inl ⟨by rfl, ?_⟩) ?_ ?_ ?_
    rotate_left; · exact zqB
    rotate_left; · exact zqA
    refine zP 14 (some 16) #[zt, zt, zt, zt, zt, zt, zt, zt, zt, zt, zt, zt, zt, zt, zt] ?_ rfl rfl HT_ (Or.inl ⟨by rfl, ?_⟩) ?_ ?_ ?_
    rotate_left; · exact zqB
    rotate_left; · exact zqA
    refine done_ (done_of HT_.out (by kernel_rfl)) ?_
    have p540 : 0 ≤ (x13_2 : Int) := of_decide_eq_true zq6
    have q540 : x13_2 < (t532.length : Int) := of_decide_eq_true zq6
    obtain ⟨ad540, e540, hx540_0⟩ := Kd.at_int (Kd.R_reads' HO_11.out).2.2 x13_2 p540 q540
    obtain rfl : ad536 = ad540 := (by injection e540)
    replace p540 := eq_true p540
    replace q540 := eq_true q540
    obtain ⟨Ao45, co45, eo45⟩ := Kd.R_slice HO_7.out
    subst eo45
    try go_wp2_with (first | (go_at_call 11; (with_reducible refine (laws_rHas.calls kj28 _ _ t523 (rd t532 x13_2) t541 _ ?side1 ?side2 A39.out).mono ?_); (case side1 => exact zqC (Kd.R_reads' HO_7.out).2.2); (case side2 => exact (Kd.R_reads' HO_7.out).2.1); rintro e w' ⟨rfl, ⟨nd, rfl⟩⟩))
    go_roundg kj28
    case measure => have := HJ6.out; have := HK2.out; have := HJ28.out; omega
    case rel => exact ⟨(wrap64 (x13_2 + 1)), (by first | rfl | (simp; done) | (simp [*]; done)), H', ⟨by have := HJ6.out; have := HK2.out; have := HJ28.out; omega⟩, ⟨zqR HO_7.out⟩, ⟨zqR HO_11.out⟩, ⟨zqR HO_522002.out⟩, ⟨by (with_reducible repeat (first | apply Kd.Q_alloc | apply Kd.Q_drewN | apply Kd.Q_drew)); exact HO_523002.out⟩, ⟨by (with_reducible repeat (first | apply zN | apply zD | apply zL)); exact BK521.out⟩, ⟨by (with_reducible repeat (first | apply zN | apply zD | apply zL)); exact BK522.out⟩, ⟨zq14⟩⟩
end Go.Proofs.Ytfaihkhdbapjmaa.Q
