/- Texts of this claim, put together: walks of the program's functions, and plain facts. -/
import Derived.Test.YtleadjbfcenofaaGreatDoorZFnWarningTexts
import Derived.Test.YtleadjbfcenofaaGreatDoorBFnWarningTexts0
import Derived.Test.YtleadjbfcenofaaGreatDoorBFnWarningTexts1
import Derived.Test.YtleadjbfcenofaaGreatDoorBFnWarningTexts2
import Derived.Test.YtleadjbfcenofaaGreatDoorBFnWarningTexts3
import Derived.Test.YtleadjbfcenofaaGreatDoorBFnWarningTexts4
import Derived.Test.YtleadjbfcenofaaGreatDoorBFnWarningTexts5
import Derived.Test.YtleadjbfcenofaaGreatDoorBFnWarningTexts6
import Derived.Test.YtleadjbfcenofaaGreatDoorBFnWarningTexts8
import Derived.Test.YtleadjbfcenofaaGreatDoorBFnWarningTexts9
import Derived.Test.YtleadjbfcenofaaGreatDoorBFnWarningTexts10
import Derived.Test.YtleadjbfcenofaaGreatDoorBFnWarningTexts11
import Derived.Test.YtleadjbfcenofaaGreatDoorBFnWarningTexts12
namespace Go.Proofs.YtleadjbfcenofaaGreatDoor.Q
open Go.RowKit Go.Proofs.YtleadjbfcenofaaGreatDoorW.PrintWords Go.Proofs.YtleadjbfcenofaaGreatDoorW.PrintLast Go.Proofs.YtleadjbfcenofaaGreatDoorW.PrintMore
attribute [local go_sem] max2_int min2_int max_two min_two max_three min_three max_four min_four
set_option linter.unusedVariables false
set_option linter.unusedSimpArgs false
attribute [local go_sem high] eqA25
mutual
def laws_FnWarningTexts.j0 : Nat → List Int → ByteArray → Bool → Bool → Int → Int → Int → Int → Int → Int → Option (Bool)
 | 0, _, _, _, _, _, _, _, _, _, _ => none
 | k + 1, x0, x4, x5, x55, x511000, x511001, x511002, x511003, x511004, x511005 => if x55 = true then (none) else ((impl_ParseWarning.f k x4).bind fun bt515 => (if x5 = true then (if bt515.2.2.2.2.2.2 = true then (laws_FnWarningTexts.j1 k x0 (!(bt515.1 == x511000) || (!(bt515.2.1 == x511001) || (!(bt515.2.2.1 == x511002) || (!(bt515.2.2.2.1 == x511003) || (!(bt515.2.2.2.2.1 == x511004) || (!(bt515.2.2.2.2.2.1 == x511005)))))))) else (none)) else (laws_FnWarningTexts.j1 k x0 false)))
def laws_FnWarningTexts.j1 : Nat → List Int → Bool → Option (Bool)
 | 0, _, _ => none
 | k + 1, x0, x70 => if x70 = true then (none) else ((spec_DrawParseWarning.f k x0).bind fun t523 => ((impl_ParseWarning.f k t523).bind fun bt524 => ((spec_ParseWarning.f k t523).bind fun bt532 => (if (!(bt524.1 == bt532.1) || (!(bt524.2.1 == bt532.2.1) || (!(bt524.2.2.1 == bt532.2.2.1) || (!(bt524.2.2.2.1 == bt532.2.2.2.1) || (!(bt524.2.2.2.2.1 == bt532.2.2.2.2.1) || (!(bt524.2.2.2.2.2.1 == bt532.2.2.2.2.2.1))))))) = true then (none) else (laws_FnWarningTexts.j2 k x0 (bt524.2.2.2.2.2.2 != bt532.2.2.2.2.2.2))))))
def laws_FnWarningTexts.j2 : Nat → List Int → Bool → Option (Bool)
 | 0, _, _ => none
 | k + 1, x0, x90 => if x90 = true then (none) else ((spec_DrawOverviewText.f k x0).bind fun t540 => ((impl_OverviewText.f k t540).bind fun bt543 => ((spec_OverviewText.f k t540).bind fun bt545 => (if bt543.1.toList = bt545.1.toList then (laws_FnWarningTexts.j3 k x0 t540 bt543.1 bt543.2 (bt543.2 != bt545.2)) else (none)))))
def laws_FnWarningTexts.j3 : Nat → List Int → List (S25) → ByteArray → Bool → Bool → Option (Bool)
 | 0, _, _, _, _, _ => none
 | k + 1, x0, x15, x16, x17, x110 => if x110 = true then (none) else ((impl_ParseOverview.f k x16).bind fun bt547 => (if x17 = true then (if bt547.2 = true then ((laws_rWarnings.f k bt547.1 x15).bind fun t551 => (laws_FnWarningTexts.j4 k x0 (!t551))) else (none)) else (laws_FnWarningTexts.j4 k x0 false)))
def laws_FnWarningTexts.j4 : Nat → List Int → Bool → Option (Bool)
 | 0, _, _ => none
 | k + 1, x0, x126 => if x126 = true then (none) else ((spec_DrawParseOverview.f k x0).bind fun t552 => ((impl_ParseOverview.f k t552).bind fun bt553 => ((spec_ParseOverview.f k t552).bind fun bt557 => (if (bt553.2 != bt557.2) = true then (none) else ((laws_rWarnings.f k bt553.1 bt557.1).bind fun t561 => (laws_FnWarningTexts.j5 k x0 (!t561)))))))
def laws_FnWarningTexts.j5 : Nat → List Int → Bool → Option (Bool)
 | 0, _, _ => none
 | k + 1, x0, x147 => if x147 = true then (none) else ((spec_DrawHourText.f x0).bind fun t562 => ((impl_HourText.f t562).bind fun bt563 => ((impl_ParseHour.f k bt563.1).bind fun bt565 => ((spec_HourText.f k t562).bind fun bt567 => (if bt563.1.toList = bt567.1.toList then (if (bt563.2 == bt567.2) = true then (if bt563.2 = true then (if bt565.2 = true then (some (bt565.1 == t562)) else (none)) else (some true)) else (none)) else (none))))))
end
def laws_FnWarningTexts.f (k : Nat) (l0 : List Int) : Option (Bool) := (laws_rBig.f l0).bind fun t503 => (if t503 = true then (some true) else ((spec_DrawWarningText.f k l0).bind fun bt504 => ((impl_WarningText.f bt504.1 bt504.2.1 bt504.2.2.1 bt504.2.2.2.1 bt504.2.2.2.2.1 bt504.2.2.2.2.2).bind fun bt511 => ((spec_WarningText.f k bt504.1 bt504.2.1 bt504.2.2.1 bt504.2.2.2.1 bt504.2.2.2.2.1 bt504.2.2.2.2.2).bind fun bt513 => (if bt511.1.toList = bt513.1.toList then (laws_FnWarningTexts.j0 k l0 bt511.1 bt511.2 (bt511.2 != bt513.2) bt504.1 bt504.2.1 bt504.2.2.1 bt504.2.2.2.1 bt504.2.2.2.2.1 bt504.2.2.2.2.2) else (none))))))
set_option maxHeartbeats 8000000 in
set_option maxRecDepth 100000 in
theorem laws_FnWarningTexts.calls (k : Nat) (A0 : Option Addr) (c0 : Nat) (l0 : List Int) (r : Bool) (w : World) (htE : TabE w) (htL : TabL w) (htM : TabM w) (htN : TabN w) (htO : TabO w) (hr0 : Kd.C (Kd.int .u8) w A0 l0.length l0) (hc0 : l0.length ≤ c0) (h : laws_FnWarningTexts.f k l0 = some r) :
  Calls Tryz.prog 3 #[.slice A0 l0.length c0] w fun e w' => e = .returned (.bool r) ∧ Below w.heap.size w w' := by
 have HTE := zm htE
 clear htE
 have HTL := zm htL
 clear htL
 have HTM := zm htM
 clear htM
 have HTN := zm htN
 clear htN
 have HTO := zm htO
 clear htO
 have hu25 := Tryz.underlying25
 have HR0 := zm hr0
 have HC0 := zm hc0
 clear hr0 hc0
 have HB := zm (Below.refl w.heap.size w)
 have H : ((laws_rBig.f l0).bind fun t503 => (if t503 = true then (some true) else ((spec_DrawWarningText.f k l0).bind fun bt504 => ((impl_WarningText.f bt504.1 bt504.2.1 bt504.2.2.1 bt504.2.2.2.1 bt504.2.2.2.2.1 bt504.2.2.2.2.2).bind fun bt511 => ((spec_WarningText.f k bt504.1 bt504.2.1 bt504.2.2.1 bt504.2.2.2.1 bt504.2.2.2.2.1 bt504.2.2.2.2.2).bind fun bt513 => (if bt511.1.toList = bt513.1.toList then (laws_FnWarningTexts.j0 k l0 bt511.1 bt511.2 (bt511.2 != bt513.2) bt504.1 bt504.2.1 bt504.2.2.1 bt504.2.2.2.1 bt504.2.2.2.2.1 bt504.2.2.2.2.2) else (none))))))) = some r := h
 clear h
 obtain ⟨t503, A20, H⟩ := zob H
 replace H : (if t503 = true then (some true) else ((spec_DrawWarningText.f k l0).bind fun bt504 => ((impl_WarningText.f bt504.1 bt504.2.1 bt504.2.2.1 bt504.2.2.2.1 bt504.2.2.2.2.1 bt504.2.2.2.2.2).bind fun bt511 => ((spec_WarningText.f k bt504.1 bt504.2.1 bt504.2.2.1 bt504.2.2.2.1 bt504.2.2.2.2.1 bt504.2.2.2.2.2).bind fun bt513 => (if bt511.1.toList = bt513.1.toList then (laws_FnWarningTexts.j0 k l0 bt511.1 bt511.2 (bt511.2 != bt513.2) bt504.1 bt504.2.1 bt504.2.2.1 bt504.2.2.2.1 bt504.2.2.2.2.1 bt504.2.2.2.2.2) else (none)))))) = some r := H
 have A2 := zm A20
 clear A20
 by_cases c3 : t503 = true
 case pos =>
  subst c3
  have H1 : (some true) = some r := by rw [if_pos rfl] at H; exact H
  clear H
  have H := H1
  clear H1
  obtain rfl := Option.some.inj H
  go_enter Tryz.func3, Tryz.ntmps3
  go_wp2_with (first | ((with_reducible refine gate_callee (f := 4) rfl ?_); refine goesL_ (some 35) rfl rfl Tryz.func4 (by kernel_rfl) rfl #[.slice A0 l0.length c0] rfl zq1 ?_; (with_reducible refine (laws_rBig.calls _ _ l0 true _ ?side1 ?side2 A2.out).mono ?_); (case side1 => exact zqC HR0.out); (case side2 => exact HC0.out); rintro e w' ⟨rfl, ⟨nd, rfl⟩⟩; refine ⟨_, rfl, ?_⟩))
  go_ret
  exact ⟨zqE, zq0⟩
 replace c3 := Bool.eq_false_iff.mpr c3
 subst c3
 have H1 : ((spec_DrawWarningText.f k l0).bind fun bt504 => ((impl_WarningText.f bt504.1 bt504.2.1 bt504.2.2.1 bt504.2.2.2.1 bt504.2.2.2.2.1 bt504.2.2.2.2.2).bind fun bt511 => ((spec_WarningText.f k bt504.1 bt504.2.1 bt504.2.2.1 bt504.2.2.2.1 bt504.2.2.2.2.1 bt504.2.2.2.2.2).bind fun bt513 => (if bt511.1.toList = bt513.1.toList then (laws_FnWarningTexts.j0 k l0 bt511.1 bt511.2 (bt511.2 != bt513.2) bt504.1 bt504.2.1 bt504.2.2.1 bt504.2.2.2.1 bt504.2.2.2.2.1 bt504.2.2.2.2.2) else (none))))) = some r := by rw [if_neg (show ¬ (false = true) by decide)] at H; exact H
 clear H
 have H := H1
 clear H1
 obtain ⟨⟨t504, t505, t506, t507, t508, t509⟩, A40, H⟩ := zob H
 replace H : ((impl_WarningText.f t504 t505 t506 t507 t508 t509).bind fun bt511 => ((spec_WarningText.f k t504 t505 t506 t507 t508 t509).bind fun bt513 => (if bt511.1.toList = bt513.1.toList then (laws_FnWarningTexts.j0 k l0 bt511.1 bt511.2 (bt511.2 != bt513.2) t504 t505 t506 t507 t508 t509) else (none)))) = some r := H
 have A4 := zm A40
 clear A40
 obtain ⟨⟨t511, t512⟩, A50, H⟩ := zob H
 replace H : ((spec_WarningText.f k t504 t505 t506 t507 t508 t509).bind fun bt513 => (if t511.toList = bt513.1.toList then (laws_FnWarningTexts.j0 k l0 t511 t512 (t512 != bt513.2) t504 t505 t506 t507 t508 t509) else (none))) = some r := H
 have A5 := zm A50
 clear A50
 obtain ⟨⟨t513, t514⟩, A60, H⟩ := zob H
 replace H : (if t511.toList = t513.toList then (laws_FnWarningTexts.j0 k l0 t511 t512 (t512 != t514) t504 t505 t506 t507 t508 t509) else (none)) = some r := H
 have A6 := zm A60
 clear A60
 have HC7 := zm H
 clear H
 go_enter Tryz.func3, Tryz.ntmps3
 go_upto_region 6 with (first | ((with_reducible refine gate_callee (f := 4) rfl ?_); refine goesL_ (some 35) rfl rfl Tryz.func4 (by kernel_rfl) rfl #[.slice A0 l0.length c0] rfl zq1 ?_; (with_reducible refine (laws_rBig.calls _ _ l0 false _ ?side1 ?side2 A2.out).mono ?_); (case side1 => exact zqC HR0.out); (case side2 => exact HC0.out); rintro e w' ⟨rfl, ⟨nd, rfl⟩⟩; refine ⟨_, rfl, ?_⟩) | ((with_reducible refine gate_callee (f := 5) rfl ?_); refine goesL_ (some 37) rfl rfl Tryz.func5 (by kernel_rfl) rfl #[.slice A0 l0.length c0] rfl zq1 ?_; (with_reducible refine (spec_DrawWarningText.calls k _ _ l0 t504 t505 t506 t507 t508 t509 _ ?side1 ?side2 A4.out).mono ?_); (case side1 => exact zqC HR0.out); (case side2 => exact HC0.out); rintro e w8 ⟨rfl, hb⟩; refine ⟨_, rfl, ?_⟩; replace HB := zm (below_step zq0 hb); (try clear hb); (try clear hb2); (try clear hk); (try clear hi)) | ((with_reducible refine gate_dst (N := 3) rfl ?_); refine box_event ?hg (N := 3) ?hd (cs := #[.int .i64 0, .int .i64 0, .int .i64 0, .int .i64 0, .int .i64 0, .int .i64 0]) (t := 25) ?hr ?_; (case hd => rfl); (case hg => rfl); (case hr => exact zqS); intro gb510 hg w9 hbox hb; have BK510 := zm (hbox); have GW510 := zm ((by rw [hg]; exact (below_size zq0) : w.heap.size ≤ gb510)); replace HB := zm (below_step zq0 hb); have GE510 := GW510; clear hb hbox hg; obtain ⟨hcz10_0, hcz10_1, hcz10_2, hcz10_3, hcz10_4, hcz10_5, hfz10_0, hfz10_1, hfz10_2, hfz10_3, hfz10_4, hfz10_5⟩ := bz6 BK510.out) | ((with_reducible refine gate_callee (f := 6) rfl ?_); refine goesL_ (some 40) rfl rfl Tryz.func6 (by kernel_rfl) rfl #[.agg #[.int .i64 t504, .int .i64 t505, .int .i64 t506, .int .i64 t507, .int .i64 t508, .int .i64 t509]] rfl zq1 ?_; (with_reducible refine (impl_WarningText.calls t504 t505 t506 t507 t508 t509 t511 t512 _ (HTL.out.below zq2) (HTN.out.below zq2) (HTO.out.below zq2) A5.out).mono ?_); rintro e w11 ⟨rfl, hb⟩; refine ⟨_, rfl, ?_⟩; replace BK510 := zm (blk_below (g := gb510) (o := .cells #[.int .i64 t504, .int .i64 t505, .int .i64 t506, .int .i64 t507, .int .i64 t508, .int .i64 t509] 25 (0, 0)) (by (with_reducible repeat (first | refine zN ?_ _ | refine zD ?_ | refine zL ?_ _)); refine blk_put (cs := #[.int .i64 t504, .int .i64 t505, .int .i64 t506, .int .i64 t507, .int .i64 t508, .int .i64 0]) ?_ 5 _ rfl; (with_reducible repeat (first | refine zN ?_ _ | refine zD ?_ | refine zL ?_ _)); refine blk_put (cs := #[.int .i64 t504, .int .i64 t505, .int .i64 t506, .int .i64 t507, .int .i64 0, .int .i64 0]) ?_ 4 _ rfl; (with_reducible repeat (first | refine zN ?_ _ | refine zD ?_ | refine zL ?_ _)); refine blk_put (cs := #[.int .i64 t504, .int .i64 t505, .int .i64 t506, .int .i64 0, .int .i64 0, .int .i64 0]) ?_ 3 _ rfl; (with_reducible repeat (first | refine zN ?_ _ | refine zD ?_ | refine zL ?_ _)); refine blk_put (cs := #[.int .i64 t504, .int .i64 t505, .int .i64 0, .int .i64 0, .int .i64 0, .int .i64 0]) ?_ 2 _ rfl; (with_reducible repeat (first | refine zN ?_ _ | refine zD ?_ | refine zL ?_ _)); refine blk_put (cs := #[.int .i64 t504, .int .i64 0, .int .i64 0, .int .i64 0, .int .i64 0, .int .i64 0]) ?_ 1 _ rfl; (with_reducible repeat (first | refine zN ?_ _ | refine zD ?_ | refine zL ?_ _)); refine blk_put (cs := #[.int .i64 0, .int .i64 0, .int .i64 0, .int .i64 0, .int .i64 0, .int .i64 0]) ?_ 0 _ rfl; (with_reducible repeat (first | refine zN ?_ _ | refine zD ?_ | refine zL ?_ _)); exact BK510.out) hb); replace HB := zm (below_step zq46 hb); (try clear hb); (try clear hb2); (try clear hk); (try clear hi); obtain ⟨hcz12_0, hcz12_1, hcz12_2, hcz12_3, hcz12_4, hcz12_5, hfz12_0, hfz12_1, hfz12_2, hfz12_3, hfz12_4, hfz12_5⟩ := bz6 BK510.out) | ((with_reducible refine gate_callee (f := 7) rfl ?_); refine goesL_ (some 45) rfl rfl Tryz.func7 (by kernel_rfl) rfl #[.agg #[.int .i64 t504, .int .i64 t505, .int .i64 t506, .int .i64 t507, .int .i64 t508, .int .i64 t509]] rfl zq1 ?_; (with_reducible refine (spec_WarningText.calls k t504 t505 t506 t507 t508 t509 t513 t514 _ A6.out).mono ?_); rintro e w13 ⟨rfl, hb⟩; refine ⟨_, rfl, ?_⟩; replace BK510 := zm (blk_below (g := gb510) (o := .cells #[.int .i64 t504, .int .i64 t505, .int .i64 t506, .int .i64 t507, .int .i64 t508, .int .i64 t509] 25 (0, 0)) (zqK BK510.out) hb); replace HB := zm (below_step zq46 hb); (try clear hb); (try clear hb2); (try clear hk); (try clear hi)))
 (try simp only [Act.put, List.setIfInBounds_toArray, List.set_cons_zero, List.set_cons_succ])
 go_cut [55] (fun v55 wc => ∃ (kq : Nat) (x55_6 : Bool), v55 = .bool x55_6 ∧ Aside0 (laws_FnWarningTexts.j0 kq l0 t511 t512 x55_6 t504 t505 t506 t507 t508 t509 = some r) ∧ Aside0 (kq ≤ k) ∧ Aside0 (wc.heap[gb510]? = some (.cells #[.int .i64 t504, .int .i64 t505, .int .i64 t506, .int .i64 t507, .int .i64 t508, .int .i64 t509] 25 (0, 0))) ∧ Aside0 (Below w.heap.size w wc))
 case first =>
  have H := HC7.out
  clear HC7
  by_cases c14 : t511.toList = t513.toList
  case neg =>
   rw [if_neg c14] at H
   exact absurd H (by simp)
  rw [if_pos c14] at H
  have c14b0 : (t511.toList == t513.toList) = true := beq_iff_eq.mpr c14
  have c14b1 : (t511.toList != t513.toList) = false := bne_eq_false_iff_eq.mpr c14
  clear c14
  (first | rw [c14b0] | (simp only [i64_w, i32_w]; rw [c14b0]) | rw [c14b1] | skip)
  have H' := zm H
  clear H
  go_wp2
  go_meet
  case rel => exact ⟨_, ((t512 != t514)), (by first | rfl | (simp; done) | (simp [*]; done)), H', ⟨by first | omega | exact Nat.le_refl _⟩, ⟨by (with_reducible repeat (first | refine zN ?_ _ | refine zD ?_ | refine zL ?_ _)); exact BK510.out⟩, ⟨zq46⟩⟩
 clear HC7
 try clear c1
 try clear p2
 try clear c3
 try clear c4
 try clear c5
 try clear c6
 try clear c7
 try clear c14
 try clear c14b0
 try clear c14b1
 try clear hcz10_0
 try clear hcz10_1
 try clear hcz10_2
 try clear hcz10_3
 try clear hcz10_4
 try clear hcz10_5
 try clear hcz12_0
 try clear hcz12_1
 try clear hcz12_2
 try clear hcz12_3
 try clear hcz12_4
 try clear hcz12_5
 try clear hfz10_0
 try clear hfz10_1
 try clear hfz10_2
 try clear hfz10_3
 try clear hfz10_4
 try clear hfz10_5
 try clear hfz12_0
 try clear hfz12_1
 try clear hfz12_2
 try clear hfz12_3
 try clear hfz12_4
 try clear hfz12_5
 obtain ⟨kq, x55_6, rfl, HA, HJ6, BK510, HB⟩ := hcut
 cases kq with
 | zero => exact absurd HA.out (by simp [laws_FnWarningTexts.j0])
 | succ kj6 =>
  have H := HA.out
  clear HA
  simp only [laws_FnWarningTexts.j0] at H
  by_cases c15 : x55_6 = true
  case pos =>
   subst c15
   have H1 : (none) = some r := by rw [if_pos rfl] at H; exact H
   clear H
   have H := H1
   clear H1
   exact absurd H (by simp)
  replace c15 := Bool.eq_false_iff.mpr c15
  subst c15
  have H1 : ((impl_ParseWarning.f kj6 t511).bind fun bt515 => (if t512 = true then (if bt515.2.2.2.2.2.2 = true then (laws_FnWarningTexts.j1 kj6 l0 (!(bt515.1 == t504) || (!(bt515.2.1 == t505) || (!(bt515.2.2.1 == t506) || (!(bt515.2.2.2.1 == t507) || (!(bt515.2.2.2.2.1 == t508) || (!(bt515.2.2.2.2.2.1 == t509)))))))) else (none)) else (laws_FnWarningTexts.j1 kj6 l0 false))) = some r := by rw [if_neg (show ¬ (false = true) by decide)] at H; exact H
  clear H
  have H := H1
  clear H1
  obtain ⟨⟨t515, t516, t517, t518, t519, t520, t521⟩, A160, H⟩ := zob H
  replace H : (if t512 = true then (if t521 = true then (laws_FnWarningTexts.j1 kj6 l0 (!(t515 == t504) || (!(t516 == t505) || (!(t517 == t506) || (!(t518 == t507) || (!(t519 == t508) || (!(t520 == t509)))))))) else (none)) else (laws_FnWarningTexts.j1 kj6 l0 false)) = some r := H
  have A16 := zm A160
  clear A160
  have HC17 := zm H
  clear H
  go_upto_region 9 with (first | ((with_reducible refine gate_callee (f := 8) rfl ?_); refine goesL_ (some 58) rfl rfl Tryz.func8 (by kernel_rfl) rfl #[.string t511] rfl zq1 ?_; (with_reducible refine (impl_ParseWarning.calls kj6 t511 t515 t516 t517 t518 t519 t520 t521 _ (HTE.out.below zq2) (HTL.out.below zq2) (HTM.out.below zq2) (HTN.out.below zq2) (HTO.out.below zq2) A16.out).mono ?_); rintro e w18 ⟨rfl, hb⟩; refine ⟨_, rfl, ?_⟩; replace BK510 := zm (blk_below (g := gb510) (o := .cells #[.int .i64 t504, .int .i64 t505, .int .i64 t506, .int .i64 t507, .int .i64 t508, .int .i64 t509] 25 (0, 0)) (zqK BK510.out) hb); replace HB := zm (below_step zq46 hb); (try clear hb); (try clear hb2); (try clear hk); (try clear hi)) | ((with_reducible refine gate_dst (N := 8) rfl ?_); refine box_event ?hg (N := 8) ?hd (cs := #[.int .i64 0, .int .i64 0, .int .i64 0, .int .i64 0, .int .i64 0, .int .i64 0]) (t := 25) ?hr ?_; (case hd => rfl); (case hg => rfl); (case hr => exact zqS); intro gb522 hg w19 hbox hb; have BK522 := zm (hbox); have GW522 := zm ((by rw [hg]; exact (below_size zq46) : w.heap.size ≤ gb522)); replace HB := zm (below_step zq46 hb); have GE522 := GW522; have NB510_522 := zm ((by rw [hg]; exact Nat.ne_of_lt (blk_lt (g := gb510) (o := .cells #[.int .i64 t504, .int .i64 t505, .int .i64 t506, .int .i64 t507, .int .i64 t508, .int .i64 t509] 25 (0, 0)) (zqK BK510.out)) : gb510 ≠ gb522)); have NB522_510 := zm ((by rw [hg]; exact Nat.ne_of_gt (blk_lt (g := gb510) (o := .cells #[.int .i64 t504, .int .i64 t505, .int .i64 t506, .int .i64 t507, .int .i64 t508, .int .i64 t509] 25 (0, 0)) (zqK BK510.out)) : gb522 ≠ gb510)); replace BK510 := zm (blk_below (g := gb510) (o := .cells #[.int .i64 t504, .int .i64 t505, .int .i64 t506, .int .i64 t507, .int .i64 t508, .int .i64 t509] 25 (0, 0)) (zqK BK510.out) hb); clear hb hbox hg; have hnb20 := NB522_510.out; have hnc20 := NB510_522.out; obtain ⟨hcz21_0, hcz21_1, hcz21_2, hcz21_3, hcz21_4, hcz21_5, hfz21_0, hfz21_1, hfz21_2, hfz21_3, hfz21_4, hfz21_5⟩ := bz6 BK522.out))
  (try simp only [Act.put, List.setIfInBounds_toArray, List.set_cons_zero, List.set_cons_succ])
  go_cut [70] (fun v70 wc => ∃ (kq : Nat) (x70_16 : Bool), v70 = .bool x70_16 ∧ Aside0 (laws_FnWarningTexts.j1 kq l0 x70_16 = some r) ∧ Aside0 (kq ≤ kj6) ∧ Aside0 (wc.heap[gb510]? = some (.cells #[.int .i64 t504, .int .i64 t505, .int .i64 t506, .int .i64 t507, .int .i64 t508, .int .i64 t509] 25 (0, 0))) ∧ Aside0 (wc.heap[gb522]? = some (.cells #[.int .i64 t515, .int .i64 t516, .int .i64 t517, .int .i64 t518, .int .i64 t519, .int .i64 t520] 25 (0, 0))) ∧ Aside0 (Below w.heap.size w wc))
  case first =>
   have H := HC17.out
   clear HC17
   by_cases c22 : t512 = true
   case neg =>
    replace c22 := Bool.eq_false_iff.mpr c22
    subst c22
    have H1 : (laws_FnWarningTexts.j1 kj6 l0 false) = some r := by rw [if_neg (show ¬ (false = true) by decide)] at H; exact H
    clear H
    have H := H1
    clear H1
    have H' := zm H
    clear H
    go_wp2
    go_meet
    case rel => exact ⟨_, (false), (by first | rfl | (simp; done) | (simp [*]; done)), H', ⟨by have := HJ6.out; first | omega | exact Nat.le_refl _⟩, ⟨by (with_reducible repeat (first | refine zN ?_ _ | refine zD ?_ | refine zL ?_ _)); refine blk_far ?_ NB510_522.out _; (with_reducible repeat (first | refine zN ?_ _ | refine zD ?_ | refine zL ?_ _)); refine blk_far ?_ NB510_522.out _; (with_reducible repeat (first | refine zN ?_ _ | refine zD ?_ | refine zL ?_ _)); refine blk_far ?_ NB510_522.out _; (with_reducible repeat (first | refine zN ?_ _ | refine zD ?_ | refine zL ?_ _)); refine blk_far ?_ NB510_522.out _; (with_reducible repeat (first | refine zN ?_ _ | refine zD ?_ | refine zL ?_ _)); refine blk_far ?_ NB510_522.out _; (with_reducible repeat (first | refine zN ?_ _ | refine zD ?_ | refine zL ?_ _)); refine blk_far ?_ NB510_522.out _; (with_reducible repeat (first | refine zN ?_ _ | refine zD ?_ | refine zL ?_ _)); exact BK510.out⟩, ⟨by (with_reducible repeat (first | refine zN ?_ _ | refine zD ?_ | refine zL ?_ _)); refine blk_put (cs := #[.int .i64 t515, .int .i64 t516, .int .i64 t517, .int .i64 t518, .int .i64 t519, .int .i64 0]) ?_ 5 _ rfl; (with_reducible repeat (first | refine zN ?_ _ | refine zD ?_ | refine zL ?_ _)); refine blk_put (cs := #[.int .i64 t515, .int .i64 t516, .int .i64 t517, .int .i64 t518, .int .i64 0, .int .i64 0]) ?_ 4 _ rfl; (with_reducible repeat (first | refine zN ?_ _ | refine zD ?_ | refine zL ?_ _)); refine blk_put (cs := #[.int .i64 t515, .int .i64 t516, .int .i64 t517, .int .i64 0, .int .i64 0, .int .i64 0]) ?_ 3 _ rfl; (with_reducible repeat (first | refine zN ?_ _ | refine zD ?_ | refine zL ?_ _)); refine blk_put (cs := #[.int .i64 t515, .int .i64 t516, .int .i64 0, .int .i64 0, .int .i64 0, .int .i64 0]) ?_ 2 _ rfl; (with_reducible repeat (first | refine zN ?_ _ | refine zD ?_ | refine zL ?_ _)); refine blk_put (cs := #[.int .i64 t515, .int .i64 0, .int .i64 0, .int .i64 0, .int .i64 0, .int .i64 0]) ?_ 1 _ rfl; (with_reducible repeat (first | refine zN ?_ _ | refine zD ?_ | refine zL ?_ _)); refine blk_put (cs := #[.int .i64 0, .int .i64 0, .int .i64 0, .int .i64 0, .int .i64 0, .int .i64 0]) ?_ 0 _ rfl; (with_reducible repeat (first | refine zN ?_ _ | refine zD ?_ | refine zL ?_ _)); exact BK522.out⟩, ⟨zq41⟩⟩
   subst c22
   have H1 : (if t521 = true then (laws_FnWarningTexts.j1 kj6 l0 (!(t515 == t504) || (!(t516 == t505) || (!(t517 == t506) || (!(t518 == t507) || (!(t519 == t508) || (!(t520 == t509)))))))) else (none)) = some r := by rw [if_pos rfl] at H; exact H
   clear H
   have H := H1
   clear H1
   by_cases c23 : t521 = true
   case neg =>
    replace c23 := Bool.eq_false_iff.mpr c23
    subst c23
    have H1 : (none) = some r := by rw [if_neg (show ¬ (false = true) by decide)] at H; exact H
    clear H
    have H := H1
    clear H1
    exact absurd H (by simp)
   subst c23
   have H1 : (laws_FnWarningTexts.j1 kj6 l0 (!(t515 == t504) || (!(t516 == t505) || (!(t517 == t506) || (!(t518 == t507) || (!(t519 == t508) || (!(t520 == t509)))))))) = some r := by rw [if_pos rfl] at H; exact H
   clear H
   have H := H1
   clear H1
   have H' := zm H
   clear H
   have hnb24 := NB522_510.out
   have hnc24 := NB510_522.out
   obtain ⟨hcz25_0, hcz25_1, hcz25_2, hcz25_3, hcz25_4, hcz25_5, hfz25_0, hfz25_1, hfz25_2, hfz25_3, hfz25_4, hfz25_5⟩ := bz6 BK522.out
   obtain ⟨hcz26_0, hcz26_1, hcz26_2, hcz26_3, hcz26_4, hcz26_5, hfz26_0, hfz26_1, hfz26_2, hfz26_3, hfz26_4, hfz26_5⟩ := bz6 BK510.out
   go_wp2
   go_meet
   case rel => exact ⟨_, ((!(t515 == t504) || (!(t516 == t505) || (!(t517 == t506) || (!(t518 == t507) || (!(t519 == t508) || (!(t520 == t509)))))))), (by first | rfl | (simp; done) | (simp [*]; done)), H', ⟨by have := HJ6.out; first | omega | exact Nat.le_refl _⟩, ⟨by (with_reducible repeat (first | refine zN ?_ _ | refine zD ?_ | refine zL ?_ _)); refine blk_far ?_ NB510_522.out _; (with_reducible repeat (first | refine zN ?_ _ | refine zD ?_ | refine zL ?_ _)); refine blk_far ?_ NB510_522.out _; (with_reducible repeat (first | refine zN ?_ _ | refine zD ?_ | refine zL ?_ _)); refine blk_far ?_ NB510_522.out _; (with_reducible repeat (first | refine zN ?_ _ | refine zD ?_ | refine zL ?_ _)); refine blk_far ?_ NB510_522.out _; (with_reducible repeat (first | refine zN ?_ _ | refine zD ?_ | refine zL ?_ _)); refine blk_far ?_ NB510_522.out _; (with_reducible repeat (first | refine zN ?_ _ | refine zD ?_ | refine zL ?_ _)); refine blk_far ?_ NB510_522.out _; (with_reducible repeat (first | refine zN ?_ _ | refine zD ?_ | refine zL ?_ _)); exact BK510.out⟩, ⟨by (with_reducible repeat (first | refine zN ?_ _ | refine zD ?_ | refine zL ?_ _)); refine blk_put (cs := #[.int .i64 t515, .int .i64 t516, .int .i64 t517, .int .i64 t518, .int .i64 t519, .int .i64 0]) ?_ 5 _ rfl; (with_reducible repeat (first | refine zN ?_ _ | refine zD ?_ | refine zL ?_ _)); refine blk_put (cs := #[.int .i64 t515, .int .i64 t516, .int .i64 t517, .int .i64 t518, .int .i64 0, .int .i64 0]) ?_ 4 _ rfl; (with_reducible repeat (first | refine zN ?_ _ | refine zD ?_ | refine zL ?_ _)); refine blk_put (cs := #[.int .i64 t515, .int .i64 t516, .int .i64 t517, .int .i64 0, .int .i64 0, .int .i64 0]) ?_ 3 _ rfl; (with_reducible repeat (first | refine zN ?_ _ | refine zD ?_ | refine zL ?_ _)); refine blk_put (cs := #[.int .i64 t515, .int .i64 t516, .int .i64 0, .int .i64 0, .int .i64 0, .int .i64 0]) ?_ 2 _ rfl; (with_reducible repeat (first | refine zN ?_ _ | refine zD ?_ | refine zL ?_ _)); refine blk_put (cs := #[.int .i64 t515, .int .i64 0, .int .i64 0, .int .i64 0, .int .i64 0, .int .i64 0]) ?_ 1 _ rfl; (with_reducible repeat (first | refine zN ?_ _ | refine zD ?_ | refine zL ?_ _)); refine blk_put (cs := #[.int .i64 0, .int .i64 0, .int .i64 0, .int .i64 0, .int .i64 0, .int .i64 0]) ?_ 0 _ rfl; (with_reducible repeat (first | refine zN ?_ _ | refine zD ?_ | refine zL ?_ _)); exact BK522.out⟩, ⟨zq41⟩⟩
  clear HC17
  try clear c1
  try clear c2
  try clear p2
  try clear c3
  try clear c4
  try clear c5
  try clear c6
  try clear c7
  try clear c8
  try clear c14
  try clear c14b0
  try clear c14b1
  try clear c15
  try clear c20
  try clear c22
  try clear c23
  try clear c24
  try clear hcz10_0
  try clear hcz10_1
  try clear hcz10_2
  try clear hcz10_3
  try clear hcz10_4
  try clear hcz10_5
  try clear hcz12_0
  try clear hcz12_1
  try clear hcz12_2
  try clear hcz12_3
  try clear hcz12_4
  try clear hcz12_5
  try clear hcz21_0
  try clear hcz21_1
  try clear hcz21_2
  try clear hcz21_3
  try clear hcz21_4
  try clear hcz21_5
  try clear hcz25_0
  try clear hcz25_1
  try clear hcz25_2
  try clear hcz25_3
  try clear hcz25_4
  try clear hcz25_5
  try clear hcz26_0
  try clear hcz26_1
  try clear hcz26_2
  try clear hcz26_3
  try clear hcz26_4
  try clear hcz26_5
  try clear hfz10_0
  try clear hfz10_1
  try clear hfz10_2
  try clear hfz10_3
  try clear hfz10_4
  try clear hfz10_5
  try clear hfz12_0
  try clear hfz12_1
  try clear hfz12_2
  try clear hfz12_3
  try clear hfz12_4
  try clear hfz12_5
  try clear hfz21_0
  try clear hfz21_1
  try clear hfz21_2
  try clear hfz21_3
  try clear hfz21_4
  try clear hfz21_5
  try clear hfz25_0
  try clear hfz25_1
  try clear hfz25_2
  try clear hfz25_3
  try clear hfz25_4
  try clear hfz25_5
  try clear hfz26_0
  try clear hfz26_1
  try clear hfz26_2
  try clear hfz26_3
  try clear hfz26_4
  try clear hfz26_5
  try clear p2
  obtain ⟨kq, x70_16, rfl, HA, HJ16, BK510, BK522, HB⟩ := hcut
  cases kq with
  | zero => exact absurd HA.out (by simp [laws_FnWarningTexts.j1])
  | succ kj16 =>
   have H := HA.out
   clear HA
   simp only [laws_FnWarningTexts.j1] at H
   by_cases c27 : x70_16 = true
   case pos =>
    subst c27
    have H1 : (none) = some r := by rw [if_pos rfl] at H; exact H
    clear H
    have H := H1
    clear H1
    exact absurd H (by simp)
   replace c27 := Bool.eq_false_iff.mpr c27
   subst c27
   have H1 : ((spec_DrawParseWarning.f kj16 l0).bind fun t523 => ((impl_ParseWarning.f kj16 t523).bind fun bt524 => ((spec_ParseWarning.f kj16 t523).bind fun bt532 => (if (!(bt524.1 == bt532.1) || (!(bt524.2.1 == bt532.2.1) || (!(bt524.2.2.1 == bt532.2.2.1) || (!(bt524.2.2.2.1 == bt532.2.2.2.1) || (!(bt524.2.2.2.2.1 == bt532.2.2.2.2.1) || (!(bt524.2.2.2.2.2.1 == bt532.2.2.2.2.2.1))))))) = true then (none) else (laws_FnWarningTexts.j2 kj16 l0 (bt524.2.2.2.2.2.2 != bt532.2.2.2.2.2.2)))))) = some r := by rw [if_neg (show ¬ (false = true) by decide)] at H; exact H
   clear H
   have H := H1
   clear H1
   obtain ⟨t523, A280, H⟩ := zob H
   replace H : ((impl_ParseWarning.f kj16 t523).bind fun bt524 => ((spec_ParseWarning.f kj16 t523).bind fun bt532 => (if (!(bt524.1 == bt532.1) || (!(bt524.2.1 == bt532.2.1) || (!(bt524.2.2.1 == bt532.2.2.1) || (!(bt524.2.2.2.1 == bt532.2.2.2.1) || (!(bt524.2.2.2.2.1 == bt532.2.2.2.2.1) || (!(bt524.2.2.2.2.2.1 == bt532.2.2.2.2.2.1))))))) = true then (none) else (laws_FnWarningTexts.j2 kj16 l0 (bt524.2.2.2.2.2.2 != bt532.2.2.2.2.2.2))))) = some r := H
   have A28 := zm A280
   clear A280
   obtain ⟨⟨t524, t525, t526, t527, t528, t529, t530⟩, A290, H⟩ := zob H
   replace H : ((spec_ParseWarning.f kj16 t523).bind fun bt532 => (if (!(t524 == bt532.1) || (!(t525 == bt532.2.1) || (!(t526 == bt532.2.2.1) || (!(t527 == bt532.2.2.2.1) || (!(t528 == bt532.2.2.2.2.1) || (!(t529 == bt532.2.2.2.2.2.1))))))) = true then (none) else (laws_FnWarningTexts.j2 kj16 l0 (t530 != bt532.2.2.2.2.2.2)))) = some r := H
   have A29 := zm A290
   clear A290
   obtain ⟨⟨t532, t533, t534, t535, t536, t537, t538⟩, A300, H⟩ := zob H
   replace H : (if (!(t524 == t532) || (!(t525 == t533) || (!(t526 == t534) || (!(t527 == t535) || (!(t528 == t536) || (!(t529 == t537))))))) = true then (none) else (laws_FnWarningTexts.j2 kj16 l0 (t530 != t538))) = some r := H
   have A30 := zm A300
   clear A300
   have HC31 := zm H
   clear H
   go_upto_region 14 with (first | ((with_reducible refine gate_callee (f := 9) rfl ?_); refine goesL_ (some 72) rfl rfl Tryz.func9 (by kernel_rfl) rfl #[.slice A0 l0.length c0] rfl zq1 ?_; (with_reducible refine (spec_DrawParseWarning.calls kj16 _ _ l0 t523 _ ?side1 ?side2 A28.out).mono ?_); (case side1 => exact zqC (Kd.C_below HR0.out HB.out)); (case side2 => exact HC0.out); rintro e w32 ⟨rfl, hb⟩; refine ⟨_, rfl, ?_⟩; replace BK510 := zm (blk_below (g := gb510) (o := .cells #[.int .i64 t504, .int .i64 t505, .int .i64 t506, .int .i64 t507, .int .i64 t508, .int .i64 t509] 25 (0, 0)) (zqK BK510.out) hb); replace BK522 := zm (blk_below (g := gb522) (o := .cells #[.int .i64 t515, .int .i64 t516, .int .i64 t517, .int .i64 t518, .int .i64 t519, .int .i64 t520] 25 (0, 0)) (zqK BK522.out) hb); replace HB := zm (below_step zq41 hb); (try clear hb); (try clear hb2); (try clear hk); (try clear hi)) | ((with_reducible refine gate_callee (f := 8) rfl ?_); refine goesL_ (some 75) rfl rfl Tryz.func8 (by kernel_rfl) rfl #[.string t523] rfl zq1 ?_; (with_reducible refine (impl_ParseWarning.calls kj16 t523 t524 t525 t526 t527 t528 t529 t530 _ (HTE.out.below zq2) (HTL.out.below zq2) (HTM.out.below zq2) (HTN.out.below zq2) (HTO.out.below zq2) A29.out).mono ?_); rintro e w33 ⟨rfl, hb⟩; refine ⟨_, rfl, ?_⟩; replace BK510 := zm (blk_below (g := gb510) (o := .cells #[.int .i64 t504, .int .i64 t505, .int .i64 t506, .int .i64 t507, .int .i64 t508, .int .i64 t509] 25 (0, 0)) (zqK BK510.out) hb); replace BK522 := zm (blk_below (g := gb522) (o := .cells #[.int .i64 t515, .int .i64 t516, .int .i64 t517, .int .i64 t518, .int .i64 t519, .int .i64 t520] 25 (0, 0)) (zqK BK522.out) hb); replace HB := zm (below_step zq41 hb); (try clear hb); (try clear hb2); (try clear hk); (try clear hi)) | ((with_reducible refine gate_dst (N := 11) rfl ?_); refine box_event ?hg (N := 11) ?hd (cs := #[.int .i64 0, .int .i64 0, .int .i64 0, .int .i64 0, .int .i64 0, .int .i64 0]) (t := 25) ?hr ?_; (case hd => rfl); (case hg => rfl); (case hr => exact zqS); intro gb531 hg w34 hbox hb; have BK531 := zm (hbox); have GW531 := zm ((by rw [hg]; exact (below_size zq41) : w.heap.size ≤ gb531)); replace HB := zm (below_step zq41 hb); have GE531 := GW531; have NB510_531 := zm ((by rw [hg]; exact Nat.ne_of_lt (blk_lt (g := gb510) (o := .cells #[.int .i64 t504, .int .i64 t505, .int .i64 t506, .int .i64 t507, .int .i64 t508, .int .i64 t509] 25 (0, 0)) (zqK BK510.out)) : gb510 ≠ gb531)); have NB531_510 := zm ((by rw [hg]; exact Nat.ne_of_gt (blk_lt (g := gb510) (o := .cells #[.int .i64 t504, .int .i64 t505, .int .i64 t506, .int .i64 t507, .int .i64 t508, .int .i64 t509] 25 (0, 0)) (zqK BK510.out)) : gb531 ≠ gb510)); replace BK510 := zm (blk_below (g := gb510) (o := .cells #[.int .i64 t504, .int .i64 t505, .int .i64 t506, .int .i64 t507, .int .i64 t508, .int .i64 t509] 25 (0, 0)) (zqK BK510.out) hb); have NB522_531 := zm ((by rw [hg]; exact Nat.ne_of_lt (blk_lt (g := gb522) (o := .cells #[.int .i64 t515, .int .i64 t516, .int .i64 t517, .int .i64 t518, .int .i64 t519, .int .i64 t520] 25 (0, 0)) (zqK BK522.out)) : gb522 ≠ gb531)); have NB531_522 := zm ((by rw [hg]; exact Nat.ne_of_gt (blk_lt (g := gb522) (o := .cells #[.int .i64 t515, .int .i64 t516, .int .i64 t517, .int .i64 t518, .int .i64 t519, .int .i64 t520] 25 (0, 0)) (zqK BK522.out)) : gb531 ≠ gb522)); replace BK522 := zm (blk_below (g := gb522) (o := .cells #[.int .i64 t515, .int .i64 t516, .int .i64 t517, .int .i64 t518, .int .i64 t519, .int .i64 t520] 25 (0, 0)) (zqK BK522.out) hb); clear hb hbox hg; have hnb35 := NB531_510.out; have hnc35 := NB510_531.out; have hnb36 := NB531_522.out; have hnc36 := NB522_531.out; obtain ⟨hcz37_0, hcz37_1, hcz37_2, hcz37_3, hcz37_4, hcz37_5, hfz37_0, hfz37_1, hfz37_2, hfz37_3, hfz37_4, hfz37_5⟩ := bz6 BK531.out) | ((with_reducible refine gate_callee (f := 10) rfl ?_); refine goesL_ (some 80) rfl rfl Tryz.func10 (by kernel_rfl) rfl #[.string t523] rfl zq1 ?_; (with_reducible refine (spec_ParseWarning.calls kj16 t523 t532 t533 t534 t535 t536 t537 t538 _ A30.out).mono ?_); rintro e w38 ⟨rfl, hb⟩; refine ⟨_, rfl, ?_⟩; replace BK510 := zm (blk_below (g := gb510) (o := .cells #[.int .i64 t504, .int .i64 t505, .int .i64 t506, .int .i64 t507, .int .i64 t508, .int .i64 t509] 25 (0, 0)) (by (with_reducible repeat (first | refine zN ?_ _ | refine zD ?_ | refine zL ?_ _)); refine blk_far ?_ NB510_531.out _; (with_reducible repeat (first | refine zN ?_ _ | refine zD ?_ | refine zL ?_ _)); refine blk_far ?_ NB510_531.out _; (with_reducible repeat (first | refine zN ?_ _ | refine zD ?_ | refine zL ?_ _)); refine blk_far ?_ NB510_531.out _; (with_reducible repeat (first | refine zN ?_ _ | refine zD ?_ | refine zL ?_ _)); refine blk_far ?_ NB510_531.out _; (with_reducible repeat (first | refine zN ?_ _ | refine zD ?_ | refine zL ?_ _)); refine blk_far ?_ NB510_531.out _; (with_reducible repeat (first | refine zN ?_ _ | refine zD ?_ | refine zL ?_ _)); refine blk_far ?_ NB510_531.out _; (with_reducible repeat (first | refine zN ?_ _ | refine zD ?_ | refine zL ?_ _)); exact BK510.out) hb); replace BK522 := zm (blk_below (g := gb522) (o := .cells #[.int .i64 t515, .int .i64 t516, .int .i64 t517, .int .i64 t518, .int .i64 t519, .int .i64 t520] 25 (0, 0)) (by (with_reducible repeat (first | refine zN ?_ _ | refine zD ?_ | refine zL ?_ _)); refine blk_far ?_ NB522_531.out _; (with_reducible repeat (first | refine zN ?_ _ | refine zD ?_ | refine zL ?_ _)); refine blk_far ?_ NB522_531.out _; (with_reducible repeat (first | refine zN ?_ _ | refine zD ?_ | refine zL ?_ _)); refine blk_far ?_ NB522_531.out _; (with_reducible repeat (first | refine zN ?_ _ | refine zD ?_ | refine zL ?_ _)); refine blk_far ?_ NB522_531.out _; (with_reducible repeat (first | refine zN ?_ _ | refine zD ?_ | refine zL ?_ _)); refine blk_far ?_ NB522_531.out _; (with_reducible repeat (first | refine zN ?_ _ | refine zD ?_ | refine zL ?_ _)); refine blk_far ?_ NB522_531.out _; (with_reducible repeat (first | refine zN ?_ _ | refine zD ?_ | refine zL ?_ _)); exact BK522.out) hb); replace BK531 := zm (blk_below (g := gb531) (o := .cells #[.int .i64 t524, .int .i64 t525, .int .i64 t526, .int .i64 t527, .int .i64 t528, .int .i64 t529] 25 (0, 0)) (by (with_reducible repeat (first | refine zN ?_ _ | refine zD ?_ | refine zL ?_ _)); refine blk_put (cs := #[.int .i64 t524, .int .i64 t525, .int .i64 t526, .int .i64 t527, .int .i64 t528, .int .i64 0]) ?_ 5 _ rfl; (with_reducible repeat (first | refine zN ?_ _ | refine zD ?_ | refine zL ?_ _)); refine blk_put (cs := #[.int .i64 t524, .int .i64 t525, .int .i64 t526, .int .i64 t527, .int .i64 0, .int .i64 0]) ?_ 4 _ rfl; (with_reducible repeat (first | refine zN ?_ _ | refine zD ?_ | refine zL ?_ _)); refine blk_put (cs := #[.int .i64 t524, .int .i64 t525, .int .i64 t526, .int .i64 0, .int .i64 0, .int .i64 0]) ?_ 3 _ rfl; (with_reducible repeat (first | refine zN ?_ _ | refine zD ?_ | refine zL ?_ _)); refine blk_put (cs := #[.int .i64 t524, .int .i64 t525, .int .i64 0, .int .i64 0, .int .i64 0, .int .i64 0]) ?_ 2 _ rfl; (with_reducible repeat (first | refine zN ?_ _ | refine zD ?_ | refine zL ?_ _)); refine blk_put (cs := #[.int .i64 t524, .int .i64 0, .int .i64 0, .int .i64 0, .int .i64 0, .int .i64 0]) ?_ 1 _ rfl; (with_reducible repeat (first | refine zN ?_ _ | refine zD ?_ | refine zL ?_ _)); refine blk_put (cs := #[.int .i64 0, .int .i64 0, .int .i64 0, .int .i64 0, .int .i64 0, .int .i64 0]) ?_ 0 _ rfl; (with_reducible repeat (first | refine zN ?_ _ | refine zD ?_ | refine zL ?_ _)); exact BK531.out) hb); replace HB := zm (below_step zq54 hb); (try clear hb); (try clear hb2); (try clear hk); (try clear hi)) | ((with_reducible refine gate_dst (N := 13) rfl ?_); refine box_event ?hg (N := 13) ?hd (cs := #[.int .i64 0, .int .i64 0, .int .i64 0, .int .i64 0, .int .i64 0, .int .i64 0]) (t := 25) ?hr ?_; (case hd => rfl); (case hg => rfl); (case hr => exact zqS); intro gb539 hg w39 hbox hb; have BK539 := zm (hbox); have GW539 := zm ((by rw [hg]; exact (below_size zq54) : w.heap.size ≤ gb539)); replace HB := zm (below_step zq54 hb); have GE539 := GW539; have NB510_539 := zm ((by rw [hg]; exact Nat.ne_of_lt (blk_lt (g := gb510) (o := .cells #[.int .i64 t504, .int .i64 t505, .int .i64 t506, .int .i64 t507, .int .i64 t508, .int .i64 t509] 25 (0, 0)) (zqK BK510.out)) : gb510 ≠ gb539)); have NB539_510 := zm ((by rw [hg]; exact Nat.ne_of_gt (blk_lt (g := gb510) (o := .cells #[.int .i64 t504, .int .i64 t505, .int .i64 t506, .int .i64 t507, .int .i64 t508, .int .i64 t509] 25 (0, 0)) (zqK BK510.out)) : gb539 ≠ gb510)); replace BK510 := zm (blk_below (g := gb510) (o := .cells #[.int .i64 t504, .int .i64 t505, .int .i64 t506, .int .i64 t507, .int .i64 t508, .int .i64 t509] 25 (0, 0)) (zqK BK510.out) hb); have NB522_539 := zm ((by rw [hg]; exact Nat.ne_of_lt (blk_lt (g := gb522) (o := .cells #[.int .i64 t515, .int .i64 t516, .int .i64 t517, .int .i64 t518, .int .i64 t519, .int .i64 t520] 25 (0, 0)) (zqK BK522.out)) : gb522 ≠ gb539)); have NB539_522 := zm ((by rw [hg]; exact Nat.ne_of_gt (blk_lt (g := gb522) (o := .cells #[.int .i64 t515, .int .i64 t516, .int .i64 t517, .int .i64 t518, .int .i64 t519, .int .i64 t520] 25 (0, 0)) (zqK BK522.out)) : gb539 ≠ gb522)); replace BK522 := zm (blk_below (g := gb522) (o := .cells #[.int .i64 t515, .int .i64 t516, .int .i64 t517, .int .i64 t518, .int .i64 t519, .int .i64 t520] 25 (0, 0)) (zqK BK522.out) hb); have NB531_539 := zm ((by rw [hg]; exact Nat.ne_of_lt (blk_lt (g := gb531) (o := .cells #[.int .i64 t524, .int .i64 t525, .int .i64 t526, .int .i64 t527, .int .i64 t528, .int .i64 t529] 25 (0, 0)) (zqK BK531.out)) : gb531 ≠ gb539)); have NB539_531 := zm ((by rw [hg]; exact Nat.ne_of_gt (blk_lt (g := gb531) (o := .cells #[.int .i64 t524, .int .i64 t525, .int .i64 t526, .int .i64 t527, .int .i64 t528, .int .i64 t529] 25 (0, 0)) (zqK BK531.out)) : gb539 ≠ gb531)); replace BK531 := zm (blk_below (g := gb531) (o := .cells #[.int .i64 t524, .int .i64 t525, .int .i64 t526, .int .i64 t527, .int .i64 t528, .int .i64 t529] 25 (0, 0)) (zqK BK531.out) hb); clear hb hbox hg; have hnb40 := NB539_510.out; have hnc40 := NB510_539.out; have hnb41 := NB539_522.out; have hnc41 := NB522_539.out; have hnb42 := NB539_531.out; have hnc42 := NB531_539.out; obtain ⟨hcz43_0, hcz43_1, hcz43_2, hcz43_3, hcz43_4, hcz43_5, hfz43_0, hfz43_1, hfz43_2, hfz43_3, hfz43_4, hfz43_5⟩ := bz6 BK539.out))
   (try simp only [Act.put, List.setIfInBounds_toArray, List.set_cons_zero, List.set_cons_succ])
   go_cut [90] (fun v90 wc => ∃ (kq : Nat) (x90_30 : Bool), v90 = .bool x90_30 ∧ Aside0 (laws_FnWarningTexts.j2 kq l0 x90_30 = some r) ∧ Aside0 (kq ≤ kj16) ∧ Aside0 (wc.heap[gb510]? = some (.cells #[.int .i64 t504, .int .i64 t505, .int .i64 t506, .int .i64 t507, .int .i64 t508, .int .i64 t509] 25 (0, 0))) ∧ Aside0 (wc.heap[gb522]? = some (.cells #[.int .i64 t515, .int .i64 t516, .int .i64 t517, .int .i64 t518, .int .i64 t519, .int .i64 t520] 25 (0, 0))) ∧ Aside0 (wc.heap[gb531]? = some (.cells #[.int .i64 t524, .int .i64 t525, .int .i64 t526, .int .i64 t527, .int .i64 t528, .int .i64 t529] 25 (0, 0))) ∧ Aside0 (wc.heap[gb539]? = some (.cells #[.int .i64 t532, .int .i64 t533, .int .i64 t534, .int .i64 t535, .int .i64 t536, .int .i64 t537] 25 (0, 0))) ∧ Aside0 (Below w.heap.size w wc))
   case first =>
    have H := HC31.out
    clear HC31
    by_cases c44 : (!(t524 == t532) || (!(t525 == t533) || (!(t526 == t534) || (!(t527 == t535) || (!(t528 == t536) || (!(t529 == t537))))))) = true
    case pos =>
     rw [if_pos c44] at H
     exact absurd H (by simp)
    rw [if_neg c44] at H
    have c44b0 : (!(t524 == t532) || (!(t525 == t533) || (!(t526 == t534) || (!(t527 == t535) || (!(t528 == t536) || (!(t529 == t537))))))) = false := by simpa using c44
    clear c44
    (first | rw [c44b0] | (simp only [i64_w, i32_w]; rw [c44b0]) | skip)
    have H' := zm H
    clear H
    have hnb45 := NB531_510.out
    have hnc45 := NB510_531.out
    have hnb46 := NB531_522.out
    have hnc46 := NB522_531.out
    have hnb47 := NB531_539.out
    have hnc47 := NB539_531.out
    obtain ⟨hcz48_0, hcz48_1, hcz48_2, hcz48_3, hcz48_4, hcz48_5, hfz48_0, hfz48_1, hfz48_2, hfz48_3, hfz48_4, hfz48_5⟩ := bz6 BK531.out
    have hnb49 := NB539_510.out
    have hnc49 := NB510_539.out
    have hnb50 := NB539_522.out
    have hnc50 := NB522_539.out
    obtain ⟨hcz51_0, hcz51_1, hcz51_2, hcz51_3, hcz51_4, hcz51_5, hfz51_0, hfz51_1, hfz51_2, hfz51_3, hfz51_4, hfz51_5⟩ := bz6 BK539.out
    go_wp2
    go_meet
    case rel => exact ⟨_, ((t530 != t538)), (by first | rfl | (simp; done) | (simp [*]; done)), H', ⟨by have := HJ6.out; have := HJ16.out; first | omega | exact Nat.le_refl _⟩, ⟨by (with_reducible repeat (first | refine zN ?_ _ | refine zD ?_ | refine zL ?_ _)); refine blk_far ?_ NB510_539.out _; (with_reducible repeat (first | refine zN ?_ _ | refine zD ?_ | refine zL ?_ _)); refine blk_far ?_ NB510_539.out _; (with_reducible repeat (first | refine zN ?_ _ | refine zD ?_ | refine zL ?_ _)); refine blk_far ?_ NB510_539.out _; (with_reducible repeat (first | refine zN ?_ _ | refine zD ?_ | refine zL ?_ _)); refine blk_far ?_ NB510_539.out _; (with_reducible repeat (first | refine zN ?_ _ | refine zD ?_ | refine zL ?_ _)); refine blk_far ?_ NB510_539.out _; (with_reducible repeat (first | refine zN ?_ _ | refine zD ?_ | refine zL ?_ _)); refine blk_far ?_ NB510_539.out _; (with_reducible repeat (first | refine zN ?_ _ | refine zD ?_ | refine zL ?_ _)); exact BK510.out⟩, ⟨by (with_reducible repeat (first | refine zN ?_ _ | refine zD ?_ | refine zL ?_ _)); refine blk_far ?_ NB522_539.out _; (with_reducible repeat (first | refine zN ?_ _ | refine zD ?_ | refine zL ?_ _)); refine blk_far ?_ NB522_539.out _; (with_reducible repeat (first | refine zN ?_ _ | refine zD ?_ | refine zL ?_ _)); refine blk_far ?_ NB522_539.out _; (with_reducible repeat (first | refine zN ?_ _ | refine zD ?_ | refine zL ?_ _)); refine blk_far ?_ NB522_539.out _; (with_reducible repeat (first | refine zN ?_ _ | refine zD ?_ | refine zL ?_ _)); refine blk_far ?_ NB522_539.out _; (with_reducible repeat (first | refine zN ?_ _ | refine zD ?_ | refine zL ?_ _)); refine blk_far ?_ NB522_539.out _; (with_reducible repeat (first | refine zN ?_ _ | refine zD ?_ | refine zL ?_ _)); exact BK522.out⟩, ⟨by (with_reducible repeat (first | refine zN ?_ _ | refine zD ?_ | refine zL ?_ _)); refine blk_far ?_ NB531_539.out _; (with_reducible repeat (first | refine zN ?_ _ | refine zD ?_ | refine zL ?_ _)); refine blk_far ?_ NB531_539.out _; (with_reducible repeat (first | refine zN ?_ _ | refine zD ?_ | refine zL ?_ _)); refine blk_far ?_ NB531_539.out _; (with_reducible repeat (first | refine zN ?_ _ | refine zD ?_ | refine zL ?_ _)); refine blk_far ?_ NB531_539.out _; (with_reducible repeat (first | refine zN ?_ _ | refine zD ?_ | refine zL ?_ _)); refine blk_far ?_ NB531_539.out _; (with_reducible repeat (first | refine zN ?_ _ | refine zD ?_ | refine zL ?_ _)); refine blk_far ?_ NB531_539.out _; (with_reducible repeat (first | refine zN ?_ _ | refine zD ?_ | refine zL ?_ _)); exact BK531.out⟩, ⟨by (with_reducible repeat (first | refine zN ?_ _ | refine zD ?_ | refine zL ?_ _)); refine blk_put (cs := #[.int .i64 t532, .int .i64 t533, .int .i64 t534, .int .i64 t535, .int .i64 t536, .int .i64 0]) ?_ 5 _ rfl; (with_reducible repeat (first | refine zN ?_ _ | refine zD ?_ | refine zL ?_ _)); refine blk_put (cs := #[.int .i64 t532, .int .i64 t533, .int .i64 t534, .int .i64 t535, .int .i64 0, .int .i64 0]) ?_ 4 _ rfl; (with_reducible repeat (first | refine zN ?_ _ | refine zD ?_ | refine zL ?_ _)); refine blk_put (cs := #[.int .i64 t532, .int .i64 t533, .int .i64 t534, .int .i64 0, .int .i64 0, .int .i64 0]) ?_ 3 _ rfl; (with_reducible repeat (first | refine zN ?_ _ | refine zD ?_ | refine zL ?_ _)); refine blk_put (cs := #[.int .i64 t532, .int .i64 t533, .int .i64 0, .int .i64 0, .int .i64 0, .int .i64 0]) ?_ 2 _ rfl; (with_reducible repeat (first | refine zN ?_ _ | refine zD ?_ | refine zL ?_ _)); refine blk_put (cs := #[.int .i64 t532, .int .i64 0, .int .i64 0, .int .i64 0, .int .i64 0, .int .i64 0]) ?_ 1 _ rfl; (with_reducible repeat (first | refine zN ?_ _ | refine zD ?_ | refine zL ?_ _)); refine blk_put (cs := #[.int .i64 0, .int .i64 0, .int .i64 0, .int .i64 0, .int .i64 0, .int .i64 0]) ?_ 0 _ rfl; (with_reducible repeat (first | refine zN ?_ _ | refine zD ?_ | refine zL ?_ _)); exact BK539.out⟩, ⟨zq2⟩⟩
   clear HC31
   try clear c1
   try clear c2
   try clear p2
   try clear c3
   try clear c4
   try clear c5
   try clear c6
   try clear c7
   try clear c8
   try clear c9
   try clear c10
   try clear c14
   try clear c14b0
   try clear c14b1
   try clear c15
   try clear c20
   try clear c22
   try clear c23
   try clear c24
   try clear c27
   try clear c35
   try clear c36
   try clear c40
   try clear c41
   try clear c42
   try clear c44
   try clear c44b0
   try clear c45
   try clear c46
   try clear c47
   try clear c49
   try clear c50
   try clear hcz10_0
   try clear hcz10_1
   try clear hcz10_2
   try clear hcz10_3
   try clear hcz10_4
   try clear hcz10_5
   try clear hcz12_0
   try clear hcz12_1
   try clear hcz12_2
   try clear hcz12_3
   try clear hcz12_4
   try clear hcz12_5
   try clear hcz21_0
   try clear hcz21_1
   try clear hcz21_2
   try clear hcz21_3
   try clear hcz21_4
   try clear hcz21_5
   try clear hcz25_0
   try clear hcz25_1
   try clear hcz25_2
   try clear hcz25_3
   try clear hcz25_4
   try clear hcz25_5
   try clear hcz26_0
   try clear hcz26_1
   try clear hcz26_2
   try clear hcz26_3
   try clear hcz26_4
   try clear hcz26_5
   try clear hcz37_0
   try clear hcz37_1
   try clear hcz37_2
   try clear hcz37_3
   try clear hcz37_4
   try clear hcz37_5
   try clear hcz43_0
   try clear hcz43_1
   try clear hcz43_2
   try clear hcz43_3
   try clear hcz43_4
   try clear hcz43_5
   try clear hcz48_0
   try clear hcz48_1
   try clear hcz48_2
   try clear hcz48_3
   try clear hcz48_4
   try clear hcz48_5
   try clear hcz51_0
   try clear hcz51_1
   try clear hcz51_2
   try clear hcz51_3
   try clear hcz51_4
   try clear hcz51_5
   try clear hfz10_0
   try clear hfz10_1
   try clear hfz10_2
   try clear hfz10_3
   try clear hfz10_4
   try clear hfz10_5
   try clear hfz12_0
   try clear hfz12_1
   try clear hfz12_2
   try clear hfz12_3
   try clear hfz12_4
   try clear hfz12_5
   try clear hfz21_0
   try clear hfz21_1
   try clear hfz21_2
   try clear hfz21_3
   try clear hfz21_4
   try clear hfz21_5
   try clear hfz25_0
   try clear hfz25_1
   try clear hfz25_2
   try clear hfz25_3
   try clear hfz25_4
   try clear hfz25_5
   try clear hfz26_0
   try clear hfz26_1
   try clear hfz26_2
   try clear hfz26_3
   try clear hfz26_4
   try clear hfz26_5
   try clear hfz37_0
   try clear hfz37_1
   try clear hfz37_2
   try clear hfz37_3
   try clear hfz37_4
   try clear hfz37_5
   try clear hfz43_0
   try clear hfz43_1
   try clear hfz43_2
   try clear hfz43_3
   try clear hfz43_4
   try clear hfz43_5
   try clear hfz48_0
   try clear hfz48_1
   try clear hfz48_2
   try clear hfz48_3
   try clear hfz48_4
   try clear hfz48_5
   try clear hfz51_0
   try clear hfz51_1
   try clear hfz51_2
   try clear hfz51_3
   try clear hfz51_4
   try clear hfz51_5
   try clear p2
   obtain ⟨kq, x90_30, rfl, HA, HJ30, BK510, BK522, BK531, BK539, HB⟩ := hcut
   cases kq with
   | zero => exact absurd HA.out (by simp [laws_FnWarningTexts.j2])
   | succ kj30 =>
    have H := HA.out
    clear HA
    simp only [laws_FnWarningTexts.j2] at H
    by_cases c52 : x90_30 = true
    case pos =>
     subst c52
     have H1 : (none) = some r := by rw [if_pos rfl] at H; exact H
     clear H
     have H := H1
     clear H1
     exact absurd H (by simp)
    replace c52 := Bool.eq_false_iff.mpr c52
    subst c52
    have H1 : ((spec_DrawOverviewText.f kj30 l0).bind fun t540 => ((impl_OverviewText.f kj30 t540).bind fun bt543 => ((spec_OverviewText.f kj30 t540).bind fun bt545 => (if bt543.1.toList = bt545.1.toList then (laws_FnWarningTexts.j3 kj30 l0 t540 bt543.1 bt543.2 (bt543.2 != bt545.2)) else (none))))) = some r := by rw [if_neg (show ¬ (false = true) by decide)] at H; exact H
    clear H
    have H := H1
    clear H1
    obtain ⟨t540, A530, H⟩ := zob H
    replace H : ((impl_OverviewText.f kj30 t540).bind fun bt543 => ((spec_OverviewText.f kj30 t540).bind fun bt545 => (if bt543.1.toList = bt545.1.toList then (laws_FnWarningTexts.j3 kj30 l0 t540 bt543.1 bt543.2 (bt543.2 != bt545.2)) else (none)))) = some r := H
    have A53 := zm A530
    clear A530
    obtain ⟨⟨t543, t544⟩, A540, H⟩ := zob H
    replace H : ((spec_OverviewText.f kj30 t540).bind fun bt545 => (if t543.toList = bt545.1.toList then (laws_FnWarningTexts.j3 kj30 l0 t540 t543 t544 (t544 != bt545.2)) else (none))) = some r := H
    have A54 := zm A540
    clear A540
    obtain ⟨⟨t545, t546⟩, A550, H⟩ := zob H
    replace H : (if t543.toList = t545.toList then (laws_FnWarningTexts.j3 kj30 l0 t540 t543 t544 (t544 != t546)) else (none)) = some r := H
    have A55 := zm A550
    clear A550
    have HC56 := zm H
    clear H
    go_upto_region 19 with (first | ((with_reducible refine gate_callee (f := 11) rfl ?_); refine goesL_ (some 92) rfl rfl Tryz.func11 (by kernel_rfl) rfl #[.slice A0 l0.length c0] rfl zq1 ?_; (with_reducible refine (spec_DrawOverviewText.calls kj30 _ _ l0 t540 _ ?side1 ?side2 A53.out).mono ?_); (case side1 => exact zqC (Kd.C_below HR0.out HB.out)); (case side2 => exact HC0.out); rintro e w57 ⟨v541, rfl, ho0, hb⟩; refine ⟨_, rfl, ?_⟩; have HO542 := zm (Kd.R_lower (Kd.R_newB (Kd.R_newB (Kd.R_newB (Kd.R_newB ho0 (g := gb510) (o := .cells #[.int .i64 t504, .int .i64 t505, .int .i64 t506, .int .i64 t507, .int .i64 t508, .int .i64 t509] 25 (0, 0)) (zqK BK510.out)) (g := gb522) (o := .cells #[.int .i64 t515, .int .i64 t516, .int .i64 t517, .int .i64 t518, .int .i64 t519, .int .i64 t520] 25 (0, 0)) (zqK BK522.out)) (g := gb531) (o := .cells #[.int .i64 t524, .int .i64 t525, .int .i64 t526, .int .i64 t527, .int .i64 t528, .int .i64 t529] 25 (0, 0)) (zqK BK531.out)) (g := gb539) (o := .cells #[.int .i64 t532, .int .i64 t533, .int .i64 t534, .int .i64 t535, .int .i64 t536, .int .i64 t537] 25 (0, 0)) (zqK BK539.out)) (below_size zq2)); replace BK510 := zm (blk_below (g := gb510) (o := .cells #[.int .i64 t504, .int .i64 t505, .int .i64 t506, .int .i64 t507, .int .i64 t508, .int .i64 t509] 25 (0, 0)) (zqK BK510.out) hb); replace BK522 := zm (blk_below (g := gb522) (o := .cells #[.int .i64 t515, .int .i64 t516, .int .i64 t517, .int .i64 t518, .int .i64 t519, .int .i64 t520] 25 (0, 0)) (zqK BK522.out) hb); replace BK531 := zm (blk_below (g := gb531) (o := .cells #[.int .i64 t524, .int .i64 t525, .int .i64 t526, .int .i64 t527, .int .i64 t528, .int .i64 t529] 25 (0, 0)) (zqK BK531.out) hb); replace BK539 := zm (blk_below (g := gb539) (o := .cells #[.int .i64 t532, .int .i64 t533, .int .i64 t534, .int .i64 t535, .int .i64 t536, .int .i64 t537] 25 (0, 0)) (zqK BK539.out) hb); replace HB := zm (below_step zq2 hb); (try clear hb); (try clear hb2); (try clear hk); (try clear hi); (try clear ho0); obtain ⟨Ao58, co58, eo58⟩ := Kd.R_slice HO542.out; subst eo58) | ((with_reducible refine gate_callee (f := 12) rfl ?_); refine goesL_ (some 95) rfl rfl Tryz.func12 (by kernel_rfl) rfl #[.slice Ao58 t540.length co58] rfl zq1 ?_; (with_reducible refine (impl_OverviewText.calls kj30 _ _ t540 t543 t544 _ (HTL.out.below zq2) (HTN.out.below zq2) (HTO.out.below zq2) ?side1 ?side2 A54.out).mono ?_); (case side1 => exact zqC (Kd.R_reads' HO542.out).2.2); (case side2 => exact (Kd.R_reads' HO542.out).2.1); rintro e w59 ⟨rfl, hb⟩; refine ⟨_, rfl, ?_⟩; replace HO542 := zm (Kd.R_below (zqR HO542.out) hb); replace BK510 := zm (blk_below (g := gb510) (o := .cells #[.int .i64 t504, .int .i64 t505, .int .i64 t506, .int .i64 t507, .int .i64 t508, .int .i64 t509] 25 (0, 0)) (zqK BK510.out) hb); replace BK522 := zm (blk_below (g := gb522) (o := .cells #[.int .i64 t515, .int .i64 t516, .int .i64 t517, .int .i64 t518, .int .i64 t519, .int .i64 t520] 25 (0, 0)) (zqK BK522.out) hb); replace BK531 := zm (blk_below (g := gb531) (o := .cells #[.int .i64 t524, .int .i64 t525, .int .i64 t526, .int .i64 t527, .int .i64 t528, .int .i64 t529] 25 (0, 0)) (zqK BK531.out) hb); replace BK539 := zm (blk_below (g := gb539) (o := .cells #[.int .i64 t532, .int .i64 t533, .int .i64 t534, .int .i64 t535, .int .i64 t536, .int .i64 t537] 25 (0, 0)) (zqK BK539.out) hb); replace HB := zm (below_step zq2 hb); (try clear hb); (try clear hb2); (try clear hk); (try clear hi)) | ((with_reducible refine gate_callee (f := 13) rfl ?_); refine goesL_ (some 100) rfl rfl Tryz.func13 (by kernel_rfl) rfl #[.slice Ao58 t540.length co58] rfl zq1 ?_; (with_reducible refine (spec_OverviewText.calls kj30 _ _ t540 t545 t546 _ ?side1 ?side2 A55.out).mono ?_); (case side1 => exact zqC (Kd.R_reads' HO542.out).2.2); (case side2 => exact (Kd.R_reads' HO542.out).2.1); rintro e w60 ⟨rfl, hb⟩; refine ⟨_, rfl, ?_⟩; replace HO542 := zm (Kd.R_below (zqR HO542.out) hb); replace BK510 := zm (blk_below (g := gb510) (o := .cells #[.int .i64 t504, .int .i64 t505, .int .i64 t506, .int .i64 t507, .int .i64 t508, .int .i64 t509] 25 (0, 0)) (zqK BK510.out) hb); replace BK522 := zm (blk_below (g := gb522) (o := .cells #[.int .i64 t515, .int .i64 t516, .int .i64 t517, .int .i64 t518, .int .i64 t519, .int .i64 t520] 25 (0, 0)) (zqK BK522.out) hb); replace BK531 := zm (blk_below (g := gb531) (o := .cells #[.int .i64 t524, .int .i64 t525, .int .i64 t526, .int .i64 t527, .int .i64 t528, .int .i64 t529] 25 (0, 0)) (zqK BK531.out) hb); replace BK539 := zm (blk_below (g := gb539) (o := .cells #[.int .i64 t532, .int .i64 t533, .int .i64 t534, .int .i64 t535, .int .i64 t536, .int .i64 t537] 25 (0, 0)) (zqK BK539.out) hb); replace HB := zm (below_step zq2 hb); (try clear hb); (try clear hb2); (try clear hk); (try clear hi)))
    (try simp only [Act.put, List.setIfInBounds_toArray, List.set_cons_zero, List.set_cons_succ])
    go_cut [110] (fun v110 wc => ∃ (kq : Nat) (x110_55 : Bool), v110 = .bool x110_55 ∧ Aside0 (laws_FnWarningTexts.j3 kq l0 t540 t543 t544 x110_55 = some r) ∧ Aside0 (kq ≤ kj30) ∧ Aside0 (Kd.R k25 25 wc w.heap.size (fun k_ => k_ ≠ gb510 ∧ k_ ≠ gb522 ∧ k_ ≠ gb531 ∧ k_ ≠ gb539) (.slice Ao58 t540.length co58) t540) ∧ Aside0 (wc.heap[gb510]? = some (.cells #[.int .i64 t504, .int .i64 t505, .int .i64 t506, .int .i64 t507, .int .i64 t508, .int .i64 t509] 25 (0, 0))) ∧ Aside0 (wc.heap[gb522]? = some (.cells #[.int .i64 t515, .int .i64 t516, .int .i64 t517, .int .i64 t518, .int .i64 t519, .int .i64 t520] 25 (0, 0))) ∧ Aside0 (wc.heap[gb531]? = some (.cells #[.int .i64 t524, .int .i64 t525, .int .i64 t526, .int .i64 t527, .int .i64 t528, .int .i64 t529] 25 (0, 0))) ∧ Aside0 (wc.heap[gb539]? = some (.cells #[.int .i64 t532, .int .i64 t533, .int .i64 t534, .int .i64 t535, .int .i64 t536, .int .i64 t537] 25 (0, 0))) ∧ Aside0 (Below w.heap.size w wc))
    case first =>
     have H := HC56.out
     clear HC56
     by_cases c61 : t543.toList = t545.toList
     case neg =>
      rw [if_neg c61] at H
      exact absurd H (by simp)
     rw [if_pos c61] at H
     have c61b0 : (t543.toList == t545.toList) = true := beq_iff_eq.mpr c61
     have c61b1 : (t543.toList != t545.toList) = false := bne_eq_false_iff_eq.mpr c61
     clear c61
     (first | rw [c61b0] | (simp only [i64_w, i32_w]; rw [c61b0]) | rw [c61b1] | skip)
     have H' := zm H
     clear H
     go_wp2
     go_meet
     case rel => exact ⟨_, ((t544 != t546)), (by first | rfl | (simp; done) | (simp [*]; done)), H', ⟨by have := HJ6.out; have := HJ16.out; have := HJ30.out; first | omega | exact Nat.le_refl _⟩, ⟨by (with_reducible repeat (first | apply Kd.R_alloc | apply Kd.R_drewN | apply Kd.R_drew)); exact Kd.R_mono HO542.out (fun _ hk => ⟨hk.1.1.1.2, ⟨hk.1.1.2, ⟨hk.1.2, hk.2⟩⟩⟩)⟩, ⟨by (with_reducible repeat (first | refine zN ?_ _ | refine zD ?_ | refine zL ?_ _)); exact BK510.out⟩, ⟨by (with_reducible repeat (first | refine zN ?_ _ | refine zD ?_ | refine zL ?_ _)); exact BK522.out⟩, ⟨by (with_reducible repeat (first | refine zN ?_ _ | refine zD ?_ | refine zL ?_ _)); exact BK531.out⟩, ⟨by (with_reducible repeat (first | refine zN ?_ _ | refine zD ?_ | refine zL ?_ _)); exact BK539.out⟩, ⟨zq2⟩⟩
    clear HC56
    try clear c1
    try clear c2
    try clear p2
    try clear c3
    try clear c4
    try clear c5
    try clear c6
    try clear c7
    try clear c8
    try clear c9
    try clear c10
    try clear c11
    try clear c12
    try clear c13
    try clear c14
    try clear c14b0
    try clear c14b1
    try clear c15
    try clear c20
    try clear c22
    try clear c23
    try clear c24
    try clear c27
    try clear c35
    try clear c36
    try clear c40
    try clear c41
    try clear c42
    try clear c44
    try clear c44b0
    try clear c45
    try clear c46
    try clear c47
    try clear c49
    try clear c50
    try clear c52
    try clear c61
    try clear c61b0
    try clear c61b1
    try clear hcz10_0
    try clear hcz10_1
    try clear hcz10_2
    try clear hcz10_3
    try clear hcz10_4
    try clear hcz10_5
    try clear hcz12_0
    try clear hcz12_1
    try clear hcz12_2
    try clear hcz12_3
    try clear hcz12_4
    try clear hcz12_5
    try clear hcz21_0
    try clear hcz21_1
    try clear hcz21_2
    try clear hcz21_3
    try clear hcz21_4
    try clear hcz21_5
    try clear hcz25_0
    try clear hcz25_1
    try clear hcz25_2
    try clear hcz25_3
    try clear hcz25_4
    try clear hcz25_5
    try clear hcz26_0
    try clear hcz26_1
    try clear hcz26_2
    try clear hcz26_3
    try clear hcz26_4
    try clear hcz26_5
    try clear hcz37_0
    try clear hcz37_1
    try clear hcz37_2
    try clear hcz37_3
    try clear hcz37_4
    try clear hcz37_5
    try clear hcz43_0
    try clear hcz43_1
    try clear hcz43_2
    try clear hcz43_3
    try clear hcz43_4
    try clear hcz43_5
    try clear hcz48_0
    try clear hcz48_1
    try clear hcz48_2
    try clear hcz48_3
    try clear hcz48_4
    try clear hcz48_5
    try clear hcz51_0
    try clear hcz51_1
    try clear hcz51_2
    try clear hcz51_3
    try clear hcz51_4
    try clear hcz51_5
    try clear hfz10_0
    try clear hfz10_1
    try clear hfz10_2
    try clear hfz10_3
    try clear hfz10_4
    try clear hfz10_5
    try clear hfz12_0
    try clear hfz12_1
    try clear hfz12_2
    try clear hfz12_3
    try clear hfz12_4
    try clear hfz12_5
    try clear hfz21_0
    try clear hfz21_1
    try clear hfz21_2
    try clear hfz21_3
    try clear hfz21_4
    try clear hfz21_5
    try clear hfz25_0
    try clear hfz25_1
    try clear hfz25_2
    try clear hfz25_3
    try clear hfz25_4
    try clear hfz25_5
    try clear hfz26_0
    try clear hfz26_1
    try clear hfz26_2
    try clear hfz26_3
    try clear hfz26_4
    try clear hfz26_5
    try clear hfz37_0
    try clear hfz37_1
    try clear hfz37_2
    try clear hfz37_3
    try clear hfz37_4
    try clear hfz37_5
    try clear hfz43_0
    try clear hfz43_1
    try clear hfz43_2
    try clear hfz43_3
    try clear hfz43_4
    try clear hfz43_5
    try clear hfz48_0
    try clear hfz48_1
    try clear hfz48_2
    try clear hfz48_3
    try clear hfz48_4
    try clear hfz48_5
    try clear hfz51_0
    try clear hfz51_1
    try clear hfz51_2
    try clear hfz51_3
    try clear hfz51_4
    try clear hfz51_5
    try clear p2
    obtain ⟨kq, x110_55, rfl, HA, HJ55, HO_15, BK510, BK522, BK531, BK539, HB⟩ := hcut
    cases kq with
    | zero => exact absurd HA.out (by simp [laws_FnWarningTexts.j3])
    | succ kj55 =>
     have H := HA.out
     clear HA
     simp only [laws_FnWarningTexts.j3] at H
     by_cases c62 : x110_55 = true
     case pos =>
      subst c62
      have H1 : (none) = some r := by rw [if_pos rfl] at H; exact H
      clear H
      have H := H1
      clear H1
      exact absurd H (by simp)
     replace c62 := Bool.eq_false_iff.mpr c62
     subst c62
     have H1 : ((impl_ParseOverview.f kj55 t543).bind fun bt547 => (if t544 = true then (if bt547.2 = true then ((laws_rWarnings.f kj55 bt547.1 t540).bind fun t551 => (laws_FnWarningTexts.j4 kj55 l0 (!t551))) else (none)) else (laws_FnWarningTexts.j4 kj55 l0 false))) = some r := by rw [if_neg (show ¬ (false = true) by decide)] at H; exact H
     clear H
     have H := H1
     clear H1
     obtain ⟨⟨t547, t548⟩, A630, H⟩ := zob H
     replace H : (if t544 = true then (if t548 = true then ((laws_rWarnings.f kj55 t547 t540).bind fun t551 => (laws_FnWarningTexts.j4 kj55 l0 (!t551))) else (none)) else (laws_FnWarningTexts.j4 kj55 l0 false)) = some r := H
     have A63 := zm A630
     clear A630
     have HC64 := zm H
     clear H
     go_upto_region 22 with (first | ((with_reducible refine gate_callee (f := 14) rfl ?_); refine goesL_ (some 113) rfl rfl Tryz.func14 (by kernel_rfl) rfl #[.string t543] rfl zq1 ?_; (with_reducible refine (impl_ParseOverview.calls kj55 t543 t547 t548 _ (HTE.out.below zq2) (HTL.out.below zq2) (HTM.out.below zq2) (HTN.out.below zq2) (HTO.out.below zq2) A63.out).mono ?_); rintro e w65 ⟨v549, rfl, ho0, hb⟩; refine ⟨_, rfl, ?_⟩; have HO550 := zm (Kd.R_lower (Kd.R_newB (Kd.R_newB (Kd.R_newB (Kd.R_newB (Kd.R_new' ho0 (Kd.R_lt (zqR HO_15.out))) (g := gb510) (o := .cells #[.int .i64 t504, .int .i64 t505, .int .i64 t506, .int .i64 t507, .int .i64 t508, .int .i64 t509] 25 (0, 0)) (zqK BK510.out)) (g := gb522) (o := .cells #[.int .i64 t515, .int .i64 t516, .int .i64 t517, .int .i64 t518, .int .i64 t519, .int .i64 t520] 25 (0, 0)) (zqK BK522.out)) (g := gb531) (o := .cells #[.int .i64 t524, .int .i64 t525, .int .i64 t526, .int .i64 t527, .int .i64 t528, .int .i64 t529] 25 (0, 0)) (zqK BK531.out)) (g := gb539) (o := .cells #[.int .i64 t532, .int .i64 t533, .int .i64 t534, .int .i64 t535, .int .i64 t536, .int .i64 t537] 25 (0, 0)) (zqK BK539.out)) (below_size zq2)); replace HO_15 := zm (Kd.R_elder' (zqR HO_15.out) (Kd.R_base ho0) hb); replace BK510 := zm (blk_below (g := gb510) (o := .cells #[.int .i64 t504, .int .i64 t505, .int .i64 t506, .int .i64 t507, .int .i64 t508, .int .i64 t509] 25 (0, 0)) (zqK BK510.out) hb); replace BK522 := zm (blk_below (g := gb522) (o := .cells #[.int .i64 t515, .int .i64 t516, .int .i64 t517, .int .i64 t518, .int .i64 t519, .int .i64 t520] 25 (0, 0)) (zqK BK522.out) hb); replace BK531 := zm (blk_below (g := gb531) (o := .cells #[.int .i64 t524, .int .i64 t525, .int .i64 t526, .int .i64 t527, .int .i64 t528, .int .i64 t529] 25 (0, 0)) (zqK BK531.out) hb); replace BK539 := zm (blk_below (g := gb539) (o := .cells #[.int .i64 t532, .int .i64 t533, .int .i64 t534, .int .i64 t535, .int .i64 t536, .int .i64 t537] 25 (0, 0)) (zqK BK539.out) hb); replace HB := zm (below_step zq2 hb); (try clear hb); (try clear hb2); (try clear hk); (try clear hi); (try clear ho0)))
     (try simp only [Act.put, List.setIfInBounds_toArray, List.set_cons_zero, List.set_cons_succ])
     go_cut [126] (fun v126 wc => ∃ (kq : Nat) (x126_63 : Bool), v126 = .bool x126_63 ∧ Aside0 (laws_FnWarningTexts.j4 kq l0 x126_63 = some r) ∧ Aside0 (kq ≤ kj55) ∧ Aside0 (wc.heap[gb510]? = some (.cells #[.int .i64 t504, .int .i64 t505, .int .i64 t506, .int .i64 t507, .int .i64 t508, .int .i64 t509] 25 (0, 0))) ∧ Aside0 (wc.heap[gb522]? = some (.cells #[.int .i64 t515, .int .i64 t516, .int .i64 t517, .int .i64 t518, .int .i64 t519, .int .i64 t520] 25 (0, 0))) ∧ Aside0 (wc.heap[gb531]? = some (.cells #[.int .i64 t524, .int .i64 t525, .int .i64 t526, .int .i64 t527, .int .i64 t528, .int .i64 t529] 25 (0, 0))) ∧ Aside0 (wc.heap[gb539]? = some (.cells #[.int .i64 t532, .int .i64 t533, .int .i64 t534, .int .i64 t535, .int .i64 t536, .int .i64 t537] 25 (0, 0))) ∧ Aside0 (Below w.heap.size w wc))
     case first =>
      have H := HC64.out
      clear HC64
      by_cases c66 : t544 = true
      case neg =>
       replace c66 := Bool.eq_false_iff.mpr c66
       subst c66
       have H1 : (laws_FnWarningTexts.j4 kj55 l0 false) = some r := by rw [if_neg (show ¬ (false = true) by decide)] at H; exact H
       clear H
       have H := H1
       clear H1
       have H' := zm H
       clear H
       go_wp2
       go_meet
       case rel => exact ⟨_, (false), (by first | rfl | (simp; done) | (simp [*]; done)), H', ⟨by have := HJ6.out; have := HJ16.out; have := HJ30.out; have := HJ55.out; first | omega | exact Nat.le_refl _⟩, ⟨by (with_reducible repeat (first | refine zN ?_ _ | refine zD ?_ | refine zL ?_ _)); exact BK510.out⟩, ⟨by (with_reducible repeat (first | refine zN ?_ _ | refine zD ?_ | refine zL ?_ _)); exact BK522.out⟩, ⟨by (with_reducible repeat (first | refine zN ?_ _ | refine zD ?_ | refine zL ?_ _)); exact BK531.out⟩, ⟨by (with_reducible repeat (first | refine zN ?_ _ | refine zD ?_ | refine zL ?_ _)); exact BK539.out⟩, ⟨zq2⟩⟩
      subst c66
      have H1 : (if t548 = true then ((laws_rWarnings.f kj55 t547 t540).bind fun t551 => (laws_FnWarningTexts.j4 kj55 l0 (!t551))) else (none)) = some r := by rw [if_pos rfl] at H; exact H
      clear H
      have H := H1
      clear H1
      by_cases c67 : t548 = true
      case neg =>
       replace c67 := Bool.eq_false_iff.mpr c67
       subst c67
       have H1 : (none) = some r := by rw [if_neg (show ¬ (false = true) by decide)] at H; exact H
       clear H
       have H := H1
       clear H1
       exact absurd H (by simp)
      subst c67
      have H1 : ((laws_rWarnings.f kj55 t547 t540).bind fun t551 => (laws_FnWarningTexts.j4 kj55 l0 (!t551))) = some r := by rw [if_pos rfl] at H; exact H
      clear H
      have H := H1
      clear H1
      obtain ⟨t551, A680, H⟩ := zob H
      replace H : (laws_FnWarningTexts.j4 kj55 l0 (!t551)) = some r := H
      have A68 := zm A680
      clear A680
      have H' := zm H
      clear H
      obtain ⟨Ao69, co69, eo69⟩ := Kd.R_slice HO550.out
      subst eo69
      go_wp2_with (first | (go_at_call 15; (with_reducible refine (laws_rWarnings.calls kj55 _ _ t547 _ _ t540 t551 _ ?side1 ?side2 ?side3 ?side4 A68.out).mono ?_); (case side1 => exact zqC (Kd.R_reads' HO550.out).2.2); (case side2 => exact (Kd.R_reads' HO550.out).2.1); (case side3 => exact zqC (Kd.R_reads' HO_15.out).2.2); (case side4 => exact (Kd.R_reads' HO_15.out).2.1); rintro e w' ⟨rfl, ⟨nd, rfl⟩⟩))
      go_meet
      case rel => exact ⟨_, (!t551), (by first | rfl | (simp; done) | (simp [*]; done)), H', ⟨by have := HJ6.out; have := HJ16.out; have := HJ30.out; have := HJ55.out; first | omega | exact Nat.le_refl _⟩, ⟨by (with_reducible repeat (first | refine zN ?_ _ | refine zD ?_ | refine zL ?_ _)); exact BK510.out⟩, ⟨by (with_reducible repeat (first | refine zN ?_ _ | refine zD ?_ | refine zL ?_ _)); exact BK522.out⟩, ⟨by (with_reducible repeat (first | refine zN ?_ _ | refine zD ?_ | refine zL ?_ _)); exact BK531.out⟩, ⟨by (with_reducible repeat (first | refine zN ?_ _ | refine zD ?_ | refine zL ?_ _)); exact BK539.out⟩, ⟨zq2⟩⟩
     clear HC64
     try clear c1
     try clear c2
     try clear p2
     try clear c3
     try clear c4
     try clear c5
     try clear c6
     try clear c7
     try clear c8
     try clear c9
     try clear c10
     try clear c11
     try clear c12
     try clear c13
     try clear c14
     try clear c14b0
     try clear c14b1
     try clear c15
     try clear c20
     try clear c22
     try clear c23
     try clear c24
     try clear c27
     try clear c35
     try clear c36
     try clear c40
     try clear c41
     try clear c42
     try clear c44
     try clear c44b0
     try clear c45
     try clear c46
     try clear c47
     try clear c49
     try clear c50
     try clear c52
     try clear c61
     try clear c61b0
     try clear c61b1
     try clear c62
     try clear c66
     try clear c67
     try clear hcz10_0
     try clear hcz10_1
     try clear hcz10_2
     try clear hcz10_3
     try clear hcz10_4
     try clear hcz10_5
     try clear hcz12_0
     try clear hcz12_1
     try clear hcz12_2
     try clear hcz12_3
     try clear hcz12_4
     try clear hcz12_5
     try clear hcz21_0
     try clear hcz21_1
     try clear hcz21_2
     try clear hcz21_3
     try clear hcz21_4
     try clear hcz21_5
     try clear hcz25_0
     try clear hcz25_1
     try clear hcz25_2
     try clear hcz25_3
     try clear hcz25_4
     try clear hcz25_5
     try clear hcz26_0
     try clear hcz26_1
     try clear hcz26_2
     try clear hcz26_3
     try clear hcz26_4
     try clear hcz26_5
     try clear hcz37_0
     try clear hcz37_1
     try clear hcz37_2
     try clear hcz37_3
     try clear hcz37_4
     try clear hcz37_5
     try clear hcz43_0
     try clear hcz43_1
     try clear hcz43_2
     try clear hcz43_3
     try clear hcz43_4
     try clear hcz43_5
     try clear hcz48_0
     try clear hcz48_1
     try clear hcz48_2
     try clear hcz48_3
     try clear hcz48_4
     try clear hcz48_5
     try clear hcz51_0
     try clear hcz51_1
     try clear hcz51_2
     try clear hcz51_3
     try clear hcz51_4
     try clear hcz51_5
     try clear hfz10_0
     try clear hfz10_1
     try clear hfz10_2
     try clear hfz10_3
     try clear hfz10_4
     try clear hfz10_5
     try clear hfz12_0
     try clear hfz12_1
     try clear hfz12_2
     try clear hfz12_3
     try clear hfz12_4
     try clear hfz12_5
     try clear hfz21_0
     try clear hfz21_1
     try clear hfz21_2
     try clear hfz21_3
     try clear hfz21_4
     try clear hfz21_5
     try clear hfz25_0
     try clear hfz25_1
     try clear hfz25_2
     try clear hfz25_3
     try clear hfz25_4
     try clear hfz25_5
     try clear hfz26_0
     try clear hfz26_1
     try clear hfz26_2
     try clear hfz26_3
     try clear hfz26_4
     try clear hfz26_5
     try clear hfz37_0
     try clear hfz37_1
     try clear hfz37_2
     try clear hfz37_3
     try clear hfz37_4
     try clear hfz37_5
     try clear hfz43_0
     try clear hfz43_1
     try clear hfz43_2
     try clear hfz43_3
     try clear hfz43_4
     try clear hfz43_5
     try clear hfz48_0
     try clear hfz48_1
     try clear hfz48_2
     try clear hfz48_3
     try clear hfz48_4
     try clear hfz48_5
     try clear hfz51_0
     try clear hfz51_1
     try clear hfz51_2
     try clear hfz51_3
     try clear hfz51_4
     try clear hfz51_5
     try clear p2
     obtain ⟨kq, x126_63, rfl, HA, HJ63, BK510, BK522, BK531, BK539, HB⟩ := hcut
     cases kq with
     | zero => exact absurd HA.out (by simp [laws_FnWarningTexts.j4])
     | succ kj63 =>
      have H := HA.out
      clear HA
      simp only [laws_FnWarningTexts.j4] at H
      by_cases c70 : x126_63 = true
      case pos =>
       subst c70
       have H1 : (none) = some r := by rw [if_pos rfl] at H; exact H
       clear H
       have H := H1
       clear H1
       exact absurd H (by simp)
      replace c70 := Bool.eq_false_iff.mpr c70
      subst c70
      have H1 : ((spec_DrawParseOverview.f kj63 l0).bind fun t552 => ((impl_ParseOverview.f kj63 t552).bind fun bt553 => ((spec_ParseOverview.f kj63 t552).bind fun bt557 => (if (bt553.2 != bt557.2) = true then (none) else ((laws_rWarnings.f kj63 bt553.1 bt557.1).bind fun t561 => (laws_FnWarningTexts.j5 kj63 l0 (!t561))))))) = some r := by rw [if_neg (show ¬ (false = true) by decide)] at H; exact H
      clear H
      have H := H1
      clear H1
      obtain ⟨t552, A710, H⟩ := zob H
      replace H : ((impl_ParseOverview.f kj63 t552).bind fun bt553 => ((spec_ParseOverview.f kj63 t552).bind fun bt557 => (if (bt553.2 != bt557.2) = true then (none) else ((laws_rWarnings.f kj63 bt553.1 bt557.1).bind fun t561 => (laws_FnWarningTexts.j5 kj63 l0 (!t561)))))) = some r := H
      have A71 := zm A710
      clear A710
      obtain ⟨⟨t553, t554⟩, A720, H⟩ := zob H
      replace H : ((spec_ParseOverview.f kj63 t552).bind fun bt557 => (if (t554 != bt557.2) = true then (none) else ((laws_rWarnings.f kj63 t553 bt557.1).bind fun t561 => (laws_FnWarningTexts.j5 kj63 l0 (!t561))))) = some r := H
      have A72 := zm A720
      clear A720
      obtain ⟨⟨t557, t558⟩, A730, H⟩ := zob H
      replace H : (if (t554 != t558) = true then (none) else ((laws_rWarnings.f kj63 t553 t557).bind fun t561 => (laws_FnWarningTexts.j5 kj63 l0 (!t561)))) = some r := H
      have A73 := zm A730
      clear A730
      have HC74 := zm H
      clear H
      go_upto_region 27 with (first | ((with_reducible refine gate_callee (f := 16) rfl ?_); refine goesL_ (some 128) rfl rfl Tryz.func16 (by kernel_rfl) rfl #[.slice A0 l0.length c0] rfl zq1 ?_; (with_reducible refine (spec_DrawParseOverview.calls kj63 _ _ l0 t552 _ ?side1 ?side2 A71.out).mono ?_); (case side1 => exact zqC (Kd.C_below HR0.out HB.out)); (case side2 => exact HC0.out); rintro e w75 ⟨rfl, hb⟩; refine ⟨_, rfl, ?_⟩; replace BK510 := zm (blk_below (g := gb510) (o := .cells #[.int .i64 t504, .int .i64 t505, .int .i64 t506, .int .i64 t507, .int .i64 t508, .int .i64 t509] 25 (0, 0)) (zqK BK510.out) hb); replace BK522 := zm (blk_below (g := gb522) (o := .cells #[.int .i64 t515, .int .i64 t516, .int .i64 t517, .int .i64 t518, .int .i64 t519, .int .i64 t520] 25 (0, 0)) (zqK BK522.out) hb); replace BK531 := zm (blk_below (g := gb531) (o := .cells #[.int .i64 t524, .int .i64 t525, .int .i64 t526, .int .i64 t527, .int .i64 t528, .int .i64 t529] 25 (0, 0)) (zqK BK531.out) hb); replace BK539 := zm (blk_below (g := gb539) (o := .cells #[.int .i64 t532, .int .i64 t533, .int .i64 t534, .int .i64 t535, .int .i64 t536, .int .i64 t537] 25 (0, 0)) (zqK BK539.out) hb); replace HB := zm (below_step zq2 hb); (try clear hb); (try clear hb2); (try clear hk); (try clear hi)) | ((with_reducible refine gate_callee (f := 14) rfl ?_); refine goesL_ (some 131) rfl rfl Tryz.func14 (by kernel_rfl) rfl #[.string t552] rfl zq1 ?_; (with_reducible refine (impl_ParseOverview.calls kj63 t552 t553 t554 _ (HTE.out.below zq2) (HTL.out.below zq2) (HTM.out.below zq2) (HTN.out.below zq2) (HTO.out.below zq2) A72.out).mono ?_); rintro e w76 ⟨v555, rfl, ho0, hb⟩; refine ⟨_, rfl, ?_⟩; have HO556 := zm (Kd.R_lower (Kd.R_newB (Kd.R_newB (Kd.R_newB (Kd.R_newB ho0 (g := gb510) (o := .cells #[.int .i64 t504, .int .i64 t505, .int .i64 t506, .int .i64 t507, .int .i64 t508, .int .i64 t509] 25 (0, 0)) (zqK BK510.out)) (g := gb522) (o := .cells #[.int .i64 t515, .int .i64 t516, .int .i64 t517, .int .i64 t518, .int .i64 t519, .int .i64 t520] 25 (0, 0)) (zqK BK522.out)) (g := gb531) (o := .cells #[.int .i64 t524, .int .i64 t525, .int .i64 t526, .int .i64 t527, .int .i64 t528, .int .i64 t529] 25 (0, 0)) (zqK BK531.out)) (g := gb539) (o := .cells #[.int .i64 t532, .int .i64 t533, .int .i64 t534, .int .i64 t535, .int .i64 t536, .int .i64 t537] 25 (0, 0)) (zqK BK539.out)) (below_size zq2)); replace BK510 := zm (blk_below (g := gb510) (o := .cells #[.int .i64 t504, .int .i64 t505, .int .i64 t506, .int .i64 t507, .int .i64 t508, .int .i64 t509] 25 (0, 0)) (zqK BK510.out) hb); replace BK522 := zm (blk_below (g := gb522) (o := .cells #[.int .i64 t515, .int .i64 t516, .int .i64 t517, .int .i64 t518, .int .i64 t519, .int .i64 t520] 25 (0, 0)) (zqK BK522.out) hb); replace BK531 := zm (blk_below (g := gb531) (o := .cells #[.int .i64 t524, .int .i64 t525, .int .i64 t526, .int .i64 t527, .int .i64 t528, .int .i64 t529] 25 (0, 0)) (zqK BK531.out) hb); replace BK539 := zm (blk_below (g := gb539) (o := .cells #[.int .i64 t532, .int .i64 t533, .int .i64 t534, .int .i64 t535, .int .i64 t536, .int .i64 t537] 25 (0, 0)) (zqK BK539.out) hb); replace HB := zm (below_step zq2 hb); (try clear hb); (try clear hb2); (try clear hk); (try clear hi); (try clear ho0)) | ((with_reducible refine gate_callee (f := 17) rfl ?_); refine goesL_ (some 136) rfl rfl Tryz.func17 (by kernel_rfl) rfl #[.string t552] rfl zq1 ?_; (with_reducible refine (spec_ParseOverview.calls kj63 t552 t557 t558 _ A73.out).mono ?_); rintro e w77 ⟨v559, rfl, ho0, hb⟩; refine ⟨_, rfl, ?_⟩; have HO560 := zm (Kd.R_lower (Kd.R_newB (Kd.R_newB (Kd.R_newB (Kd.R_newB (Kd.R_new' ho0 (Kd.R_lt (zqR HO556.out))) (g := gb510) (o := .cells #[.int .i64 t504, .int .i64 t505, .int .i64 t506, .int .i64 t507, .int .i64 t508, .int .i64 t509] 25 (0, 0)) (zqK BK510.out)) (g := gb522) (o := .cells #[.int .i64 t515, .int .i64 t516, .int .i64 t517, .int .i64 t518, .int .i64 t519, .int .i64 t520] 25 (0, 0)) (zqK BK522.out)) (g := gb531) (o := .cells #[.int .i64 t524, .int .i64 t525, .int .i64 t526, .int .i64 t527, .int .i64 t528, .int .i64 t529] 25 (0, 0)) (zqK BK531.out)) (g := gb539) (o := .cells #[.int .i64 t532, .int .i64 t533, .int .i64 t534, .int .i64 t535, .int .i64 t536, .int .i64 t537] 25 (0, 0)) (zqK BK539.out)) (below_size zq2)); replace HO556 := zm (Kd.R_elder' (zqR HO556.out) (Kd.R_base ho0) hb); replace BK510 := zm (blk_below (g := gb510) (o := .cells #[.int .i64 t504, .int .i64 t505, .int .i64 t506, .int .i64 t507, .int .i64 t508, .int .i64 t509] 25 (0, 0)) (zqK BK510.out) hb); replace BK522 := zm (blk_below (g := gb522) (o := .cells #[.int .i64 t515, .int .i64 t516, .int .i64 t517, .int .i64 t518, .int .i64 t519, .int .i64 t520] 25 (0, 0)) (zqK BK522.out) hb); replace BK531 := zm (blk_below (g := gb531) (o := .cells #[.int .i64 t524, .int .i64 t525, .int .i64 t526, .int .i64 t527, .int .i64 t528, .int .i64 t529] 25 (0, 0)) (zqK BK531.out) hb); replace BK539 := zm (blk_below (g := gb539) (o := .cells #[.int .i64 t532, .int .i64 t533, .int .i64 t534, .int .i64 t535, .int .i64 t536, .int .i64 t537] 25 (0, 0)) (zqK BK539.out) hb); replace HB := zm (below_step zq2 hb); (try clear hb); (try clear hb2); (try clear hk); (try clear hi); (try clear ho0)))
      (try simp only [Act.put, List.setIfInBounds_toArray, List.set_cons_zero, List.set_cons_succ])
      go_cut [147] (fun v147 wc => ∃ (kq : Nat) (x147_73 : Bool), v147 = .bool x147_73 ∧ Aside0 (laws_FnWarningTexts.j5 kq l0 x147_73 = some r) ∧ Aside0 (kq ≤ kj63) ∧ Aside0 (wc.heap[gb510]? = some (.cells #[.int .i64 t504, .int .i64 t505, .int .i64 t506, .int .i64 t507, .int .i64 t508, .int .i64 t509] 25 (0, 0))) ∧ Aside0 (wc.heap[gb522]? = some (.cells #[.int .i64 t515, .int .i64 t516, .int .i64 t517, .int .i64 t518, .int .i64 t519, .int .i64 t520] 25 (0, 0))) ∧ Aside0 (wc.heap[gb531]? = some (.cells #[.int .i64 t524, .int .i64 t525, .int .i64 t526, .int .i64 t527, .int .i64 t528, .int .i64 t529] 25 (0, 0))) ∧ Aside0 (wc.heap[gb539]? = some (.cells #[.int .i64 t532, .int .i64 t533, .int .i64 t534, .int .i64 t535, .int .i64 t536, .int .i64 t537] 25 (0, 0))) ∧ Aside0 (Below w.heap.size w wc))
      case first =>
       have H := HC74.out
       clear HC74
       by_cases c78 : (t554 != t558) = true
       case pos =>
        rw [if_pos c78] at H
        exact absurd H (by simp)
       rw [if_neg c78] at H
       have c78b0 : (t554 != t558) = false := by simpa using c78
       (try (have c78b1 : decide (t554 = t558) = true := by simpa using c78))
       (try (have c78b2 : (t554 == t558) = true := by simpa using c78))
       clear c78
       (first | rw [c78b0] | (simp only [i64_w, i32_w]; rw [c78b0]) | rw [c78b1] | skip)
       obtain ⟨t561, A790, H⟩ := zob H
       replace H : (laws_FnWarningTexts.j5 kj63 l0 (!t561)) = some r := H
       have A79 := zm A790
       clear A790
       have H' := zm H
       clear H
       obtain ⟨Ao80, co80, eo80⟩ := Kd.R_slice HO556.out
       subst eo80
       obtain ⟨Ao81, co81, eo81⟩ := Kd.R_slice HO560.out
       subst eo81
       go_wp2_with (first | (go_at_call 15; (with_reducible refine (laws_rWarnings.calls kj63 _ _ t553 _ _ t557 t561 _ ?side1 ?side2 ?side3 ?side4 A79.out).mono ?_); (case side1 => exact zqC (Kd.R_reads' HO556.out).2.2); (case side2 => exact (Kd.R_reads' HO556.out).2.1); (case side3 => exact zqC (Kd.R_reads' HO560.out).2.2); (case side4 => exact (Kd.R_reads' HO560.out).2.1); rintro e w' ⟨rfl, ⟨nd, rfl⟩⟩))
       go_meet
       case rel => exact ⟨_, (!t561), (by first | rfl | (simp; done) | (simp [*]; done)), H', ⟨by have := HJ6.out; have := HJ16.out; have := HJ30.out; have := HJ55.out; have := HJ63.out; first | omega | exact Nat.le_refl _⟩, ⟨by (with_reducible repeat (first | refine zN ?_ _ | refine zD ?_ | refine zL ?_ _)); exact BK510.out⟩, ⟨by (with_reducible repeat (first | refine zN ?_ _ | refine zD ?_ | refine zL ?_ _)); exact BK522.out⟩, ⟨by (with_reducible repeat (first | refine zN ?_ _ | refine zD ?_ | refine zL ?_ _)); exact BK531.out⟩, ⟨by (with_reducible repeat (first | refine zN ?_ _ | refine zD ?_ | refine zL ?_ _)); exact BK539.out⟩, ⟨zq2⟩⟩
      clear HC74
      try clear c1
      try clear c2
      try clear p2
      try clear c3
      try clear c4
      try clear c5
      try clear c6
      try clear c7
      try clear c8
      try clear c9
      try clear c10
      try clear c11
      try clear c12
      try clear c13
      try clear c14
      try clear c14b0
      try clear c14b1
      try clear c15
      try clear c16
      try clear c17
      try clear c20
      try clear c22
      try clear c23
      try clear c24
      try clear c27
      try clear c35
      try clear c36
      try clear c40
      try clear c41
      try clear c42
      try clear c44
      try clear c44b0
      try clear c45
      try clear c46
      try clear c47
      try clear c49
      try clear c50
      try clear c52
      try clear c61
      try clear c61b0
      try clear c61b1
      try clear c62
      try clear c66
      try clear c67
      try clear c70
      try clear c78
      try clear c78b0
      try clear c78b1
      try clear c78b2
      try clear hcz10_0
      try clear hcz10_1
      try clear hcz10_2
      try clear hcz10_3
      try clear hcz10_4
      try clear hcz10_5
      try clear hcz12_0
      try clear hcz12_1
      try clear hcz12_2
      try clear hcz12_3
      try clear hcz12_4
      try clear hcz12_5
      try clear hcz21_0
      try clear hcz21_1
      try clear hcz21_2
      try clear hcz21_3
      try clear hcz21_4
      try clear hcz21_5
      try clear hcz25_0
      try clear hcz25_1
      try clear hcz25_2
      try clear hcz25_3
      try clear hcz25_4
      try clear hcz25_5
      try clear hcz26_0
      try clear hcz26_1
      try clear hcz26_2
      try clear hcz26_3
      try clear hcz26_4
      try clear hcz26_5
      try clear hcz37_0
      try clear hcz37_1
      try clear hcz37_2
      try clear hcz37_3
      try clear hcz37_4
      try clear hcz37_5
      try clear hcz43_0
      try clear hcz43_1
      try clear hcz43_2
      try clear hcz43_3
      try clear hcz43_4
      try clear hcz43_5
      try clear hcz48_0
      try clear hcz48_1
      try clear hcz48_2
      try clear hcz48_3
      try clear hcz48_4
      try clear hcz48_5
      try clear hcz51_0
      try clear hcz51_1
      try clear hcz51_2
      try clear hcz51_3
      try clear hcz51_4
      try clear hcz51_5
      try clear hfz10_0
      try clear hfz10_1
      try clear hfz10_2
      try clear hfz10_3
      try clear hfz10_4
      try clear hfz10_5
      try clear hfz12_0
      try clear hfz12_1
      try clear hfz12_2
      try clear hfz12_3
      try clear hfz12_4
      try clear hfz12_5
      try clear hfz21_0
      try clear hfz21_1
      try clear hfz21_2
      try clear hfz21_3
      try clear hfz21_4
      try clear hfz21_5
      try clear hfz25_0
      try clear hfz25_1
      try clear hfz25_2
      try clear hfz25_3
      try clear hfz25_4
      try clear hfz25_5
      try clear hfz26_0
      try clear hfz26_1
      try clear hfz26_2
      try clear hfz26_3
      try clear hfz26_4
      try clear hfz26_5
      try clear hfz37_0
      try clear hfz37_1
      try clear hfz37_2
      try clear hfz37_3
      try clear hfz37_4
      try clear hfz37_5
      try clear hfz43_0
      try clear hfz43_1
      try clear hfz43_2
      try clear hfz43_3
      try clear hfz43_4
      try clear hfz43_5
      try clear hfz48_0
      try clear hfz48_1
      try clear hfz48_2
      try clear hfz48_3
      try clear hfz48_4
      try clear hfz48_5
      try clear hfz51_0
      try clear hfz51_1
      try clear hfz51_2
      try clear hfz51_3
      try clear hfz51_4
      try clear hfz51_5
      try clear p2
      obtain ⟨kq, x147_73, rfl, HA, HJ73, BK510, BK522, BK531, BK539, HB⟩ := hcut
      cases kq with
      | zero => exact absurd HA.out (by simp [laws_FnWarningTexts.j5])
      | succ kj73 =>
       have H := HA.out
       clear HA
       simp only [laws_FnWarningTexts.j5] at H
       by_cases c82 : x147_73 = true
       case pos =>
        subst c82
        have H1 : (none) = some r := by rw [if_pos rfl] at H; exact H
        clear H
        have H := H1
        clear H1
        exact absurd H (by simp)
       replace c82 := Bool.eq_false_iff.mpr c82
       subst c82
       have H1 : ((spec_DrawHourText.f l0).bind fun t562 => ((impl_HourText.f t562).bind fun bt563 => ((impl_ParseHour.f kj73 bt563.1).bind fun bt565 => ((spec_HourText.f kj73 t562).bind fun bt567 => (if bt563.1.toList = bt567.1.toList then (if (bt563.2 == bt567.2) = true then (if bt563.2 = true then (if bt565.2 = true then (some (bt565.1 == t562)) else (none)) else (some true)) else (none)) else (none)))))) = some r := by rw [if_neg (show ¬ (false = true) by decide)] at H; exact H
       clear H
       have H := H1
       clear H1
       obtain ⟨t562, A830, H⟩ := zob H
       replace H : ((impl_HourText.f t562).bind fun bt563 => ((impl_ParseHour.f kj73 bt563.1).bind fun bt565 => ((spec_HourText.f kj73 t562).bind fun bt567 => (if bt563.1.toList = bt567.1.toList then (if (bt563.2 == bt567.2) = true then (if bt563.2 = true then (if bt565.2 = true then (some (bt565.1 == t562)) else (none)) else (some true)) else (none)) else (none))))) = some r := H
       have A83 := zm A830
       clear A830
       obtain ⟨⟨t563, t564⟩, A840, H⟩ := zob H
       replace H : ((impl_ParseHour.f kj73 t563).bind fun bt565 => ((spec_HourText.f kj73 t562).bind fun bt567 => (if t563.toList = bt567.1.toList then (if (t564 == bt567.2) = true then (if t564 = true then (if bt565.2 = true then (some (bt565.1 == t562)) else (none)) else (some true)) else (none)) else (none)))) = some r := H
       have A84 := zm A840
       clear A840
       obtain ⟨⟨t565, t566⟩, A850, H⟩ := zob H
       replace H : ((spec_HourText.f kj73 t562).bind fun bt567 => (if t563.toList = bt567.1.toList then (if (t564 == bt567.2) = true then (if t564 = true then (if t566 = true then (some (t565 == t562)) else (none)) else (some true)) else (none)) else (none))) = some r := H
       have A85 := zm A850
       clear A850
       obtain ⟨⟨t567, t568⟩, A860, H⟩ := zob H
       replace H : (if t563.toList = t567.toList then (if (t564 == t568) = true then (if t564 = true then (if t566 = true then (some (t565 == t562)) else (none)) else (some true)) else (none)) else (none)) = some r := H
       have A86 := zm A860
       clear A860
       by_cases c87 : t563.toList = t567.toList
       case neg =>
        rw [if_neg c87] at H
        exact absurd H (by simp)
       rw [if_pos c87] at H
       have c87b0 : (t563.toList == t567.toList) = true := beq_iff_eq.mpr c87
       have c87b1 : (t563.toList != t567.toList) = false := bne_eq_false_iff_eq.mpr c87
       clear c87
       by_cases c88 : (t564 == t568) = true
       case neg =>
        rw [if_neg c88] at H
        exact absurd H (by simp)
       rw [if_pos c88] at H
       have c88b0 : (t564 == t568) = true := c88
       (try (have c88b1 : decide (t564 = t568) = true := by simpa using c88))
       (try (have c88b2 : (t564 == t568) = true := by simpa using c88))
       clear c88
       by_cases c89 : t564 = true
       case neg =>
        replace c89 := Bool.eq_false_iff.mpr c89
        subst c89
        have H1 : (some true) = some r := by rw [if_neg (show ¬ (false = true) by decide)] at H; exact H
        clear H
        have H := H1
        clear H1
        obtain rfl := Option.some.inj H
        go_wp2_with (first | ((with_reducible refine gate_callee (f := 18) rfl ?_); refine goesL_ (some 149) rfl rfl Tryz.func18 (by kernel_rfl) rfl #[.slice A0 l0.length c0] rfl zq1 ?_; (with_reducible refine (spec_DrawHourText.calls _ _ l0 t562 _ ?side1 ?side2 A83.out).mono ?_); (case side1 => exact zqC (Kd.C_below HR0.out HB.out)); (case side2 => exact HC0.out); rintro e w95 ⟨rfl, hb⟩; refine ⟨_, rfl, ?_⟩; replace BK510 := zm (blk_below (g := gb510) (o := .cells #[.int .i64 t504, .int .i64 t505, .int .i64 t506, .int .i64 t507, .int .i64 t508, .int .i64 t509] 25 (0, 0)) (zqK BK510.out) hb); replace BK522 := zm (blk_below (g := gb522) (o := .cells #[.int .i64 t515, .int .i64 t516, .int .i64 t517, .int .i64 t518, .int .i64 t519, .int .i64 t520] 25 (0, 0)) (zqK BK522.out) hb); replace BK531 := zm (blk_below (g := gb531) (o := .cells #[.int .i64 t524, .int .i64 t525, .int .i64 t526, .int .i64 t527, .int .i64 t528, .int .i64 t529] 25 (0, 0)) (zqK BK531.out) hb); replace BK539 := zm (blk_below (g := gb539) (o := .cells #[.int .i64 t532, .int .i64 t533, .int .i64 t534, .int .i64 t535, .int .i64 t536, .int .i64 t537] 25 (0, 0)) (zqK BK539.out) hb); replace HB := zm (below_step zq2 hb); (try clear hb); (try clear hb2); (try clear hk); (try clear hi)) | ((with_reducible refine gate_callee (f := 19) rfl ?_); refine goesL_ (some 152) rfl rfl Tryz.func19 (by kernel_rfl) rfl #[.int .i64 t562] rfl zq1 ?_; (with_reducible refine (impl_HourText.calls t562 t563 false _ (HTN.out.below zq2) A84.out).mono ?_); rintro e w96 ⟨rfl, hb⟩; refine ⟨_, rfl, ?_⟩; replace BK510 := zm (blk_below (g := gb510) (o := .cells #[.int .i64 t504, .int .i64 t505, .int .i64 t506, .int .i64 t507, .int .i64 t508, .int .i64 t509] 25 (0, 0)) (zqK BK510.out) hb); replace BK522 := zm (blk_below (g := gb522) (o := .cells #[.int .i64 t515, .int .i64 t516, .int .i64 t517, .int .i64 t518, .int .i64 t519, .int .i64 t520] 25 (0, 0)) (zqK BK522.out) hb); replace BK531 := zm (blk_below (g := gb531) (o := .cells #[.int .i64 t524, .int .i64 t525, .int .i64 t526, .int .i64 t527, .int .i64 t528, .int .i64 t529] 25 (0, 0)) (zqK BK531.out) hb); replace BK539 := zm (blk_below (g := gb539) (o := .cells #[.int .i64 t532, .int .i64 t533, .int .i64 t534, .int .i64 t535, .int .i64 t536, .int .i64 t537] 25 (0, 0)) (zqK BK539.out) hb); replace HB := zm (below_step zq2 hb); (try clear hb); (try clear hb2); (try clear hk); (try clear hi)) | ((with_reducible refine gate_callee (f := 20) rfl ?_); refine goesL_ (some 157) rfl rfl Tryz.func20 (by kernel_rfl) rfl #[.string t563] rfl zq1 ?_; (with_reducible refine (impl_ParseHour.calls kj73 t563 t565 t566 _ (HTN.out.below zq2) A85.out).mono ?_); rintro e w97 ⟨rfl, hb⟩; refine ⟨_, rfl, ?_⟩; replace BK510 := zm (blk_below (g := gb510) (o := .cells #[.int .i64 t504, .int .i64 t505, .int .i64 t506, .int .i64 t507, .int .i64 t508, .int .i64 t509] 25 (0, 0)) (zqK BK510.out) hb); replace BK522 := zm (blk_below (g := gb522) (o := .cells #[.int .i64 t515, .int .i64 t516, .int .i64 t517, .int .i64 t518, .int .i64 t519, .int .i64 t520] 25 (0, 0)) (zqK BK522.out) hb); replace BK531 := zm (blk_below (g := gb531) (o := .cells #[.int .i64 t524, .int .i64 t525, .int .i64 t526, .int .i64 t527, .int .i64 t528, .int .i64 t529] 25 (0, 0)) (zqK BK531.out) hb); replace BK539 := zm (blk_below (g := gb539) (o := .cells #[.int .i64 t532, .int .i64 t533, .int .i64 t534, .int .i64 t535, .int .i64 t536, .int .i64 t537] 25 (0, 0)) (zqK BK539.out) hb); replace HB := zm (below_step zq2 hb); (try clear hb); (try clear hb2); (try clear hk); (try clear hi)) | ((with_reducible refine gate_callee (f := 21) rfl ?_); refine goesL_ (some 162) rfl rfl Tryz.func21 (by kernel_rfl) rfl #[.int .i64 t562] rfl zq1 ?_; (with_reducible refine (spec_HourText.calls kj73 t562 t567 t568 _ A86.out).mono ?_); rintro e w98 ⟨rfl, hb⟩; refine ⟨_, rfl, ?_⟩; replace BK510 := zm (blk_below (g := gb510) (o := .cells #[.int .i64 t504, .int .i64 t505, .int .i64 t506, .int .i64 t507, .int .i64 t508, .int .i64 t509] 25 (0, 0)) (zqK BK510.out) hb); replace BK522 := zm (blk_below (g := gb522) (o := .cells #[.int .i64 t515, .int .i64 t516, .int .i64 t517, .int .i64 t518, .int .i64 t519, .int .i64 t520] 25 (0, 0)) (zqK BK522.out) hb); replace BK531 := zm (blk_below (g := gb531) (o := .cells #[.int .i64 t524, .int .i64 t525, .int .i64 t526, .int .i64 t527, .int .i64 t528, .int .i64 t529] 25 (0, 0)) (zqK BK531.out) hb); replace BK539 := zm (blk_below (g := gb539) (o := .cells #[.int .i64 t532, .int .i64 t533, .int .i64 t534, .int .i64 t535, .int .i64 t536, .int .i64 t537] 25 (0, 0)) (zqK BK539.out) hb); replace HB := zm (below_step zq2 hb); (try clear hb); (try clear hb2); (try clear hk); (try clear hi)))
        go_ret
        exact ⟨zqE, zq2⟩
       subst c89
       have H1 : (if t566 = true then (some (t565 == t562)) else (none)) = some r := by rw [if_pos rfl] at H; exact H
       clear H
       have H := H1
       clear H1
       by_cases c90 : t566 = true
       case neg =>
        replace c90 := Bool.eq_false_iff.mpr c90
        subst c90
        have H1 : (none) = some r := by rw [if_neg (show ¬ (false = true) by decide)] at H; exact H
        clear H
        have H := H1
        clear H1
        exact absurd H (by simp)
       subst c90
       have H1 : (some (t565 == t562)) = some r := by rw [if_pos rfl] at H; exact H
       clear H
       have H := H1
       clear H1
       obtain rfl := Option.some.inj H
       go_wp2_with (first | ((with_reducible refine gate_callee (f := 18) rfl ?_); refine goesL_ (some 149) rfl rfl Tryz.func18 (by kernel_rfl) rfl #[.slice A0 l0.length c0] rfl zq1 ?_; (with_reducible refine (spec_DrawHourText.calls _ _ l0 t562 _ ?side1 ?side2 A83.out).mono ?_); (case side1 => exact zqC (Kd.C_below HR0.out HB.out)); (case side2 => exact HC0.out); rintro e w91 ⟨rfl, hb⟩; refine ⟨_, rfl, ?_⟩; replace BK510 := zm (blk_below (g := gb510) (o := .cells #[.int .i64 t504, .int .i64 t505, .int .i64 t506, .int .i64 t507, .int .i64 t508, .int .i64 t509] 25 (0, 0)) (zqK BK510.out) hb); replace BK522 := zm (blk_below (g := gb522) (o := .cells #[.int .i64 t515, .int .i64 t516, .int .i64 t517, .int .i64 t518, .int .i64 t519, .int .i64 t520] 25 (0, 0)) (zqK BK522.out) hb); replace BK531 := zm (blk_below (g := gb531) (o := .cells #[.int .i64 t524, .int .i64 t525, .int .i64 t526, .int .i64 t527, .int .i64 t528, .int .i64 t529] 25 (0, 0)) (zqK BK531.out) hb); replace BK539 := zm (blk_below (g := gb539) (o := .cells #[.int .i64 t532, .int .i64 t533, .int .i64 t534, .int .i64 t535, .int .i64 t536, .int .i64 t537] 25 (0, 0)) (zqK BK539.out) hb); replace HB := zm (below_step zq2 hb); (try clear hb); (try clear hb2); (try clear hk); (try clear hi)) | ((with_reducible refine gate_callee (f := 19) rfl ?_); refine goesL_ (some 152) rfl rfl Tryz.func19 (by kernel_rfl) rfl #[.int .i64 t562] rfl zq1 ?_; (with_reducible refine (impl_HourText.calls t562 t563 true _ (HTN.out.below zq2) A84.out).mono ?_); rintro e w92 ⟨rfl, hb⟩; refine ⟨_, rfl, ?_⟩; replace BK510 := zm (blk_below (g := gb510) (o := .cells #[.int .i64 t504, .int .i64 t505, .int .i64 t506, .int .i64 t507, .int .i64 t508, .int .i64 t509] 25 (0, 0)) (zqK BK510.out) hb); replace BK522 := zm (blk_below (g := gb522) (o := .cells #[.int .i64 t515, .int .i64 t516, .int .i64 t517, .int .i64 t518, .int .i64 t519, .int .i64 t520] 25 (0, 0)) (zqK BK522.out) hb); replace BK531 := zm (blk_below (g := gb531) (o := .cells #[.int .i64 t524, .int .i64 t525, .int .i64 t526, .int .i64 t527, .int .i64 t528, .int .i64 t529] 25 (0, 0)) (zqK BK531.out) hb); replace BK539 := zm (blk_below (g := gb539) (o := .cells #[.int .i64 t532, .int .i64 t533, .int .i64 t534, .int .i64 t535, .int .i64 t536, .int .i64 t537] 25 (0, 0)) (zqK BK539.out) hb); replace HB := zm (below_step zq2 hb); (try clear hb); (try clear hb2); (try clear hk); (try clear hi)) | ((with_reducible refine gate_callee (f := 20) rfl ?_); refine goesL_ (some 157) rfl rfl Tryz.func20 (by kernel_rfl) rfl #[.string t563] rfl zq1 ?_; (with_reducible refine (impl_ParseHour.calls kj73 t563 t565 true _ (HTN.out.below zq2) A85.out).mono ?_); rintro e w93 ⟨rfl, hb⟩; refine ⟨_, rfl, ?_⟩; replace BK510 := zm (blk_below (g := gb510) (o := .cells #[.int .i64 t504, .int .i64 t505, .int .i64 t506, .int .i64 t507, .int .i64 t508, .int .i64 t509] 25 (0, 0)) (zqK BK510.out) hb); replace BK522 := zm (blk_below (g := gb522) (o := .cells #[.int .i64 t515, .int .i64 t516, .int .i64 t517, .int .i64 t518, .int .i64 t519, .int .i64 t520] 25 (0, 0)) (zqK BK522.out) hb); replace BK531 := zm (blk_below (g := gb531) (o := .cells #[.int .i64 t524, .int .i64 t525, .int .i64 t526, .int .i64 t527, .int .i64 t528, .int .i64 t529] 25 (0, 0)) (zqK BK531.out) hb); replace BK539 := zm (blk_below (g := gb539) (o := .cells #[.int .i64 t532, .int .i64 t533, .int .i64 t534, .int .i64 t535, .int .i64 t536, .int .i64 t537] 25 (0, 0)) (zqK BK539.out) hb); replace HB := zm (below_step zq2 hb); (try clear hb); (try clear hb2); (try clear hk); (try clear hi)) | ((with_reducible refine gate_callee (f := 21) rfl ?_); refine goesL_ (some 162) rfl rfl Tryz.func21 (by kernel_rfl) rfl #[.int .i64 t562] rfl zq1 ?_; (with_reducible refine (spec_HourText.calls kj73 t562 t567 t568 _ A86.out).mono ?_); rintro e w94 ⟨rfl, hb⟩; refine ⟨_, rfl, ?_⟩; replace BK510 := zm (blk_below (g := gb510) (o := .cells #[.int .i64 t504, .int .i64 t505, .int .i64 t506, .int .i64 t507, .int .i64 t508, .int .i64 t509] 25 (0, 0)) (zqK BK510.out) hb); replace BK522 := zm (blk_below (g := gb522) (o := .cells #[.int .i64 t515, .int .i64 t516, .int .i64 t517, .int .i64 t518, .int .i64 t519, .int .i64 t520] 25 (0, 0)) (zqK BK522.out) hb); replace BK531 := zm (blk_below (g := gb531) (o := .cells #[.int .i64 t524, .int .i64 t525, .int .i64 t526, .int .i64 t527, .int .i64 t528, .int .i64 t529] 25 (0, 0)) (zqK BK531.out) hb); replace BK539 := zm (blk_below (g := gb539) (o := .cells #[.int .i64 t532, .int .i64 t533, .int .i64 t534, .int .i64 t535, .int .i64 t536, .int .i64 t537] 25 (0, 0)) (zqK BK539.out) hb); replace HB := zm (below_step zq2 hb); (try clear hb); (try clear hb2); (try clear hk); (try clear hi)))
       go_ret
       exact ⟨zqE, zq2⟩
end Go.Proofs.YtleadjbfcenofaaGreatDoor.Q
