/- Texts of this seat, put together: Qf17, Qf3d. -/
import Derived.Test.YtoaclbbkllpdaaaZFnAreas
import Derived.Test.YtoaclbbkllpdaaaBFnAreas0
import Derived.Test.YtoaclbbkllpdaaaBFnAreas2
import Derived.Test.YtoaclbbkllpdaaaBFnAreas3
import Derived.Test.YtoaclbbkllpdaaaBFnAreas4
import Derived.Test.YtoaclbbkllpdaaaBFnAreas5
import Derived.Test.YtoaclbbkllpdaaaBFnAreas6
namespace Go.Proofs.Ytoaclbbkllpdaaa.Q
open Go.RowKit Go.Proofs.YtoaclbbkllpdaaaW.PrintWords Go.Proofs.YtoaclbbkllpdaaaW.PrintLast Go.Proofs.YtoaclbbkllpdaaaW.PrintMore
attribute [local go_sem] max2_int min2_int max_two min_two max_three min_three max_four min_four   -- for this text's walks alone
set_option linter.unusedVariables false
set_option linter.unusedSimpArgs false

/-! ### spec_AreasOf: function 17 -/
def spec_AreasOf.l0 : Nat → List Int → Int → Int → Int → List Int → Option (List Int × Bool)
 | 0, _, _, _, _, _ => none
 | k + 1, x4, x5, x472000, x472001, x472002 => if x5 ≤ 9 then ((spec_l1Has.f k x472002 x5).bind fun t476 => (if t476 = true then (if x4.length < 17592186044416 then (spec_AreasOf.l0 k (x4 ++ [x5]) (wrap64 (x5 + 1)) x472000 x472001 x472002) else (none)) else (spec_AreasOf.l0 k x4 (wrap64 (x5 + 1)) x472000 x472001 x472002))) else (some (x4, true))
def spec_AreasOf.f (k : Nat) (a0_0 : Int) (a0_1 : Int) (l0_2 : List Int) : Option (List Int × Bool) := (some (([] : List Int) : List Int)).bind fun y472 => ((spec_l13Good.f k a0_0 a0_1 l0_2).bind fun t475 => (if t475 = true then (spec_AreasOf.l0 k y472 1 a0_0 a0_1 l0_2) else (some (y472, false))))
set_option maxHeartbeats 8000000 in
set_option maxRecDepth 100000 in
theorem spec_AreasOf.calls (k : Nat) (a0_0 : Int) (a0_1 : Int) (A0_2 : Option Addr) (c0_2 : Nat) (l0_2 : List Int) (r1 : List Int) (r2 : Bool) (w : World) (hr0_2 : Kd.C (Kd.int .i64) w A0_2 l0_2.length l0_2) (hc0_2 : l0_2.length ≤ c0_2) (h : spec_AreasOf.f k a0_0 a0_1 l0_2 = some (r1, r2)) :
  Calls Try.prog 17 #[.agg #[.int .i64 a0_0, .int .i64 a0_1, .slice A0_2 l0_2.length c0_2]] w fun e w' => ∃ v0_ : Value, e = .returned (.tuple #[v0_, .bool r2]) ∧ Kd.R (Kd.int .i64) 3 w' w.heap.size (fun _ => True) v0_ r1 ∧ Below w.heap.size w w' := by
 have hu26 := Try.underlying26
 have HR0_2 := Aside0.mk hr0_2
 have HC0_2 := Aside0.mk hc0_2
 clear hr0_2 hc0_2
 have HB := Aside0.mk (Below.refl w.heap.size w)
 have H : ((some (([] : List Int) : List Int)).bind fun y472 => ((spec_l13Good.f k a0_0 a0_1 l0_2).bind fun t475 => (if t475 = true then (spec_AreasOf.l0 k y472 1 a0_0 a0_1 l0_2) else (some (y472, false))))) = some (r1, r2) := h
 clear h
 obtain ⟨y472, hy472⟩ : ∃ y_ : List Int, y_ = (([] : List Int)) := ⟨_, rfl⟩
 replace H : ((spec_l13Good.f k a0_0 a0_1 l0_2).bind fun t475 => (if t475 = true then (spec_AreasOf.l0 k y472 1 a0_0 a0_1 l0_2) else (some (y472, false)))) = some (r1, r2) := zqH hy472 H
 have Ny472 := Aside0.mk hy472
 clear hy472
 replace H := Option.bind_eq_some_iff.mp H
 obtain ⟨t475, A20, H⟩ := H
 replace H : (if t475 = true then (spec_AreasOf.l0 k y472 1 a0_0 a0_1 l0_2) else (some (y472, false))) = some (r1, r2) := H
 have A2 := Aside0.mk A20
 clear A20
 by_cases c3 : t475 = true
 case neg =>
  replace c3 := Bool.eq_false_iff.mpr c3
  subst c3
  have H1 : (some (y472, false)) = some (r1, r2) := by rw [if_neg (show ¬ (false = true) by decide)] at H; exact H
  clear H
  have H := H1
  clear H1
  simp only [Option.some.injEq, Prod.mk.injEq] at H
  obtain ⟨rfl, rfl⟩ := H
  go_enter Try.func17, Try.ntmps17
  go_wp2_with (first | ((with_reducible refine gate_dst (N := 1) rfl ?_); refine box_event ?hg (N := 1) ?hd (cs := #[.int .i64 a0_0, .int .i64 a0_1, .slice A0_2 l0_2.length c0_2]) (t := 26) ?hr ?_; (case hd => rfl); (case hg => rfl); (case hr => exact zqS); intro gb471 hg w16 hbox hb; have BK471 := Aside0.mk (hbox); have GW471 := Aside0.mk ((by rw [hg]; exact (below_size zq0) : w.heap.size ≤ gb471)); replace HB := Aside0.mk (below_step zq0 hb); have GE471 := GW471; clear hb hbox hg) | ((with_reducible refine gate_dst (N := 6) rfl ?_); refine Kd.R_lit (Kd.int .i64) _ 3 ?hg (N := 6) ?hd (xs := ([] : List Int)) (inner := []) (ok := fun _ => True) (okp := fun _ => True) ?hr ?hp (fun _ hk => hk) trivial (Below.refl _ _) (Nat.le_refl _) (by simp) ?_; (case hd => rfl); (case hg => rfl); (case hr => exact zqS); (case hp => exact (Reps.none _ _)); intro v473 w17 ho18 hb hg_ hnew_; clear hg_ hnew_; (first | rw [← Ny472.out] at ho18 | (simp only [Int.reduceToNat] at ho18; rw [← Ny472.out] at ho18)); have HO474 := Aside0.mk (Kd.R_lower ho18 (below_size zq20)); replace BK471 := Aside0.mk (blk_below (g := gb471) (o := .cells #[.int .i64 a0_0, .int .i64 a0_1, .slice A0_2 l0_2.length c0_2] 26 (0, 0)) (zqK BK471.out) hb); replace HB := Aside0.mk (below_step zq20 hb); clear hb ho18; have hcz19_0 := bz BK471.out 0 (.int .i64 a0_0); have hcz19_1 := bz BK471.out 1 (.int .i64 a0_1); have hcz19_2 := bz BK471.out 2 (.slice A0_2 l0_2.length c0_2); have hfz19_0 := blk_frozen BK471.out 0; have hfz19_1 := blk_frozen BK471.out 1; have hfz19_2 := blk_frozen BK471.out 2) | ((with_reducible refine gate_callee (f := 34) rfl ?_); refine goesL_ (some 8) rfl rfl Try.func34 (by kernel_rfl) rfl #[.agg #[.int .i64 a0_0, .int .i64 a0_1, .slice A0_2 l0_2.length c0_2]] rfl zq1 ?_; (with_reducible refine (spec_l13Good.calls k a0_0 a0_1 _ _ l0_2 false _ ?side1 ?side2 A2.out).mono ?_); (case side1 => exact zqC (Kd.C_below HR0_2.out HB.out)); (case side2 => exact HC0_2.out); rintro e w20 ⟨rfl, hb⟩; refine ⟨_, rfl, ?_⟩; replace HO474 := Aside0.mk (Kd.R_below (zqR HO474.out) hb); replace BK471 := Aside0.mk (blk_below (g := gb471) (o := .cells #[.int .i64 a0_0, .int .i64 a0_1, .slice A0_2 l0_2.length c0_2] 26 (0, 0)) (zqK BK471.out) hb); replace HB := Aside0.mk (below_step zq20 hb); (try clear hb); (try clear hb2); (try clear hk); (try clear hi)))
  go_ret2
  exact ⟨_, by first | rfl | (simp [errW_none, errW_some] <;> rfl) | (simp [*, errW_none, errW_some] <;> rfl), zqR HO474.out, zq20⟩
 subst c3
 have H1 : (spec_AreasOf.l0 k y472 1 a0_0 a0_1 l0_2) = some (r1, r2) := by rw [if_pos rfl] at H; exact H
 clear H
 have H := H1
 clear H1
 have H' := Aside0.mk H
 clear H
 go_enter Try.func17, Try.ntmps17
 go_wp2_with (first | ((with_reducible refine gate_dst (N := 1) rfl ?_); refine box_event ?hg (N := 1) ?hd (cs := #[.int .i64 a0_0, .int .i64 a0_1, .slice A0_2 l0_2.length c0_2]) (t := 26) ?hr ?_; (case hd => rfl); (case hg => rfl); (case hr => exact zqS); intro gb471 hg w4 hbox hb; have BK471 := Aside0.mk (hbox); have GW471 := Aside0.mk ((by rw [hg]; exact (below_size zq0) : w.heap.size ≤ gb471)); replace HB := Aside0.mk (below_step zq0 hb); have GE471 := GW471; clear hb hbox hg) | ((with_reducible refine gate_dst (N := 6) rfl ?_); refine Kd.R_lit (Kd.int .i64) _ 3 ?hg (N := 6) ?hd (xs := ([] : List Int)) (inner := []) (ok := fun _ => True) (okp := fun _ => True) ?hr ?hp (fun _ hk => hk) trivial (Below.refl _ _) (Nat.le_refl _) (by simp) ?_; (case hd => rfl); (case hg => rfl); (case hr => exact zqS); (case hp => exact (Reps.none _ _)); intro v473 w5 ho6 hb hg_ hnew_; clear hg_ hnew_; (first | rw [← Ny472.out] at ho6 | (simp only [Int.reduceToNat] at ho6; rw [← Ny472.out] at ho6)); have HO474 := Aside0.mk (Kd.R_lower ho6 (below_size zq20)); replace BK471 := Aside0.mk (blk_below (g := gb471) (o := .cells #[.int .i64 a0_0, .int .i64 a0_1, .slice A0_2 l0_2.length c0_2] 26 (0, 0)) (zqK BK471.out) hb); replace HB := Aside0.mk (below_step zq20 hb); clear hb ho6; have hcz7_0 := bz BK471.out 0 (.int .i64 a0_0); have hcz7_1 := bz BK471.out 1 (.int .i64 a0_1); have hcz7_2 := bz BK471.out 2 (.slice A0_2 l0_2.length c0_2); have hfz7_0 := blk_frozen BK471.out 0; have hfz7_1 := blk_frozen BK471.out 1; have hfz7_2 := blk_frozen BK471.out 2) | ((with_reducible refine gate_callee (f := 34) rfl ?_); refine goesL_ (some 8) rfl rfl Try.func34 (by kernel_rfl) rfl #[.agg #[.int .i64 a0_0, .int .i64 a0_1, .slice A0_2 l0_2.length c0_2]] rfl zq1 ?_; (with_reducible refine (spec_l13Good.calls k a0_0 a0_1 _ _ l0_2 true _ ?side1 ?side2 A2.out).mono ?_); (case side1 => exact zqC (Kd.C_below HR0_2.out HB.out)); (case side2 => exact HC0_2.out); rintro e w8 ⟨rfl, hb⟩; refine ⟨_, rfl, ?_⟩; replace HO474 := Aside0.mk (Kd.R_below (zqR HO474.out) hb); replace BK471 := Aside0.mk (blk_below (g := gb471) (o := .cells #[.int .i64 a0_0, .int .i64 a0_1, .slice A0_2 l0_2.length c0_2] 26 (0, 0)) (zqK BK471.out) hb); replace HB := Aside0.mk (below_step zq20 hb); (try clear hb); (try clear hb2); (try clear hk); (try clear hi)))
 go_loopg [4, 5] k (fun kq v4 v5 w' => ∃ (x4_1 : List Int) (x5_1 : Int), v5 = .int .i64 x5_1 ∧ Aside0 (spec_AreasOf.l0 kq x4_1 x5_1 a0_0 a0_1 l0_2 = some (r1, r2)) ∧ Aside0 (kq ≤ k) ∧ Aside0 (Kd.R (Kd.int .i64) 3 w' w.heap.size (fun _ => True) v4 x4_1) ∧ Aside0 (w'.heap[gb471]? = some (.cells #[.int .i64 a0_0, .int .i64 a0_1, (.slice A0_2 l0_2.length c0_2)] 26 (0, 0))) ∧ Aside0 (Below w.heap.size w w'))
 case atStart => exact ⟨(y472), (1), (by first | rfl | (simp; done) | (simp [*]; done)), H', ⟨Nat.le_refl _⟩, ⟨zqR HO474.out⟩, ⟨by (with_reducible repeat (first | refine blk_drewN ?_ _ | refine blk_drew ?_ | refine blk_alloc ?_ _)); exact BK471.out⟩, ⟨zq20⟩⟩
 clear H'
 try clear c1
 try clear p2
 try clear c3
 try clear hcz7_0
 try clear hcz7_1
 try clear hcz7_2
 try clear hfz7_0
 try clear hfz7_1
 try clear hfz7_2
 obtain ⟨x4_1, x5_1, rfl, HA, HK1, HO_4, BK471, HB⟩ := hrel
 cases gk with
 | zero => exact absurd HA.out (by simp [spec_AreasOf.l0])
 | succ k1 =>
  have H := HA.out
  clear HA
  simp only [spec_AreasOf.l0] at H
  by_cases c9 : x5_1 ≤ 9
  case neg =>
   rw [if_neg c9] at H
   have c9b0 : decide (x5_1 ≤ 9) = false := decide_eq_false c9
   clear c9
   simp only [Option.some.injEq, Prod.mk.injEq] at H
   obtain ⟨rfl, rfl⟩ := H
   go_wp2
   go_ret2
   exact ⟨_, by first | rfl | (simp [errW_none, errW_some] <;> rfl) | (simp [*, errW_none, errW_some] <;> rfl), zqR HO_4.out, zq20⟩
  rw [if_pos c9] at H
  have c9b0 : decide (x5_1 ≤ 9) = true := decide_eq_true c9
  clear c9
  replace H := Option.bind_eq_some_iff.mp H
  obtain ⟨t476, A100, H⟩ := H
  replace H : (if t476 = true then (if x4_1.length < 17592186044416 then (spec_AreasOf.l0 k1 (x4_1 ++ [x5_1]) (wrap64 (x5_1 + 1)) a0_0 a0_1 l0_2) else (none)) else (spec_AreasOf.l0 k1 x4_1 (wrap64 (x5_1 + 1)) a0_0 a0_1 l0_2)) = some (r1, r2) := H
  have A10 := Aside0.mk A100
  clear A100
  by_cases c11 : t476 = true
  case neg =>
   replace c11 := Bool.eq_false_iff.mpr c11
   subst c11
   have H1 : (spec_AreasOf.l0 k1 x4_1 (wrap64 (x5_1 + 1)) a0_0 a0_1 l0_2) = some (r1, r2) := by rw [if_neg (show ¬ (false = true) by decide)] at H; exact H
   clear H
   have H := H1
   clear H1
   have H' := Aside0.mk H
   clear H
   have hcz15_0 := bz BK471.out 0 (.int .i64 a0_0)
   have hcz15_1 := bz BK471.out 1 (.int .i64 a0_1)
   have hcz15_2 := bz BK471.out 2 (.slice A0_2 l0_2.length c0_2)
   have hfz15_0 := blk_frozen BK471.out 0
   have hfz15_1 := blk_frozen BK471.out 1
   have hfz15_2 := blk_frozen BK471.out 2
   go_wp2_with (first | ((with_reducible refine gate_callee (f := 35) rfl ?_); refine goesL_ (some 18) rfl rfl Try.func35 (by kernel_rfl) rfl #[.slice A0_2 l0_2.length c0_2, .int .i64 x5_1] rfl zq1 ?_; (with_reducible refine (spec_l1Has.calls k1 _ _ l0_2 x5_1 false _ ?side1 ?side2 A10.out).mono ?_); (case side1 => exact zqC (Kd.C_below HR0_2.out HB.out)); (case side2 => exact HC0_2.out); rintro e w' ⟨rfl, ⟨nd, rfl⟩⟩; refine ⟨_, rfl, ?_⟩))
   go_roundg k1
   case measure => have := HK1.out; omega
   case rel => exact ⟨(x4_1), (wrap64 (x5_1 + 1)), (by first | rfl | (simp; done) | (simp [*]; done)), H', ⟨by have := HK1.out; omega⟩, ⟨zqR HO_4.out⟩, ⟨by (with_reducible repeat (first | refine blk_drewN ?_ _ | refine blk_drew ?_ | refine blk_alloc ?_ _)); exact BK471.out⟩, ⟨zq20⟩⟩
  subst c11
  have H1 : (if x4_1.length < 17592186044416 then (spec_AreasOf.l0 k1 (x4_1 ++ [x5_1]) (wrap64 (x5_1 + 1)) a0_0 a0_1 l0_2) else (none)) = some (r1, r2) := by rw [if_pos rfl] at H; exact H
  clear H
  have H := H1
  clear H1
  by_cases c12 : x4_1.length < 17592186044416
  case neg =>
   rw [if_neg c12] at H
   exact absurd H (by simp)
  rw [if_pos c12] at H
  have LMc12 := Aside0.mk c12
  clear c12
  obtain ⟨y477, hy477⟩ : ∃ y_ : List Int, y_ = (x4_1 ++ [x5_1]) := ⟨_, rfl⟩
  replace H : (spec_AreasOf.l0 k1 y477 (wrap64 (x5_1 + 1)) a0_0 a0_1 l0_2) = some (r1, r2) := zqH hy477 H
  have Ny477 := Aside0.mk hy477
  clear hy477
  have H' := Aside0.mk H
  clear H
  have hcz13_0 := bz BK471.out 0 (.int .i64 a0_0)
  have hcz13_1 := bz BK471.out 1 (.int .i64 a0_1)
  have hcz13_2 := bz BK471.out 2 (.slice A0_2 l0_2.length c0_2)
  have hfz13_0 := blk_frozen BK471.out 0
  have hfz13_1 := blk_frozen BK471.out 1
  have hfz13_2 := blk_frozen BK471.out 2
  go_wp2_with (first | ((with_reducible refine gate_callee (f := 35) rfl ?_); refine goesL_ (some 18) rfl rfl Try.func35 (by kernel_rfl) rfl #[.slice A0_2 l0_2.length c0_2, .int .i64 x5_1] rfl zq1 ?_; (with_reducible refine (spec_l1Has.calls k1 _ _ l0_2 x5_1 true _ ?side1 ?side2 A10.out).mono ?_); (case side1 => exact zqC (Kd.C_below HR0_2.out HB.out)); (case side2 => exact HC0_2.out); rintro e w' ⟨rfl, ⟨nd, rfl⟩⟩; refine ⟨_, rfl, ?_⟩) | ((with_reducible refine gate_builtin (b := .append) (xs := #[.tmp 19, .tmp 21]) rfl ?_); at_builtin; refine Kd.R_append (Kd.int .i64) (w0 := w) w.heap.size rfl (.tmp 19) (.tmp 21) 24 3 (.int .i64 0) 8 rfl Try.underlying24 info3 rfl (by decide) (by omega) u4 x4_1 x5_1 [.int .i64 x5_1] (fun _ => True) (fun _ => False) rfl rfl ?aP (fun _ hk => hk.elim) ?aF ?aO ?aB ?aS ?aL ?_; (case aP => exact rfl); (case aB => exact zq20); (case aF => exact (fun _ _ => trivial)); (case aO => exact (zqR HO_4.out)); (case aS => exact (below_size zq20)); (case aL => have := LMc12.out; omega); intro v478 w14 ho hb hg hat; rw [← Ny477.out] at ho; replace BK471 := Aside0.mk (blk_grown (g := gb471) (o := .cells #[.int .i64 a0_0, .int .i64 a0_1, .slice A0_2 l0_2.length c0_2] 26 (0, 0)) (zqK BK471.out) hg (Kd.R_ne HO_4.out BK471.out (by decide))); replace HB := Aside0.mk (hb); have HO479 := Aside0.mk (ho); clear HO_4; clear ho hb hg hat))
  go_roundg k1
  case measure => have := HK1.out; omega
  case rel => exact ⟨(y477), (wrap64 (x5_1 + 1)), (by first | rfl | (simp; done) | (simp [*]; done)), H', ⟨by have := HK1.out; omega⟩, ⟨zqR HO479.out⟩, ⟨by (with_reducible repeat (first | refine blk_drewN ?_ _ | refine blk_drew ?_ | refine blk_alloc ?_ _)); exact BK471.out⟩, ⟨zq20⟩⟩
-- What the law computes.
/-! ### laws_FnAreas: function 3 -/
mutual
def laws_FnAreas.j0 : Nat → List Int → Int → Int → Bool → Bool → Int → Int → List Int → Int → Int → List Int → Option (Bool)
 | 0, _, _, _, _, _, _, _, _, _, _, _ => none
 | k + 1, x0, x4, x5, x7, x72, x489000, x489001, x489002, x496000, x496001, x496002 => if x72 = true then (none) else ((impl_CommonSides.f k x489000 x489001 x489002 x4 x5).bind fun bt504 => ((spec_CommonSides.f k x489000 x489001 x489002 x4 x5).bind fun bt506 => (if bt504.1 = bt506.1 then (if (bt504.2 != bt506.2) = true then (none) else (laws_FnAreas.j1 k x0 x4 x5 x7 bt504.1 (bt504.2 != x7) x489000 x489001 x489002 x496000 x496001 x496002)) else (none))))
def laws_FnAreas.j1 : Nat → List Int → Int → Int → Bool → Int → Bool → Int → Int → List Int → Int → Int → List Int → Option (Bool)
 | 0, _, _, _, _, _, _, _, _, _, _, _, _ => none
 | k + 1, x0, x4, x5, x7, x10, x99, x489000, x489001, x489002, x496000, x496001, x496002 => if x99 = true then (none) else (if x7 = true then ((impl_AreaCells.f k x489000 x489001 x489002 x4).bind fun bt508 => ((impl_AreaCells.f k x489000 x489001 x489002 x5).bind fun bt510 => ((impl_AreaCells.f k x496000 x496001 x496002 x4).bind fun bt512 => ((impl_AreaCells.f k x496000 x496001 x496002 x5).bind fun bt514 => ((impl_NeighborsOf.f k x489000 x489001 x489002 x4).bind fun bt516 => ((impl_NeighborsOf.f k x489000 x489001 x489002 x5).bind fun bt520 => (if bt508.2 = true then (if bt510.2 = true then (if bt512.2 = true then (if bt514.2 = true then (none) else (if bt516.2 = true then (if bt520.2 = true then (if bt512.1 = (wrap64 (bt508.1 + bt510.1)) then ((laws_rHas.f k bt516.1 x5).bind fun t524 => (if (t524 != (decide (x10 > 0))) = true then (none) else ((laws_rHas.f k bt520.1 x4).bind fun t525 => (laws_FnAreas.j2 k x0 x4 x5 x10 (t525 != (decide (x10 > 0))) x489000 x489001 x489002 x496000 x496001 x496002)))) else (none)) else (none)) else (none))) else (none)) else (none)) else (none)))))))) else (laws_FnAreas.j3 k x0))
def laws_FnAreas.j3 : Nat → List Int → Option (Bool)
 | 0, _ => none
 | k + 1, x0 => (spec_DrawAreasOf.f k x0).bind fun bt532 => ((impl_AreasOf.f k bt532.1 bt532.2.1 bt532.2.2).bind fun bt538 => ((spec_AreasOf.f k bt532.1 bt532.2.1 bt532.2.2).bind fun bt542 => (if (bt538.2 != bt542.2) = true then (none) else ((laws_rInts.f k bt538.1 bt542.1).bind fun t546 => (if t546 = true then ((impl_IsValidAreaMap.f k bt532.1 bt532.2.1 bt532.2.2).bind fun t547 => (laws_FnAreas.j4 k bt538.1 bt538.2 (bt538.2 != t547) bt532.1 bt532.2.1 bt532.2.2)) else (none))))))
def laws_FnAreas.j4 : Nat → List Int → Bool → Bool → Int → Int → List Int → Option (Bool)
 | 0, _, _, _, _, _, _ => none
 | k + 1, x33, x34, x247, x538000, x538001, x538002 => if x247 = true then (none) else (laws_FnAreas.l0 k x33 x34 0 0 x538000 x538001 x538002)
def laws_FnAreas.l0 : Nat → List Int → Bool → Int → Int → Int → Int → List Int → Option (Bool)
 | 0, _, _, _, _, _, _, _ => none
 | k + 1, x33, x34, x37, x38, x538000, x538001, x538002 => if x38 < (x33.length : Int) then (if 0 ≤ x38 then ((impl_AreaCells.f k x538000 x538001 x538002 (rd x33 x38)).bind fun bt549 => (if bt549.2 = true then (if bt549.1 < 1 then (none) else (laws_FnAreas.l0 k x33 x34 (wrap64 (x37 + bt549.1)) (wrap64 (x38 + 1)) x538000 x538001 x538002)) else (none))) else (none)) else (laws_FnAreas.l1 k x34 x37 0 x538000 x538001 x538002)
def laws_FnAreas.l1 : Nat → Bool → Int → Int → Int → Int → List Int → Option (Bool)
 | 0, _, _, _, _, _, _ => none
 | k + 1, x34, x37, x41, x538000, x538001, x538002 => if x41 < (x538002.length : Int) then (laws_FnAreas.j7 k x34 x37 x41 x34 x538000 x538001 x538002) else (laws_FnAreas.j7 k x34 x37 x41 false x538000 x538001 x538002)
def laws_FnAreas.j7 : Nat → Bool → Int → Int → Bool → Int → Int → List Int → Option (Bool)
 | 0, _, _, _, _, _, _, _ => none
 | k + 1, x34, x37, x41, x279, x538000, x538001, x538002 => if x279 = true then (if 0 ≤ x41 then (if x41 < (x538002.length : Int) then (if (rd x538002 x41) = 0 then (laws_FnAreas.l1 k x34 (wrap64 (x37 + 1)) (wrap64 (x41 + 1)) x538000 x538001 x538002) else (laws_FnAreas.l1 k x34 x37 (wrap64 (x41 + 1)) x538000 x538001 x538002)) else (none)) else (none)) else (if x34 = true then (some (x37 == (x538002.length : Int))) else (some true))
def laws_FnAreas.j2 : Nat → List Int → Int → Int → Int → Bool → Int → Int → List Int → Int → Int → List Int → Option (Bool)
 | 0, _, _, _, _, _, _, _, _, _, _, _ => none
 | k + 1, x0, x4, x5, x10, x180, x489000, x489001, x489002, x496000, x496001, x496002 => if x180 = true then (none) else ((impl_IsConnectedArea.f k x489000 x489001 x489002 x4).bind fun bt526 => ((impl_IsConnectedArea.f k x489000 x489001 x489002 x5).bind fun bt528 => ((impl_IsConnectedArea.f k x496000 x496001 x496002 x4).bind fun bt530 => (if bt526.2 = true then (if bt528.2 = true then (if bt530.2 = true then (if bt526.1 = true then (if bt528.1 = true then (if (bt530.1 != (decide (x10 > 0))) = true then (none) else (laws_FnAreas.j3 k x0)) else (laws_FnAreas.j3 k x0)) else (laws_FnAreas.j3 k x0)) else (none)) else (none)) else (none)))))
end
def laws_FnAreas.f (k : Nat) (l0 : List Int) : Option (Bool) := (laws_rBig.f l0).bind fun t480 => (if t480 = true then (some true) else ((spec_DrawMergeAreas.f k l0).bind fun bt481 => ((impl_MergeAreas.f k bt481.1 bt481.2.1 bt481.2.2.1 bt481.2.2.2.1 bt481.2.2.2.2).bind fun bt489 => ((spec_MergeAreas.f k bt481.1 bt481.2.1 bt481.2.2.1 bt481.2.2.2.1 bt481.2.2.2.2).bind fun bt496 => (if (bt489.2.2.2 != bt496.2.2.2) = true then (none) else ((laws_rMaps.f k bt489.1 bt489.2.1 bt489.2.2.1 bt496.1 bt496.2.1 bt496.2.2.1).bind fun t503 => (laws_FnAreas.j0 k l0 bt481.2.2.2.1 bt481.2.2.2.2 bt489.2.2.2 (!t503) bt481.1 bt481.2.1 bt481.2.2.1 bt489.1 bt489.2.1 bt489.2.2.1)))))))
def laws_FnAreas.T35 : Bool × List (List Nat × List Nat) := (true, [([], []), ([], []), ([], []), ([1, 2], [1, 2]), ([3], [3]), ([0, 4], [0, 4]), ([5], [5]), ([6], [6]), ([6], [6]), ([7, 5, 0, 1, 2, 3, 4, 5, 6, 7], [7]), ([8, 9, 0, 1, 2, 3, 4, 5, 6, 7, 8, 9], [8])])
def laws_FnAreas.B35 : List Nat := [0, 0, 0, 6, 14, 31, 63, 127, 127, 255, 1023]
theorem laws_FnAreas.tab35 : rtab .any (opsOf Try.f3 35) = laws_FnAreas.T35 := by kernel_rfl
theorem laws_FnAreas.bits35 : waitsOk laws_FnAreas.T35.2 laws_FnAreas.B35 = true := by kernel_rfl
def seqR : Code → Code
 | .seq _ b => b
 | c => c
def seqL : Code → Code
 | .seq a _ => a
 | c => c
noncomputable def laws_FnAreas.midC : Code := seqR (seqL (seqR (seqR (seqR (seqR (seqR (seqR (seqR (Try.f3.body.getD .skip)))))))))
noncomputable def laws_FnAreas.tailC : Code := seqR (seqR (seqR (seqR (seqR (seqR (seqR (seqR (Try.f3.body.getD .skip))))))))
end Go.Proofs.Ytoaclbbkllpdaaa.Q
