/- Texts of this claim, put together: walks of the program's functions, and plain facts. -/
import Derived.Test.YtfaihkhdbapjmaaZFnAffected
import Derived.Test.YtfaihkhdbapjmaaBFnAffected0
import Derived.Test.YtfaihkhdbapjmaaBFnAffected2
import Derived.Test.YtfaihkhdbapjmaaBFnAffected6
import Derived.Test.YtfaihkhdbapjmaaBFnAffected8
import Derived.Test.YtfaihkhdbapjmaaBFnAffected9
import Derived.Test.YtfaihkhdbapjmaaBFnAffected10
namespace Go.Proofs.Ytfaihkhdbapjmaa.Q
open Go.RowKit Go.Proofs.YtfaihkhdbapjmaaW.PrintWords Go.Proofs.YtfaihkhdbapjmaaW.PrintLast Go.Proofs.YtfaihkhdbapjmaaW.PrintMore
attribute [local go_sem] max2_int min2_int max_two min_two max_three min_three max_four min_four
set_option linter.unusedVariables false
set_option linter.unusedSimpArgs false
def impl_AreaCoverage.j0 : Nat → Int → Int → Bool → Int → Int → List Int → Int → Int → List Int → Option (Int × Int × Bool)
 | 0, _, _, _, _, _, _, _, _, _ => none
 | k + 1, x1, x3, x27, x398000, x398001, x398002, x399000, x399001, x399002 => if x27 = true then (some (0, 0, false)) else ((impl_areaValues.f k x398000 x398001 x398002 x1 x399000 x399001 x399002).bind fun t405 => ((impl_countAtLeast.f k t405 x3).bind fun t408 => (some (t408, (t405.length : Int), true))))
def impl_AreaCoverage.f (k : Nat) (a0_0 : Int) (a0_1 : Int) (l0_2 : List Int) (a1 : Int) (a2_0 : Int) (a2_1 : Int) (l2_2 : List Int) (a3 : Int) : Option (Int × Int × Bool) := (impl_hasAreas.f k a0_0 a0_1 l0_2 (([a1] : List Int))).bind fun t402 => (if t402 = true then ((impl_fitsMap.f a0_0 a0_1 l0_2 a2_0 a2_1 l2_2).bind fun t403 => (if t403 = true then ((impl_within.f a3 (-9000) 9000).bind fun t404 => (impl_AreaCoverage.j0 k a1 a3 (!t404) a0_0 a0_1 l0_2 a2_0 a2_1 l2_2)) else (impl_AreaCoverage.j0 k a1 a3 true a0_0 a0_1 l0_2 a2_0 a2_1 l2_2))) else (impl_AreaCoverage.j0 k a1 a3 true a0_0 a0_1 l0_2 a2_0 a2_1 l2_2))
set_option maxHeartbeats 8000000 in
set_option maxRecDepth 100000 in
theorem impl_AreaCoverage.calls (k : Nat) (a0_0 : Int) (a0_1 : Int) (A0_2 : Option Addr) (c0_2 : Nat) (l0_2 : List Int) (a1 : Int) (a2_0 : Int) (a2_1 : Int) (A2_2 : Option Addr) (c2_2 : Nat) (l2_2 : List Int) (a3 : Int) (r1 : Int) (r2 : Int) (r3 : Bool) (w : World) (hr0_2 : Kd.C (Kd.int .i64) w A0_2 l0_2.length l0_2) (hc0_2 : l0_2.length ≤ c0_2) (hr2_2 : Kd.C (Kd.int .i64) w A2_2 l2_2.length l2_2) (hc2_2 : l2_2.length ≤ c2_2) (h : impl_AreaCoverage.f k a0_0 a0_1 l0_2 a1 a2_0 a2_1 l2_2 a3 = some (r1, r2, r3)) :
  Calls Try.prog 10 #[.agg #[.int .i64 a0_0, .int .i64 a0_1, .slice A0_2 l0_2.length c0_2], .int .i64 a1, .agg #[.int .i64 a2_0, .int .i64 a2_1, .slice A2_2 l2_2.length c2_2], .int .i64 a3] w fun e w' => e = .returned (.tuple #[.int .i64 r1, .int .i64 r2, .bool r3]) ∧ Below w.heap.size w w' := by
 have hu26 := Try.underlying26
 have hu27 := Try.underlying27
 have HR0_2 := zm hr0_2
 have HC0_2 := zm hc0_2
 clear hr0_2 hc0_2
 have HR2_2 := zm hr2_2
 have HC2_2 := zm hc2_2
 clear hr2_2 hc2_2
 have HB := zm (Below.refl w.heap.size w)
 have H : ((impl_hasAreas.f k a0_0 a0_1 l0_2 (([a1] : List Int))).bind fun t402 => (if t402 = true then ((impl_fitsMap.f a0_0 a0_1 l0_2 a2_0 a2_1 l2_2).bind fun t403 => (if t403 = true then ((impl_within.f a3 (-9000) 9000).bind fun t404 => (impl_AreaCoverage.j0 k a1 a3 (!t404) a0_0 a0_1 l0_2 a2_0 a2_1 l2_2)) else (impl_AreaCoverage.j0 k a1 a3 true a0_0 a0_1 l0_2 a2_0 a2_1 l2_2))) else (impl_AreaCoverage.j0 k a1 a3 true a0_0 a0_1 l0_2 a2_0 a2_1 l2_2))) = some (r1, r2, r3) := h
 clear h
 have HC5 := zm H
 clear H
 go_enter Try.func10, Try.ntmps10
 go_upto_region 1 with (first | ((with_reducible refine gate_dst (N := 4) rfl ?_); refine box_event ?hg (N := 4) ?hd (cs := #[.int .i64 a0_0, .int .i64 a0_1, .slice A0_2 l0_2.length c0_2]) (t := 26) ?hr ?_; (case hd => rfl); (case hg => rfl); (case hr => exact zqS); intro gb397 hg w6 hbox hb; have BK397 := zm (hbox); have GW397 := zm ((by rw [hg]; exact (zyi zq1) : w.heap.size ≤ gb397)); replace HB := zm (zyh zq1 hb); have GE397 := GW397; clear hb hbox hg) | ((with_reducible refine gate_dst (N := 6) rfl ?_); refine box_event ?hg (N := 6) ?hd (cs := #[.int .i64 a2_0, .int .i64 a2_1, .slice A2_2 l2_2.length c2_2]) (t := 27) ?hr ?_; (case hd => rfl); (case hg => rfl); (case hr => exact zqS); intro gb398 hg w7 hbox hb; have BK398 := zm (hbox); have GW398 := zm ((by rw [hg]; exact (zyi zq101) : w.heap.size ≤ gb398)); replace HB := zm (zyh zq101 hb); have GE398 := GW398; have NB397_398 := zm ((by rw [hg]; exact Nat.ne_of_lt (blk_lt (g := gb397) (o := .cells #[.int .i64 a0_0, .int .i64 a0_1, .slice A0_2 l0_2.length c0_2] 26 (0, 0)) (zqK BK397.out)) : gb397 ≠ gb398)); have NB398_397 := zm ((by rw [hg]; exact Nat.ne_of_gt (blk_lt (g := gb397) (o := .cells #[.int .i64 a0_0, .int .i64 a0_1, .slice A0_2 l0_2.length c0_2] 26 (0, 0)) (zqK BK397.out)) : gb398 ≠ gb397)); replace BK397 := zm (zyb (g := gb397) (o := .cells #[.int .i64 a0_0, .int .i64 a0_1, .slice A0_2 l0_2.length c0_2] 26 (0, 0)) (zqK BK397.out) hb); clear hb hbox hg))
 (try simp only [Act.put, List.setIfInBounds_toArray, List.set_cons_zero, List.set_cons_succ])
 go_cut [27] (fun v27 wc => ∃ (kq : Nat) (x27_4 : Bool), v27 = .bool x27_4 ∧ Aside0 (impl_AreaCoverage.j0 kq a1 a3 x27_4 a0_0 a0_1 l0_2 a2_0 a2_1 l2_2 = some (r1, r2, r3)) ∧ Aside0 (kq ≤ k) ∧ Aside0 (wc.heap[gb397]? = some (.cells #[.int .i64 a0_0, .int .i64 a0_1, (.slice A0_2 l0_2.length c0_2)] 26 (0, 0))) ∧ Aside0 (wc.heap[gb398]? = some (.cells #[.int .i64 a2_0, .int .i64 a2_1, (.slice A2_2 l2_2.length c2_2)] 27 (0, 0))) ∧ Aside0 (Below w.heap.size w wc))
 case first =>
  have H := HC5.out
  clear HC5
  obtain ⟨y399, hy399⟩ : ∃ y_ : List Int, y_ = (([a1] : List Int)) := ⟨_, rfl⟩
  replace H : ((impl_hasAreas.f k a0_0 a0_1 l0_2 y399).bind fun t402 => (if t402 = true then ((impl_fitsMap.f a0_0 a0_1 l0_2 a2_0 a2_1 l2_2).bind fun t403 => (if t403 = true then ((impl_within.f a3 (-9000) 9000).bind fun t404 => (impl_AreaCoverage.j0 k a1 a3 (!t404) a0_0 a0_1 l0_2 a2_0 a2_1 l2_2)) else (impl_AreaCoverage.j0 k a1 a3 true a0_0 a0_1 l0_2 a2_0 a2_1 l2_2))) else (impl_AreaCoverage.j0 k a1 a3 true a0_0 a0_1 l0_2 a2_0 a2_1 l2_2))) = some (r1, r2, r3) := zqH hy399 H
  have Ny399 := zm hy399
  clear hy399
  obtain ⟨t402, A80, H⟩ := zob H
  replace H : (if t402 = true then ((impl_fitsMap.f a0_0 a0_1 l0_2 a2_0 a2_1 l2_2).bind fun t403 => (if t403 = true then ((impl_within.f a3 (-9000) 9000).bind fun t404 => (impl_AreaCoverage.j0 k a1 a3 (!t404) a0_0 a0_1 l0_2 a2_0 a2_1 l2_2)) else (impl_AreaCoverage.j0 k a1 a3 true a0_0 a0_1 l0_2 a2_0 a2_1 l2_2))) else (impl_AreaCoverage.j0 k a1 a3 true a0_0 a0_1 l0_2 a2_0 a2_1 l2_2)) = some (r1, r2, r3) := H
  have A8 := zm A80
  clear A80
  by_cases c9 : t402 = true
  case neg =>
   replace c9 := Bool.eq_false_iff.mpr c9
   subst c9
   have H1 : (impl_AreaCoverage.j0 k a1 a3 true a0_0 a0_1 l0_2 a2_0 a2_1 l2_2) = some (r1, r2, r3) := by rw [if_neg (show ¬ (false = true) by decide)] at H; exact H
   clear H
   have H := H1
   clear H1
   have H' := zm H
   clear H
   have hnb31 := NB397_398.out
   have hnc31 := NB398_397.out
   have hcz32_0 := bz BK397.out 0 (.int .i64 a0_0)
   have hcz32_1 := bz BK397.out 1 (.int .i64 a0_1)
   have hcz32_2 := bz BK397.out 2 (.slice A0_2 l0_2.length c0_2)
   have hfz32_0 := zyF BK397.out 0
   have hfz32_1 := zyF BK397.out 1
   have hfz32_2 := zyF BK397.out 2
   go_wp2_with (first | ((with_reducible refine gate_dst (N := 14) rfl ?_); refine Kd.R_lit (Kd.int .i64) _ 3 ?hg (N := 14) ?hd (xs := ([a1] : List Int)) (inner := [.int .i64 a1]) (ok := fun _ => True) (okp := fun _ => True) ?hr ?hp (fun _ hk => hk) trivial (Below.refl _ _) (Nat.le_refl _) (by simp) ?_; (case hd => rfl); (case hg => rfl); (case hr => exact zqS); (case hp => exact (Reps.one (show Kd.M (Kd.int .i64) _ _ _ a1 [.int .i64 a1] from rfl) (Reps.none _ _))); intro v400 w33 ho34 hb hg_ hnew_; clear hg_ hnew_; (first | rw [← Ny399.out] at ho34 | (simp only [Int.reduceToNat] at ho34; rw [← Ny399.out] at ho34)); have HO401 := zm (Kd.R_lower ho34 (zyi zq18)); replace BK397 := zm (zyb (g := gb397) (o := .cells #[.int .i64 a0_0, .int .i64 a0_1, .slice A0_2 l0_2.length c0_2] 26 (0, 0)) (zqK BK397.out) hb); replace BK398 := zm (zyb (g := gb398) (o := .cells #[.int .i64 a2_0, .int .i64 a2_1, .slice A2_2 l2_2.length c2_2] 27 (0, 0)) (zqK BK398.out) hb); replace HB := zm (zyh zq18 hb); clear hb ho34; obtain ⟨Ao35, co35, eo35⟩ := Kd.R_slice HO401.out; subst eo35) | ((with_reducible refine zyg (f := 36) rfl ?_); refine goesL_ (some 15) rfl rfl Try.func36 (by kernel_rfl) rfl #[.agg #[.int .i64 a0_0, .int .i64 a0_1, .slice A0_2 l0_2.length c0_2], .slice Ao35 y399.length co35] rfl zq0 ?_; (with_reducible refine (impl_hasAreas.calls k a0_0 a0_1 _ _ l0_2 _ _ y399 false _ ?side1 ?side2 ?side3 ?side4 A8.out).mono ?_); (case side1 => exact zqC (Kd.C_below HR0_2.out HB.out)); (case side2 => exact HC0_2.out); (case side3 => exact zqC (Kd.R_reads' HO401.out).2.2); (case side4 => exact (Kd.R_reads' HO401.out).2.1); rintro e w36 ⟨rfl, hb⟩; refine ⟨_, rfl, ?_⟩; replace HO401 := zm (Kd.R_below (zqR HO401.out) hb); replace BK397 := zm (zyb (g := gb397) (o := .cells #[.int .i64 a0_0, .int .i64 a0_1, .slice A0_2 l0_2.length c0_2] 26 (0, 0)) (zqK BK397.out) hb); replace BK398 := zm (zyb (g := gb398) (o := .cells #[.int .i64 a2_0, .int .i64 a2_1, .slice A2_2 l2_2.length c2_2] 27 (0, 0)) (zqK BK398.out) hb); replace HB := zm (zyh zq18 hb); (try clear hb); (try clear hb2); (try clear hk); (try clear hi)))
   go_meet
   case rel => exact ⟨_, (true), (by first | rfl | (simp; done) | (simp [*]; done)), H', ⟨by first | omega | exact Nat.le_refl _⟩, ⟨by (with_reducible repeat (first | apply zN | apply zD | apply zL)); exact BK397.out⟩, ⟨by (with_reducible repeat (first | apply zN | apply zD | apply zL)); exact BK398.out⟩, ⟨zq18⟩⟩
  subst c9
  have H1 : ((impl_fitsMap.f a0_0 a0_1 l0_2 a2_0 a2_1 l2_2).bind fun t403 => (if t403 = true then ((impl_within.f a3 (-9000) 9000).bind fun t404 => (impl_AreaCoverage.j0 k a1 a3 (!t404) a0_0 a0_1 l0_2 a2_0 a2_1 l2_2)) else (impl_AreaCoverage.j0 k a1 a3 true a0_0 a0_1 l0_2 a2_0 a2_1 l2_2))) = some (r1, r2, r3) := by rw [if_pos rfl] at H; exact H
  clear H
  have H := H1
  clear H1
  obtain ⟨t403, A100, H⟩ := zob H
  replace H : (if t403 = true then ((impl_within.f a3 (-9000) 9000).bind fun t404 => (impl_AreaCoverage.j0 k a1 a3 (!t404) a0_0 a0_1 l0_2 a2_0 a2_1 l2_2)) else (impl_AreaCoverage.j0 k a1 a3 true a0_0 a0_1 l0_2 a2_0 a2_1 l2_2)) = some (r1, r2, r3) := H
  have A10 := zm A100
  clear A100
  by_cases c11 : t403 = true
  case neg =>
   replace c11 := Bool.eq_false_iff.mpr c11
   subst c11
   have H1 : (impl_AreaCoverage.j0 k a1 a3 true a0_0 a0_1 l0_2 a2_0 a2_1 l2_2) = some (r1, r2, r3) := by rw [if_neg (show ¬ (false = true) by decide)] at H; exact H
   clear H
   have H := H1
   clear H1
   have H' := zm H
   clear H
   have hnb22 := NB397_398.out
   have hnc22 := NB398_397.out
   have hcz23_0 := bz BK397.out 0 (.int .i64 a0_0)
   have hcz23_1 := bz BK397.out 1 (.int .i64 a0_1)
   have hcz23_2 := bz BK397.out 2 (.slice A0_2 l0_2.length c0_2)
   have hfz23_0 := zyF BK397.out 0
   have hfz23_1 := zyF BK397.out 1
   have hfz23_2 := zyF BK397.out 2
   go_wp2_with (first | ((with_reducible refine gate_dst (N := 14) rfl ?_); refine Kd.R_lit (Kd.int .i64) _ 3 ?hg (N := 14) ?hd (xs := ([a1] : List Int)) (inner := [.int .i64 a1]) (ok := fun _ => True) (okp := fun _ => True) ?hr ?hp (fun _ hk => hk) trivial (Below.refl _ _) (Nat.le_refl _) (by simp) ?_; (case hd => rfl); (case hg => rfl); (case hr => exact zqS); (case hp => exact (Reps.one (show Kd.M (Kd.int .i64) _ _ _ a1 [.int .i64 a1] from rfl) (Reps.none _ _))); intro v400 w24 ho25 hb hg_ hnew_; clear hg_ hnew_; (first | rw [← Ny399.out] at ho25 | (simp only [Int.reduceToNat] at ho25; rw [← Ny399.out] at ho25)); have HO401 := zm (Kd.R_lower ho25 (zyi zq18)); replace BK397 := zm (zyb (g := gb397) (o := .cells #[.int .i64 a0_0, .int .i64 a0_1, .slice A0_2 l0_2.length c0_2] 26 (0, 0)) (zqK BK397.out) hb); replace BK398 := zm (zyb (g := gb398) (o := .cells #[.int .i64 a2_0, .int .i64 a2_1, .slice A2_2 l2_2.length c2_2] 27 (0, 0)) (zqK BK398.out) hb); replace HB := zm (zyh zq18 hb); clear hb ho25; obtain ⟨Ao26, co26, eo26⟩ := Kd.R_slice HO401.out; subst eo26) | ((with_reducible refine zyg (f := 36) rfl ?_); refine goesL_ (some 15) rfl rfl Try.func36 (by kernel_rfl) rfl #[.agg #[.int .i64 a0_0, .int .i64 a0_1, .slice A0_2 l0_2.length c0_2], .slice Ao26 y399.length co26] rfl zq0 ?_; (with_reducible refine (impl_hasAreas.calls k a0_0 a0_1 _ _ l0_2 _ _ y399 true _ ?side1 ?side2 ?side3 ?side4 A8.out).mono ?_); (case side1 => exact zqC (Kd.C_below HR0_2.out HB.out)); (case side2 => exact HC0_2.out); (case side3 => exact zqC (Kd.R_reads' HO401.out).2.2); (case side4 => exact (Kd.R_reads' HO401.out).2.1); rintro e w27 ⟨rfl, hb⟩; refine ⟨_, rfl, ?_⟩; replace HO401 := zm (Kd.R_below (zqR HO401.out) hb); replace BK397 := zm (zyb (g := gb397) (o := .cells #[.int .i64 a0_0, .int .i64 a0_1, .slice A0_2 l0_2.length c0_2] 26 (0, 0)) (zqK BK397.out) hb); replace BK398 := zm (zyb (g := gb398) (o := .cells #[.int .i64 a2_0, .int .i64 a2_1, .slice A2_2 l2_2.length c2_2] 27 (0, 0)) (zqK BK398.out) hb); replace HB := zm (zyh zq18 hb); (try clear hb); (try clear hb2); (try clear hk); (try clear hi); have hcz28_0 := bz BK397.out 0 (.int .i64 a0_0); have hcz28_1 := bz BK397.out 1 (.int .i64 a0_1); have hcz28_2 := bz BK397.out 2 (.slice A0_2 l0_2.length c0_2); have hfz28_0 := zyF BK397.out 0; have hfz28_1 := zyF BK397.out 1; have hfz28_2 := zyF BK397.out 2; have hcz29_0 := bz BK398.out 0 (.int .i64 a2_0); have hcz29_1 := bz BK398.out 1 (.int .i64 a2_1); have hcz29_2 := bz BK398.out 2 (.slice A2_2 l2_2.length c2_2); have hfz29_0 := zyF BK398.out 0; have hfz29_1 := zyF BK398.out 1; have hfz29_2 := zyF BK398.out 2) | (go_at_call 21; (with_reducible refine (impl_fitsMap.calls a0_0 a0_1 _ _ l0_2 a2_0 a2_1 _ _ l2_2 false _ ?side1 ?side2 ?side3 ?side4 A10.out).mono ?_); (case side1 => exact zqC (Kd.C_below HR0_2.out HB.out)); (case side2 => exact HC0_2.out); (case side3 => exact zqC (Kd.C_below HR2_2.out HB.out)); (case side4 => exact HC2_2.out); rintro e w30 ⟨rfl, hb⟩; replace HO401 := zm (Kd.R_below (zqR HO401.out) hb); replace BK397 := zm (zyb (g := gb397) (o := .cells #[.int .i64 a0_0, .int .i64 a0_1, .slice A0_2 l0_2.length c0_2] 26 (0, 0)) (zqK BK397.out) hb); replace BK398 := zm (zyb (g := gb398) (o := .cells #[.int .i64 a2_0, .int .i64 a2_1, .slice A2_2 l2_2.length c2_2] 27 (0, 0)) (zqK BK398.out) hb); replace HB := zm (zyh zq18 hb); (try clear hb); (try clear hb2); (try clear hk); (try clear hi)))
   go_meet
   case rel => exact ⟨_, (true), (by first | rfl | (simp; done) | (simp [*]; done)), H', ⟨by first | omega | exact Nat.le_refl _⟩, ⟨by (with_reducible repeat (first | apply zN | apply zD | apply zL)); exact BK397.out⟩, ⟨by (with_reducible repeat (first | apply zN | apply zD | apply zL)); exact BK398.out⟩, ⟨zq18⟩⟩
  subst c11
  have H1 : ((impl_within.f a3 (-9000) 9000).bind fun t404 => (impl_AreaCoverage.j0 k a1 a3 (!t404) a0_0 a0_1 l0_2 a2_0 a2_1 l2_2)) = some (r1, r2, r3) := by rw [if_pos rfl] at H; exact H
  clear H
  have H := H1
  clear H1
  obtain ⟨t404, A120, H⟩ := zob H
  replace H : (impl_AreaCoverage.j0 k a1 a3 (!t404) a0_0 a0_1 l0_2 a2_0 a2_1 l2_2) = some (r1, r2, r3) := H
  have A12 := zm A120
  clear A120
  have H' := zm H
  clear H
  have hnb13 := NB397_398.out
  have hnc13 := NB398_397.out
  have hcz14_0 := bz BK397.out 0 (.int .i64 a0_0)
  have hcz14_1 := bz BK397.out 1 (.int .i64 a0_1)
  have hcz14_2 := bz BK397.out 2 (.slice A0_2 l0_2.length c0_2)
  have hfz14_0 := zyF BK397.out 0
  have hfz14_1 := zyF BK397.out 1
  have hfz14_2 := zyF BK397.out 2
  go_wp2_with (first | ((with_reducible refine gate_dst (N := 14) rfl ?_); refine Kd.R_lit (Kd.int .i64) _ 3 ?hg (N := 14) ?hd (xs := ([a1] : List Int)) (inner := [.int .i64 a1]) (ok := fun _ => True) (okp := fun _ => True) ?hr ?hp (fun _ hk => hk) trivial (Below.refl _ _) (Nat.le_refl _) (by simp) ?_; (case hd => rfl); (case hg => rfl); (case hr => exact zqS); (case hp => exact (Reps.one (show Kd.M (Kd.int .i64) _ _ _ a1 [.int .i64 a1] from rfl) (Reps.none _ _))); intro v400 w15 ho16 hb hg_ hnew_; clear hg_ hnew_; (first | rw [← Ny399.out] at ho16 | (simp only [Int.reduceToNat] at ho16; rw [← Ny399.out] at ho16)); have HO401 := zm (Kd.R_lower ho16 (zyi zq18)); replace BK397 := zm (zyb (g := gb397) (o := .cells #[.int .i64 a0_0, .int .i64 a0_1, .slice A0_2 l0_2.length c0_2] 26 (0, 0)) (zqK BK397.out) hb); replace BK398 := zm (zyb (g := gb398) (o := .cells #[.int .i64 a2_0, .int .i64 a2_1, .slice A2_2 l2_2.length c2_2] 27 (0, 0)) (zqK BK398.out) hb); replace HB := zm (zyh zq18 hb); clear hb ho16; obtain ⟨Ao17, co17, eo17⟩ := Kd.R_slice HO401.out; subst eo17) | ((with_reducible refine zyg (f := 36) rfl ?_); refine goesL_ (some 15) rfl rfl Try.func36 (by kernel_rfl) rfl #[.agg #[.int .i64 a0_0, .int .i64 a0_1, .slice A0_2 l0_2.length c0_2], .slice Ao17 y399.length co17] rfl zq0 ?_; (with_reducible refine (impl_hasAreas.calls k a0_0 a0_1 _ _ l0_2 _ _ y399 true _ ?side1 ?side2 ?side3 ?side4 A8.out).mono ?_); (case side1 => exact zqC (Kd.C_below HR0_2.out HB.out)); (case side2 => exact HC0_2.out); (case side3 => exact zqC (Kd.R_reads' HO401.out).2.2); (case side4 => exact (Kd.R_reads' HO401.out).2.1); rintro e w18 ⟨rfl, hb⟩; refine ⟨_, rfl, ?_⟩; replace HO401 := zm (Kd.R_below (zqR HO401.out) hb); replace BK397 := zm (zyb (g := gb397) (o := .cells #[.int .i64 a0_0, .int .i64 a0_1, .slice A0_2 l0_2.length c0_2] 26 (0, 0)) (zqK BK397.out) hb); replace BK398 := zm (zyb (g := gb398) (o := .cells #[.int .i64 a2_0, .int .i64 a2_1, .slice A2_2 l2_2.length c2_2] 27 (0, 0)) (zqK BK398.out) hb); replace HB := zm (zyh zq18 hb); (try clear hb); (try clear hb2); (try clear hk); (try clear hi); have hcz19_0 := bz BK397.out 0 (.int .i64 a0_0); have hcz19_1 := bz BK397.out 1 (.int .i64 a0_1); have hcz19_2 := bz BK397.out 2 (.slice A0_2 l0_2.length c0_2); have hfz19_0 := zyF BK397.out 0; have hfz19_1 := zyF BK397.out 1; have hfz19_2 := zyF BK397.out 2; have hcz20_0 := bz BK398.out 0 (.int .i64 a2_0); have hcz20_1 := bz BK398.out 1 (.int .i64 a2_1); have hcz20_2 := bz BK398.out 2 (.slice A2_2 l2_2.length c2_2); have hfz20_0 := zyF BK398.out 0; have hfz20_1 := zyF BK398.out 1; have hfz20_2 := zyF BK398.out 2) | (go_at_call 21; (with_reducible refine (impl_fitsMap.calls a0_0 a0_1 _ _ l0_2 a2_0 a2_1 _ _ l2_2 true _ ?side1 ?side2 ?side3 ?side4 A10.out).mono ?_); (case side1 => exact zqC (Kd.C_below HR0_2.out HB.out)); (case side2 => exact HC0_2.out); (case side3 => exact zqC (Kd.C_below HR2_2.out HB.out)); (case side4 => exact HC2_2.out); rintro e w21 ⟨rfl, hb⟩; replace HO401 := zm (Kd.R_below (zqR HO401.out) hb); replace BK397 := zm (zyb (g := gb397) (o := .cells #[.int .i64 a0_0, .int .i64 a0_1, .slice A0_2 l0_2.length c0_2] 26 (0, 0)) (zqK BK397.out) hb); replace BK398 := zm (zyb (g := gb398) (o := .cells #[.int .i64 a2_0, .int .i64 a2_1, .slice A2_2 l2_2.length c2_2] 27 (0, 0)) (zqK BK398.out) hb); replace HB := zm (zyh zq18 hb); (try clear hb); (try clear hb2); (try clear hk); (try clear hi)) | (go_at_call 22; (with_reducible refine (impl_within.calls a3 (-9000) 9000 t404 _ A12.out).mono ?_); rintro e w' ⟨rfl, ⟨nd, rfl⟩⟩))
  go_meet
  case rel => exact ⟨_, (!t404), (by first | rfl | (simp; done) | (simp [*]; done)), H', ⟨by first | omega | exact Nat.le_refl _⟩, ⟨by (with_reducible repeat (first | apply zN | apply zD | apply zL)); exact BK397.out⟩, ⟨by (with_reducible repeat (first | apply zN | apply zD | apply zL)); exact BK398.out⟩, ⟨zq18⟩⟩
 clear HC5
 try clear c1
 try clear c2
 try clear p2
 try clear c3
 try clear c9
 try clear c10
 try clear c11
 try clear c13
 try clear c22
 try clear c31
 try clear c36
 try clear hcz14_0
 try clear hcz14_1
 try clear hcz14_2
 try clear hcz19_0
 try clear hcz19_1
 try clear hcz19_2
 try clear hcz20_0
 try clear hcz20_1
 try clear hcz20_2
 try clear hcz23_0
 try clear hcz23_1
 try clear hcz23_2
 try clear hcz28_0
 try clear hcz28_1
 try clear hcz28_2
 try clear hcz29_0
 try clear hcz29_1
 try clear hcz29_2
 try clear hcz32_0
 try clear hcz32_1
 try clear hcz32_2
 try clear hfz14_0
 try clear hfz14_1
 try clear hfz14_2
 try clear hfz19_0
 try clear hfz19_1
 try clear hfz19_2
 try clear hfz20_0
 try clear hfz20_1
 try clear hfz20_2
 try clear hfz23_0
 try clear hfz23_1
 try clear hfz23_2
 try clear hfz28_0
 try clear hfz28_1
 try clear hfz28_2
 try clear hfz29_0
 try clear hfz29_1
 try clear hfz29_2
 try clear hfz32_0
 try clear hfz32_1
 try clear hfz32_2
 obtain ⟨kq, x27_4, rfl, HA, HJ4, BK397, BK398, HB⟩ := hcut
 cases kq with
 | zero => exact absurd HA.out (by simp [impl_AreaCoverage.j0])
 | succ kj4 =>
  have H := HA.out
  clear HA
  simp only [impl_AreaCoverage.j0] at H
  by_cases c37 : x27_4 = true
  case pos =>
   subst c37
   have H1 : (some (0, 0, false)) = some (r1, r2, r3) := by rw [if_pos rfl] at H; exact H
   clear H
   have H := H1
   clear H1
   simp only [Option.some.injEq, Prod.mk.injEq] at H
   obtain ⟨rfl, rfl, rfl⟩ := H
   go_wp2
   go_ret3
   exact ⟨zqE, zq18⟩
  replace c37 := Bool.eq_false_iff.mpr c37
  subst c37
  have H1 : ((impl_areaValues.f kj4 a0_0 a0_1 l0_2 a1 a2_0 a2_1 l2_2).bind fun t405 => ((impl_countAtLeast.f kj4 t405 a3).bind fun t408 => (some (t408, (t405.length : Int), true)))) = some (r1, r2, r3) := by rw [if_neg (show ¬ (false = true) by decide)] at H; exact H
  clear H
  have H := H1
  clear H1
  obtain ⟨t405, A380, H⟩ := zob H
  replace H : ((impl_countAtLeast.f kj4 t405 a3).bind fun t408 => (some (t408, (t405.length : Int), true))) = some (r1, r2, r3) := H
  have A38 := zm A380
  clear A380
  obtain ⟨t408, A390, H⟩ := zob H
  replace H : (some (t408, (t405.length : Int), true)) = some (r1, r2, r3) := H
  have A39 := zm A390
  clear A390
  simp only [Option.some.injEq, Prod.mk.injEq] at H
  obtain ⟨rfl, rfl, rfl⟩ := H
  have hnb40 := NB397_398.out
  have hnc40 := NB398_397.out
  have hcz41_0 := bz BK397.out 0 (.int .i64 a0_0)
  have hcz41_1 := bz BK397.out 1 (.int .i64 a0_1)
  have hcz41_2 := bz BK397.out 2 (.slice A0_2 l0_2.length c0_2)
  have hfz41_0 := zyF BK397.out 0
  have hfz41_1 := zyF BK397.out 1
  have hfz41_2 := zyF BK397.out 2
  have hcz42_0 := bz BK398.out 0 (.int .i64 a2_0)
  have hcz42_1 := bz BK398.out 1 (.int .i64 a2_1)
  have hcz42_2 := bz BK398.out 2 (.slice A2_2 l2_2.length c2_2)
  have hfz42_0 := zyF BK398.out 0
  have hfz42_1 := zyF BK398.out 1
  have hfz42_2 := zyF BK398.out 2
  go_wp2_with (first | ((with_reducible refine zyg (f := 25) rfl ?_); refine goesL_ (some 31) rfl rfl Try.func25 (by kernel_rfl) rfl #[.agg #[.int .i64 a0_0, .int .i64 a0_1, .slice A0_2 l0_2.length c0_2], .int .i64 a1, .agg #[.int .i64 a2_0, .int .i64 a2_1, .slice A2_2 l2_2.length c2_2]] rfl zq0 ?_; (with_reducible refine (impl_areaValues.calls kj4 a0_0 a0_1 _ _ l0_2 a1 a2_0 a2_1 _ _ l2_2 t405 _ ?side1 ?side2 ?side3 ?side4 A38.out).mono ?_); (case side1 => exact zqC (Kd.C_below HR0_2.out HB.out)); (case side2 => exact HC0_2.out); (case side3 => exact zqC (Kd.C_below HR2_2.out HB.out)); (case side4 => exact HC2_2.out); rintro e w43 ⟨v406, rfl, ho0, hb⟩; refine ⟨_, rfl, ?_⟩; have HO407 := zm (Kd.R_lower ho0 (zyi zq18)); replace BK397 := zm (zyb (g := gb397) (o := .cells #[.int .i64 a0_0, .int .i64 a0_1, .slice A0_2 l0_2.length c0_2] 26 (0, 0)) (zqK BK397.out) hb); replace BK398 := zm (zyb (g := gb398) (o := .cells #[.int .i64 a2_0, .int .i64 a2_1, .slice A2_2 l2_2.length c2_2] 27 (0, 0)) (zqK BK398.out) hb); replace HB := zm (zyh zq18 hb); (try clear hb); (try clear hb2); (try clear hk); (try clear hi); (try clear ho0); obtain ⟨Ao44, co44, eo44⟩ := Kd.R_slice HO407.out; subst eo44) | ((with_reducible refine zyg (f := 26) rfl ?_); refine goesL_ (some 34) rfl rfl Try.func26 (by kernel_rfl) rfl #[.slice Ao44 t405.length co44, .int .i64 a3] rfl zq0 ?_; (with_reducible refine (impl_countAtLeast.calls kj4 _ _ t405 a3 t408 _ ?side1 ?side2 A39.out).mono ?_); (case side1 => exact zqC (Kd.R_reads' HO407.out).2.2); (case side2 => exact (Kd.R_reads' HO407.out).2.1); rintro e w' ⟨rfl, ⟨nd, rfl⟩⟩; refine ⟨_, rfl, ?_⟩))
  go_ret3
  exact ⟨zqE, zq18⟩
def laws_rHas.l0 : Nat → List Int → Int → Int → Option (Bool)
 | 0, _, _, _ => none
 | k + 1, x0, x1, x5 => if x5 < (x0.length : Int) then (if 0 ≤ x5 then (if (rd x0 x5) = x1 then (some true) else (laws_rHas.l0 k x0 x1 (wrap64 (x5 + 1)))) else (none)) else (some false)
def laws_rHas.f (k : Nat) (l0 : List Int) (a1 : Int) : Option (Bool) := laws_rHas.l0 k l0 a1 0
set_option maxHeartbeats 8000000 in
set_option maxRecDepth 100000 in
theorem laws_rHas.calls (k : Nat) (A0 : Option Addr) (c0 : Nat) (l0 : List Int) (a1 : Int) (r : Bool) (w : World) (hr0 : Kd.C (Kd.int .i64) w A0 l0.length l0) (hc0 : l0.length ≤ c0) (h : laws_rHas.f k l0 a1 = some r) :
  Calls Try.prog 11 #[.slice A0 l0.length c0, .int .i64 a1] w fun e w' => e = .returned (.bool r) ∧ Drawn0 w w' := by
 have HR0 := zm hr0
 have HC0 := zm hc0
 clear hr0 hc0
 have H : (laws_rHas.l0 k l0 a1 0) = some r := h
 clear h
 have H' := zm H
 clear H
 go_enter Try.func11, Try.ntmps11
 go_wp2
 go_loopg [5] k (fun kq v5 w' => ∃ (x5_1 : Int), v5 = .int .i64 x5_1 ∧ Aside0 (laws_rHas.l0 kq l0 a1 x5_1 = some r) ∧ Aside0 (kq ≤ k) ∧ Drawn0 w w')
 case atStart => exact ⟨(0), (by first | rfl | (simp; done) | (simp [*]; done)), H', ⟨Nat.le_refl _⟩, zq28⟩
 clear H'
 try clear c1
 try clear p2
 obtain ⟨x5_1, rfl, HA, HK1, ⟨m1, rfl⟩⟩ := hrel
 cases gk with
 | zero => exact absurd HA.out (by simp [laws_rHas.l0])
 | succ k1 =>
  have H := HA.out
  clear HA
  simp only [laws_rHas.l0] at H
  by_cases c3 : x5_1 < (l0.length : Int)
  case neg =>
   rw [if_neg c3] at H
   have c3b0 : decide (x5_1 < (l0.length : Int)) = false := decide_eq_false c3
   clear c3
   obtain rfl := Option.some.inj H
   go_wp2
   go_ret
   exact ⟨by first | rfl | (simp; done) | (simp [*]; done), zq28⟩
  rw [if_pos c3] at H
  have c3b0 : decide (x5_1 < (l0.length : Int)) = true := decide_eq_true c3
  clear c3
  by_cases c4 : 0 ≤ x5_1
  case neg =>
   rw [if_neg c4] at H
   exact absurd H (by simp)
  rw [if_pos c4] at H
  have c4b0 : decide (0 ≤ x5_1) = true := decide_eq_true c4
  clear c4
  by_cases c5 : (rd l0 x5_1) = a1
  case pos =>
   rw [if_pos c5] at H
   have c5b0 : ((rd l0 x5_1) == a1) = true := beq_iff_eq.mpr c5
   have c5b1 : ((rd l0 x5_1) != a1) = false := bne_eq_false_iff_eq.mpr c5
   clear c5
   obtain rfl := Option.some.inj H
   have p409 : 0 ≤ (x5_1 : Int) := of_decide_eq_true zq6
   have q409 : x5_1 < (l0.length : Int) := of_decide_eq_true zq6
   obtain ⟨ad409, e409, hx409_0⟩ := Kd.at_int HR0.out x5_1 p409 q409
   cases e409
   replace p409 := eq_true p409
   replace q409 := eq_true q409
   go_wp2
   go_ret
   exact ⟨by first | rfl | (simp; done) | (simp [*]; done), zq28⟩
  rw [if_neg c5] at H
  have c5b0 : ((rd l0 x5_1) == a1) = false := beq_eq_false_iff_ne.mpr c5
  have c5b1 : ((rd l0 x5_1) != a1) = true := bne_iff_ne.mpr c5
  have H' := zm H
  clear H
  have p409 : 0 ≤ (x5_1 : Int) := of_decide_eq_true zq6
  have q409 : x5_1 < (l0.length : Int) := of_decide_eq_true zq6
  obtain ⟨ad409, e409, hx409_0⟩ := Kd.at_int HR0.out x5_1 p409 q409
  cases e409
  replace p409 := eq_true p409
  replace q409 := eq_true q409
  go_wp2
  go_roundg k1
  case measure => have := HK1.out; omega
  case rel => exact ⟨(wrap64 (x5_1 + 1)), (by first | rfl | (simp; done) | (simp [*]; done)), H', ⟨by have := HK1.out; omega⟩, zq28⟩
def spec_l1Cur_area.j0 : Nat → Bool → List Int → Int → Int → Int → Int → List Int → Option (Int × Int × Int)
 | 0, _, _, _, _, _, _, _ => none
 | k + 1, x12, x1000, x1001, x1002, x411000, x411001, x411002 => if x12 = true then ((spec_l1Cur_among.f x1000 x1001 x1002 (([0, 5, 10] : List Int))).bind fun bt417 => (some (bt417.1, bt417.2.1, bt417.2.2))) else ((spec_l1Cur_pick.f x1000 x1001 x1002 (x411002.length : Int)).bind fun bt420 => (if 0 ≤ bt420.1 then (if bt420.1 < (x411002.length : Int) then (some (rd x411002 bt420.1, bt420.2.1, bt420.2.2)) else (none)) else (none)))
def spec_l1Cur_area.f (k : Nat) (s0_0 : List Int) (s0_1 : Int) (s0_2 : Int) (a1_0 : Int) (a1_1 : Int) (l1_2 : List Int) : Option (Int × Int × Int) := (spec_l1Cur_one.f s0_0 s0_1 s0_2 16).bind fun bt411 => (if bt411.1 = true then (spec_l1Cur_area.j0 k true s0_0 bt411.2.1 bt411.2.2 a1_0 a1_1 l1_2) else (spec_l1Cur_area.j0 k ((l1_2.length : Int) == 0) s0_0 bt411.2.1 bt411.2.2 a1_0 a1_1 l1_2))
def spec_l1Cur_area.T3 : Bool × List (List Nat × List Nat) := (true, [([], []), ([0], [0]), ([], []), ([], []), ([3], [3]), ([4], [4]), ([2, 5], [2, 5]), ([1, 6], [1, 6]), ([7], [7]), ([8, 6, 0, 1, 2, 3, 4, 5, 6, 7, 8], [8])])
def spec_l1Cur_area.B3 : List Nat := [0, 1, 0, 0, 8, 24, 60, 127, 255, 511]
theorem spec_l1Cur_area.tab3 : rtab .any (opsOf Try.f37 3) = spec_l1Cur_area.T3 := by kernel_rfl
theorem spec_l1Cur_area.bits3 : waitsOk spec_l1Cur_area.T3.2 spec_l1Cur_area.B3 = true := by kernel_rfl
set_option maxHeartbeats 8000000 in
set_option maxRecDepth 100000 in
theorem spec_l1Cur_area.calls (k : Nat) (g : Nat) (s0_0 : List Int) (s0_1 : Int) (s0_2 : Int) (a1_0 : Int) (a1_1 : Int) (A1_2 : Option Addr) (c1_2 : Nat) (l1_2 : List Int) (r1 : Int) (r2 : Int) (r3 : Int) (w0 w : World) (hI : IsS46 w0 w g s0_0 s0_1 s0_2) (hB : Below w0.heap.size w0 w) (hr1_2 : Kd.C (Kd.int .i64) w A1_2 l1_2.length l1_2) (hc1_2 : l1_2.length ≤ c1_2) (hf1_2 : ∀ ad, A1_2 = some ad → 0 < l1_2.length → ad.block ≠ g) (h : spec_l1Cur_area.f k s0_0 s0_1 s0_2 a1_0 a1_1 l1_2 = some (r1, r2, r3)) :
  Calls Try.prog 37 #[.pointer (some ⟨g, 0, none⟩), .agg #[.int .i64 a1_0, .int .i64 a1_1, .slice A1_2 l1_2.length c1_2]] w fun e w' => e = .returned (.int .i64 r1) ∧ IsS46 w0 w' g s0_0 r2 r3 ∧ Below w0.heap.size w0 w' ∧ KeepBut w w' g none := by
 have hu26 := Try.underlying26
 have HR1_2 := zm hr1_2
 have HC1_2 := zm hc1_2
 clear hr1_2 hc1_2
 have HI0 := zm hI
 have HK := zm (KeepBut.refl w g none)
 have HL := zm hB.size
 clear hI
 have HW0 := zm hB.size
 have HB := zm hB
 clear hB
 have H : ((spec_l1Cur_one.f s0_0 s0_1 s0_2 16).bind fun bt411 => (if bt411.1 = true then (spec_l1Cur_area.j0 k true s0_0 bt411.2.1 bt411.2.2 a1_0 a1_1 l1_2) else (spec_l1Cur_area.j0 k ((l1_2.length : Int) == 0) s0_0 bt411.2.1 bt411.2.2 a1_0 a1_1 l1_2))) = some (r1, r2, r3) := h
 clear h
 have HC3 := zm H
 clear H
 go_enter Try.func37, Try.ntmps37
 go_upto_region 1 with (first | ((with_reducible refine gate_dst (N := 3) rfl ?_); refine box_event ?hg (N := 3) ?hd (cs := #[.int .i64 a1_0, .int .i64 a1_1, .slice A1_2 l1_2.length c1_2]) (t := 26) ?hr ?_; (case hd => rfl); (case hg => rfl); (case hr => exact zqS); intro gb410 hg w4 hbox hb; replace HB := zm (zyh zq10 hb); have BK410 := zm (hbox); have GW410 := zm ((by rw [hg]; exact (keep_size (w := w) (g := g) (row := none) zq4) : w.heap.size ≤ gb410)); have GE410 := zm ((Nat.le_trans HW0.out (by rw [hg]; exact (keep_size (w := w) (g := g) (row := none) zq4) : w.heap.size ≤ gb410) : w0.heap.size ≤ gb410)); replace HK := zm (KeepBut.trans zq4 (KeepBut.of_below hb g none) (.inl rfl)); have NB0_410 := zm ((by rw [hg]; exact Nat.ne_of_lt (IsS46.lt (show IsS46 w0 _ g s0_0 s0_1 s0_2 from by repeat (first | (with_reducible first | exact HI0.out | apply zv1 | apply zv2 | apply zv3 | apply zv4 | apply zv5) | exact HI0.out))) : g ≠ gb410)); have NB410_0 := zm ((by rw [hg]; exact Nat.ne_of_gt (IsS46.lt (show IsS46 w0 _ g s0_0 s0_1 s0_2 from by repeat (first | (with_reducible first | exact HI0.out | apply zv1 | apply zv2 | apply zv3 | apply zv4 | apply zv5) | exact HI0.out))) : gb410 ≠ g)); replace HI0 := zm (IsS46.below zq15 hb); clear hb hbox hg))
 (try simp only [Act.put, List.setIfInBounds_toArray, List.set_cons_zero, List.set_cons_succ])
 go_cut [12] (fun v12 wc => ∃ (kq : Nat) (x12_2 : Bool) (x1001_2 : Int) (x1002_2 : Int), v12 = .bool x12_2 ∧ Aside0 (spec_l1Cur_area.j0 kq x12_2 s0_0 x1001_2 x1002_2 a1_0 a1_1 l1_2 = some (r1, r2, r3)) ∧ Aside0 (kq ≤ k) ∧ Aside0 (wc.heap[gb410]? = some (.cells #[.int .i64 a1_0, .int .i64 a1_1, (.slice A1_2 l1_2.length c1_2)] 26 (0, 0))) ∧ Aside0 (IsS46 w0 wc g s0_0 x1001_2 x1002_2) ∧ Aside0 (KeepBut w wc g none) ∧ Aside0 (Below w0.heap.size w0 wc))
 case first =>
  have H := HC3.out
  clear HC3
  obtain ⟨⟨t411, t412, t413⟩, A50, H⟩ := zob H
  replace H : (if t411 = true then (spec_l1Cur_area.j0 k true s0_0 t412 t413 a1_0 a1_1 l1_2) else (spec_l1Cur_area.j0 k ((l1_2.length : Int) == 0) s0_0 t412 t413 a1_0 a1_1 l1_2)) = some (r1, r2, r3) := H
  have A5 := zm A50
  clear A50
  by_cases c6 : t411 = true
  case pos =>
   subst c6
   have H1 : (spec_l1Cur_area.j0 k true s0_0 t412 t413 a1_0 a1_1 l1_2) = some (r1, r2, r3) := by rw [if_pos rfl] at H; exact H
   clear H
   have H := H1
   clear H1
   have H' := zm H
   clear H
   go_wp2_with (first | ((with_reducible refine zyg (f := 42) rfl ?_); refine goesL_ (some 6) rfl rfl Try.func42 (by kernel_rfl) rfl #[.pointer (some ⟨g, 0, none⟩), .int .i64 16] rfl zq0 ?_; (with_reducible refine (spec_l1Cur_one.calls g s0_0 s0_1 s0_2 16 true t412 t413 w0 _ ?side1 ?side2 A5.out).mono ?_); (case side1 => repeat (first | (with_reducible first | exact HI0.out | apply zv1 | apply zv2 | apply zv3 | apply zv4 | apply zv5 | refine zv6 ?_ NB0_410.out _) | exact HI0.out)); (case side2 => repeat (first | (with_reducible first | exact HB.out | apply zya | apply zyp | apply zyr | refine zys ?_ (IsS46.ge HI0.out) | refine zys ?_ GE410.out) | exact HB.out)); rintro e w7 ⟨rfl, hi, hb, hk⟩; refine ⟨_, rfl, ?_⟩; replace BK410 := zm (KeepBut.blk hk (g' := gb410) (o := .cells #[.int .i64 a1_0, .int .i64 a1_1, .slice A1_2 l1_2.length c1_2] 26 (0, 0)) (zqK BK410.out) NB410_0.out (by simp)); replace HK := zm (KeepBut.trans zq40 hk (.inl rfl)); replace HB := zm (hb); replace HI0 := zm (hi); (try clear hb); (try clear hb2); (try clear hk); (try clear hi)))
   go_meet
   case rel => exact ⟨_, (true), (t412), (t413), (by first | rfl | (simp; done) | (simp [*]; done)), H', ⟨by first | omega | exact Nat.le_refl _⟩, ⟨by (with_reducible repeat (first | apply zN | apply zD | apply zL)); exact BK410.out⟩, ⟨zq57⟩, ⟨zq40⟩, ⟨zq58⟩⟩
  replace c6 := Bool.eq_false_iff.mpr c6
  subst c6
  have H1 : (spec_l1Cur_area.j0 k ((l1_2.length : Int) == 0) s0_0 t412 t413 a1_0 a1_1 l1_2) = some (r1, r2, r3) := by rw [if_neg (show ¬ (false = true) by decide)] at H; exact H
  clear H
  have H := H1
  clear H1
  have H' := zm H
  clear H
  go_wp2_with (first | ((with_reducible refine zyg (f := 42) rfl ?_); refine goesL_ (some 6) rfl rfl Try.func42 (by kernel_rfl) rfl #[.pointer (some ⟨g, 0, none⟩), .int .i64 16] rfl zq0 ?_; (with_reducible refine (spec_l1Cur_one.calls g s0_0 s0_1 s0_2 16 false t412 t413 w0 _ ?side1 ?side2 A5.out).mono ?_); (case side1 => repeat (first | (with_reducible first | exact HI0.out | apply zv1 | apply zv2 | apply zv3 | apply zv4 | apply zv5 | refine zv6 ?_ NB0_410.out _) | exact HI0.out)); (case side2 => repeat (first | (with_reducible first | exact HB.out | apply zya | apply zyp | apply zyr | refine zys ?_ (IsS46.ge HI0.out) | refine zys ?_ GE410.out) | exact HB.out)); rintro e w8 ⟨rfl, hi, hb, hk⟩; refine ⟨_, rfl, ?_⟩; replace BK410 := zm (KeepBut.blk hk (g' := gb410) (o := .cells #[.int .i64 a1_0, .int .i64 a1_1, .slice A1_2 l1_2.length c1_2] 26 (0, 0)) (zqK BK410.out) NB410_0.out (by simp)); replace HK := zm (KeepBut.trans zq40 hk (.inl rfl)); replace HB := zm (hb); replace HI0 := zm (hi); (try clear hb); (try clear hb2); (try clear hk); (try clear hi); have hnb9 := NB410_0.out; have hnc9 := NB0_410.out; have hcz10_0 := bz BK410.out 0 (.int .i64 a1_0); have hcz10_1 := bz BK410.out 1 (.int .i64 a1_1); have hcz10_2 := bz BK410.out 2 (.slice A1_2 l1_2.length c1_2); have hfz10_0 := zyF BK410.out 0; have hfz10_1 := zyF BK410.out 1; have hfz10_2 := zyF BK410.out 2))
  go_meet
  case rel => exact ⟨_, (((l1_2.length : Int) == 0)), (t412), (t413), (by first | rfl | (simp; done) | (simp [*]; done)), H', ⟨by first | omega | exact Nat.le_refl _⟩, ⟨by (with_reducible repeat (first | apply zN | apply zD | apply zL)); exact BK410.out⟩, ⟨zq57⟩, ⟨zq40⟩, ⟨zq58⟩⟩
 clear HC3
 try clear c1
 try clear p2
 try clear c3
 try clear c4
 try clear c6
 try clear c9
 try clear hcz10_0
 try clear hcz10_1
 try clear hcz10_2
 try clear hfz10_0
 try clear hfz10_1
 try clear hfz10_2
 obtain ⟨kq, x12_2, x1001_2, x1002_2, rfl, HA, HJ2, BK410, HI0, HK, HB⟩ := hcut
 cases kq with
 | zero => exact absurd HA.out (by simp [spec_l1Cur_area.j0])
 | succ kj2 =>
  have H := HA.out
  clear HA
  simp only [spec_l1Cur_area.j0] at H
  by_cases c11 : x12_2 = true
  case pos =>
   subst c11
   have H1 : ((spec_l1Cur_among.f s0_0 x1001_2 x1002_2 (([0, 5, 10] : List Int))).bind fun bt417 => (some (bt417.1, bt417.2.1, bt417.2.2))) = some (r1, r2, r3) := by rw [if_pos rfl] at H; exact H
   clear H
   have H := H1
   clear H1
   obtain ⟨y414, hy414⟩ : ∃ y_ : List Int, y_ = (([0, 5, 10] : List Int)) := ⟨_, rfl⟩
   replace H : ((spec_l1Cur_among.f s0_0 x1001_2 x1002_2 y414).bind fun bt417 => (some (bt417.1, bt417.2.1, bt417.2.2))) = some (r1, r2, r3) := zqH hy414 H
   have Ny414 := zm hy414
   clear hy414
   obtain ⟨⟨t417, t418, t419⟩, A120, H⟩ := zob H
   replace H : (some (t417, t418, t419)) = some (r1, r2, r3) := H
   have A12 := zm A120
   clear A120
   simp only [Option.some.injEq, Prod.mk.injEq] at H
   obtain ⟨rfl, rfl, rfl⟩ := H
   go_wp2_with (first | ((with_reducible refine gate_dst (N := 14) rfl ?_); refine Kd.R_lit (Kd.int .i64) _ 3 ?hg (N := 14) ?hd (xs := ([0, 5, 10] : List Int)) (inner := [.int .i64 0, .int .i64 5, .int .i64 10]) (ok := fun _ => True) (okp := fun _ => True) ?hr ?hp (fun _ hk => hk) trivial (Below.refl _ _) (Nat.le_refl _) (by simp) ?_; (case hd => rfl); (case hg => rfl); (case hr => exact zqS); (case hp => exact (Reps.one (show Kd.M (Kd.int .i64) _ _ _ 0 [.int .i64 0] from rfl) (Reps.one (show Kd.M (Kd.int .i64) _ _ _ 5 [.int .i64 5] from rfl) (Reps.one (show Kd.M (Kd.int .i64) _ _ _ 10 [.int .i64 10] from rfl) (Reps.none _ _))))); intro v415 w13 ho14 hb hg_ hnew_; clear hg_ hnew_; (first | rw [← Ny414.out] at ho14 | (simp only [Int.reduceToNat] at ho14; rw [← Ny414.out] at ho14)); have HO416 := zm (Kd.R_lower ho14 (keep_size (w := w) (g := g) (row := none) zq40)); replace BK410 := zm (zyb (g := gb410) (o := .cells #[.int .i64 a1_0, .int .i64 a1_1, .slice A1_2 l1_2.length c1_2] 26 (0, 0)) (zqK BK410.out) hb); replace HK := zm (KeepBut.trans zq40 (KeepBut.of_below hb g none) (.inl rfl)); replace HB := zm (zyh zq58 hb); replace HI0 := zm (IsS46.below zq57 hb); clear hb ho14; obtain ⟨Ao15, co15, eo15⟩ := Kd.R_slice HO416.out; subst eo15) | ((with_reducible refine zyg (f := 19) rfl ?_); refine goesL_ (some 15) rfl rfl Try.func19 (by kernel_rfl) rfl #[.pointer (some ⟨g, 0, none⟩), .slice Ao15 y414.length co15] rfl zq0 ?_; (with_reducible refine (spec_l1Cur_among.calls g s0_0 x1001_2 x1002_2 _ _ y414 t417 t418 t419 w0 _ ?side1 ?side2 ?side3 ?side4 ?side5 A12.out).mono ?_); (case side1 => repeat (first | (with_reducible first | exact HI0.out | apply zv1 | apply zv2 | apply zv3 | apply zv4 | apply zv5 | refine zv6 ?_ NB0_410.out _) | exact HI0.out)); (case side2 => repeat (first | (with_reducible first | exact HB.out | apply zya | apply zyp | apply zyr | refine zys ?_ (IsS46.ge HI0.out) | refine zys ?_ GE410.out) | exact HB.out)); (case side3 => exact zqC (Kd.R_reads' HO416.out).2.2); (case side4 => exact (Kd.R_reads' HO416.out).2.1); (case side5 => exact far_slice (IsS46.own_ne HI0.out HO416.out (by decide))); rintro e w16 ⟨rfl, hi, hb, hk⟩; refine ⟨_, rfl, ?_⟩; replace BK410 := zm (KeepBut.blk hk (g' := gb410) (o := .cells #[.int .i64 a1_0, .int .i64 a1_1, .slice A1_2 l1_2.length c1_2] 26 (0, 0)) (zqK BK410.out) NB410_0.out (by simp)); replace HO416 := zm (Kd.R_mono (Kd.R_keep (IsS46.apart (show IsS46 w0 _ g s0_0 x1001_2 x1002_2 from by repeat (first | (with_reducible first | exact HI0.out | apply zv1 | apply zv2 | apply zv3 | apply zv4 | apply zv5 | refine zv6 ?_ NB0_410.out _) | exact HI0.out)) (zqR HO416.out) (by decide)) hk (fun _ h => h.2)) (fun _ h => h.1)); replace HK := zm (KeepBut.trans zq40 hk (.inl rfl)); replace HB := zm (hb); replace HI0 := zm (hi); (try clear hb); (try clear hb2); (try clear hk); (try clear hi)))
   go_ret
   exact ⟨zqE, zq57, zq58, zq40⟩
  replace c11 := Bool.eq_false_iff.mpr c11
  subst c11
  have H1 : ((spec_l1Cur_pick.f s0_0 x1001_2 x1002_2 (l1_2.length : Int)).bind fun bt420 => (if 0 ≤ bt420.1 then (if bt420.1 < (l1_2.length : Int) then (some (rd l1_2 bt420.1, bt420.2.1, bt420.2.2)) else (none)) else (none))) = some (r1, r2, r3) := by rw [if_neg (show ¬ (false = true) by decide)] at H; exact H
  clear H
  have H := H1
  clear H1
  obtain ⟨⟨t420, t421, t422⟩, A170, H⟩ := zob H
  replace H : (if 0 ≤ t420 then (if t420 < (l1_2.length : Int) then (some (rd l1_2 t420, t421, t422)) else (none)) else (none)) = some (r1, r2, r3) := H
  have A17 := zm A170
  clear A170
  by_cases c18 : 0 ≤ t420
  case neg =>
   rw [if_neg c18] at H
   exact absurd H (by simp)
  rw [if_pos c18] at H
  have c18b0 : decide (0 ≤ t420) = true := decide_eq_true c18
  clear c18
  by_cases c19 : t420 < (l1_2.length : Int)
  case neg =>
   rw [if_neg c19] at H
   exact absurd H (by simp)
  rw [if_pos c19] at H
  have c19b0 : decide (t420 < (l1_2.length : Int)) = true := decide_eq_true c19
  clear c19
  simp only [Option.some.injEq, Prod.mk.injEq] at H
  obtain ⟨rfl, rfl, rfl⟩ := H
  try go_wp2
  have n0_ := zm (zD BK410.out)
  have n1_ := zm (zv3 HI0.out)
  have n2_ := zm (keep_drew HK.out)
  have n3_ := zm (zyr HB.out)
  clear BK410
  clear HI0
  clear HK
  clear HB
  have BK410 := n0_
  have HI0 := n1_
  have HK := n2_
  have HB := n3_
  clear n0_ n1_ n2_ n3_
  have p423 : 0 ≤ (t420 : Int) := of_decide_eq_true zq6
  have q423 : t420 < (l1_2.length : Int) := of_decide_eq_true zq6
  obtain ⟨ad423, e423, hx423_0⟩ := Kd.at_int HR1_2.out t420 p423 q423
  have hw423_0 := hx423_0
  cases e423
  have hne423_0 := (show ((ad423.add (t420).toNat) : Addr).block ≠ g from by first | (rw [add_block]; exact hf1_2 ad423 rfl (by omega)) | (show (Addr.add _ _).block ≠ _; rw [add_block]; exact hf1_2 ad423 rfl (by omega)) | exact hf1_2 ad423 rfl (by omega))
  replace hx423_0 := keep_cell HK.out hx423_0 (by first | (rw [add_block]; exact hf1_2 _ rfl (by omega)) | exact hf1_2 _ rfl (by omega) | exact hf1_2 ad423 rfl (by omega))
  replace p423 := eq_true p423
  replace q423 := eq_true q423
  refine start_ (n := 10) (S := fun w' => w'.cell? ⟨gb410, 0, none⟩ = some (.int .i64 a1_0) ∧ w'.cell? ⟨gb410, 1, none⟩ = some (.int .i64 a1_1) ∧ w'.cell? ⟨gb410, 2, none⟩ = some (.slice (some ad423) l1_2.length c1_2) ∧ w'.cell? (ad423.add (t420).toNat) = some (.int .i64 (rd l1_2 t420))) (ds := []) #[zf, zf, zf, zf, zf, zf, zf, zf, zf, zf] (by kernel_rfl) rfl rfl ⟨(zyk BK410.out 0).trans rfl, (zyk BK410.out 1).trans rfl, (zyk BK410.out 2).trans rfl, (keep_cell HK.out hw423_0 hne423_0)⟩ (fun hHeld => ?_); refine with_tabW spec_l1Cur_area.tab3 spec_l1Cur_area.bits3 (fun HT_ HW_ => ?_)
  generalize wc.drew = w20 at BK410 HI0 HK HB hf1_2 hx423_0 hHeld ⊢
  refine zP 0 (some 16) #[zt, zf, zf, zf, zf, zf, zf, zf, zf, zf] ?_ rfl rfl HT_ (Or.inl ⟨by rfl, ?_⟩) ?_ ?_ ?_
  rotate_left; · exact zqB
  rotate_left; · exact zqA
  refine zP 2 (some 18) #[zt, zf, zt, zf, zf, zf, zf, zf, zf, zf] ?_ rfl rfl HT_ (Or.inl ⟨by rfl, ?_⟩) ?_ ?_ ?_
  rotate_left; · exact zqB
  rotate_left; · exact zqA
  refine zP 3 (some 19) #[zt, zf, zt, zt, zf, zf, zf, zf, zf, zf] ?_ rfl rfl HT_ (Or.inl ⟨by rfl, ?_⟩) ?_ ?_ ?_
  rotate_left; · exact zqB
  rotate_left; · exact zqA
  refine zT 1 (some 17) #[zt, zt, zt, zt, zf, zf, zf, zf, zf, zf] ?_ rfl rfl HT_ HW_ (Or.inl ⟨by rfl, ?_⟩) hHeld ?_ ?_ ?_
  rotate_left
  ·
   rintro w' ⟨s0, s1, s2, s3⟩
   go_simp
   with_reducible rfl
  rotate_left; · exact zqA
  refine zT 4 (some 20) #[zt, zt, zt, zt, zt, zf, zf, zf, zf, zf] ?_ rfl rfl HT_ HW_ (Or.inl ⟨by rfl, ?_⟩) hHeld ?_ ?_ ?_
  rotate_left
  ·
   rintro w' ⟨s0, s1, s2, s3⟩
   go_simp
   with_reducible rfl
  rotate_left; · exact zqA
  refine zP 5 (some 21) #[zt, zt, zt, zt, zt, zt, zf, zf, zf, zf] ?_ rfl rfl HT_ (Or.inl ⟨by rfl, ?_⟩) ?_ ?_ ?_
  rotate_left; · exact zqB
  rotate_left; · exact zqA
  refine one_ (i := 6) (N := some 22) #[zt, zt, zt, zt, zt, zt, zt, zf, zf, zf] rfl rfl (one_of HT_.out (by kernel_rfl)) (by decide) (fun K hK => ?_)
  refine goes_ Try.func20 (by kernel_rfl) rfl #[.pointer (some ⟨g, 0, none⟩), .int .i64 (l1_2.length : Int)] (by rfl) rfl rfl zq0 ?_
  with_reducible refine (spec_l1Cur_pick.calls g s0_0 x1001_2 x1002_2 (l1_2.length : Int) t420 t421 t422 w0 _ ?side1 ?side2 A17.out).mono ?_
  (case side1 => repeat (first | (with_reducible first | exact HI0.out | apply zv1 | apply zv2 | apply zv3 | apply zv4 | apply zv5 | refine zv6 ?_ NB0_410.out _) | exact HI0.out))
  (case side2 => repeat (first | (with_reducible first | exact HB.out | apply zya | apply zyp | apply zyr | refine zys ?_ (IsS46.ge HI0.out) | refine zys ?_ GE410.out) | exact HB.out))
  rintro e w21 ⟨rfl, hi, hb, hk⟩
  refine ⟨_, rfl, ?_⟩
  have n0_ := zm (KeepBut.blk hk (g' := gb410) (o := .cells #[.int .i64 a1_0, .int .i64 a1_1, .slice (some ad423) l1_2.length c1_2] 26 (0, 0)) (zqK BK410.out) NB410_0.out (by simp))
  have n1_ := zm (KeepBut.trans zq40 hk (.inl rfl))
  have n2_ := zm (hb)
  have n3_ := zm (hi)
  clear BK410
  clear HK
  clear HB
  clear HI0
  have BK410 := n0_
  have HK := n1_
  have HB := n2_
  have HI0 := n3_
  clear n0_ n1_ n2_ n3_
  (try clear hb)
  (try clear hb2)
  (try clear hk)
  (try clear hi)
  refine hK.out _ _ ⟨(zyk BK410.out 0).trans rfl, (zyk BK410.out 1).trans rfl, (zyk BK410.out 2).trans rfl, (keep_cell HK.out hw423_0 hne423_0)⟩ (fun hHeld => ?_)
  clear hK K
  refine norm_ (a' := ?_) ?_ ?_
  rotate_left
  ·
   show Act.put _ (some 22) _ = _
   simp only [Act.put, List.setIfInBounds_toArray, List.set_cons_zero, List.set_cons_succ, i64_w, i32_w]
   rfl
  refine zP 7 (some 23) #[zt, zt, zt, zt, zt, zt, zt, zt, zf, zf] ?_ rfl rfl HT_ (Or.inl ⟨by rfl, ?_⟩) ?_ ?_ ?_
  rotate_left; · exact zqB
  rotate_left; · exact zqA
  refine zT 8 (some 24) #[zt, zt, zt, zt, zt, zt, zt, zt, zt, zf] ?_ rfl rfl HT_ HW_ (Or.inl ⟨by rfl, ?_⟩) hHeld ?_ ?_ ?_
  rotate_left
  ·
   rintro w' ⟨s0, s1, s2, s3⟩
   go_simp
   with_reducible rfl
  rotate_left; · exact zqA
  refine zP 9 (some 4) #[zt, zt, zt, zt, zt, zt, zt, zt, zt, zt] ?_ rfl rfl HT_ (Or.inl ⟨by rfl, ?_⟩) ?_ ?_ ?_
  rotate_left; · exact zqB
  rotate_left; · exact zqA
  refine done_ (done_of HT_.out (by kernel_rfl)) ?_
  try go_wp2
  go_ret
  exact ⟨zqE, zq57, zq58, zq40⟩
def spec_DrawAreaMaximum.f (k : Nat) (l0 : List Int) : Option (Int × Int × List Int × Int × Int × Int × List Int) := (spec_l1Cur_anyAreaMap.f k l0 0 0).bind fun bt427 => ((spec_l1Cur_area.f k l0 bt427.2.2.2.1 bt427.2.2.2.2 bt427.1 bt427.2.1 bt427.2.2.1).bind fun bt435 => ((spec_l1Cur_fieldOf.f k l0 bt435.2.1 bt435.2.2 bt427.1 bt427.2.1 bt427.2.2.1).bind fun bt438 => (some (bt427.1, bt427.2.1, bt427.2.2.1, bt435.1, bt438.1, bt438.2.1, bt438.2.2.1))))
def spec_DrawAreaMaximum.T4 : Bool × List (List Nat × List Nat) := (true, [([], []), ([], []), ([], []), ([], []), ([2, 3], [2, 3]), ([0, 4, 0], [0]), ([1, 5, 0, 1, 5], [1]), ([4, 6, 0, 1, 2, 3, 4, 5, 6], [4])])
def spec_DrawAreaMaximum.B4 : List Nat := [0, 0, 0, 0, 12, 29, 63, 127]
theorem spec_DrawAreaMaximum.tab4 : rtab .any (opsOf Try.f12 4) = spec_DrawAreaMaximum.T4 := by kernel_rfl
theorem spec_DrawAreaMaximum.bits4 : waitsOk spec_DrawAreaMaximum.T4.2 spec_DrawAreaMaximum.B4 = true := by kernel_rfl
set_option maxHeartbeats 8000000 in
set_option maxRecDepth 100000 in
theorem spec_DrawAreaMaximum.calls (k : Nat) (A0 : Option Addr) (c0 : Nat) (l0 : List Int) (r1 : Int) (r2 : Int) (r3 : List Int) (r4 : Int) (r5 : Int) (r6 : Int) (r7 : List Int) (w : World) (hr0 : Kd.C (Kd.int .u8) w A0 l0.length l0) (hc0 : l0.length ≤ c0) (h : spec_DrawAreaMaximum.f k l0 = some (r1, r2, r3, r4, r5, r6, r7)) :
  Calls Try.prog 12 #[.slice A0 l0.length c0] w fun e w' => ∃ v2_ v6_ : Value, e = .returned (.tuple #[.agg #[.int .i64 r1, .int .i64 r2, v2_], .int .i64 r4, .agg #[.int .i64 r5, .int .i64 r6, v6_]]) ∧ Kd.R (Kd.int .i64) 3 w' w.heap.size (fun k_ => some k_ ≠ (v6_ : Value).ownBlock) v2_ r3 ∧ Kd.Q (Kd.int .i64) 3 w' w.heap.size (fun k_ => some k_ ≠ (v2_ : Value).ownBlock) v6_ r7 ∧ Below w.heap.size w w' := by
 have hu26 := Try.underlying26
 have hu27 := Try.underlying27
 have hu46 := Try.underlying46
 have HR0 := zm hr0
 have HC0 := zm hc0
 clear hr0 hc0
 have HB := zm (Below.refl w.heap.size w)
 have H : ((spec_l1Cur_anyAreaMap.f k l0 0 0).bind fun bt427 => ((spec_l1Cur_area.f k l0 bt427.2.2.2.1 bt427.2.2.2.2 bt427.1 bt427.2.1 bt427.2.2.1).bind fun bt435 => ((spec_l1Cur_fieldOf.f k l0 bt435.2.1 bt435.2.2 bt427.1 bt427.2.1 bt427.2.2.1).bind fun bt438 => (some (bt427.1, bt427.2.1, bt427.2.2.1, bt435.1, bt438.1, bt438.2.1, bt438.2.2.1))))) = some (r1, r2, r3, r4, r5, r6, r7) := h
 clear h
 obtain ⟨⟨t427, t428, t429, t432, t433⟩, A20, H⟩ := zob H
 replace H : ((spec_l1Cur_area.f k l0 t432 t433 t427 t428 t429).bind fun bt435 => ((spec_l1Cur_fieldOf.f k l0 bt435.2.1 bt435.2.2 t427 t428 t429).bind fun bt438 => (some (t427, t428, t429, bt435.1, bt438.1, bt438.2.1, bt438.2.2.1)))) = some (r1, r2, r3, r4, r5, r6, r7) := H
 have A2 := zm A20
 clear A20
 obtain ⟨⟨t435, t436, t437⟩, A30, H⟩ := zob H
 replace H : ((spec_l1Cur_fieldOf.f k l0 t436 t437 t427 t428 t429).bind fun bt438 => (some (t427, t428, t429, t435, bt438.1, bt438.2.1, bt438.2.2.1))) = some (r1, r2, r3, r4, r5, r6, r7) := H
 have A3 := zm A30
 clear A30
 obtain ⟨⟨t438, t439, t440, t443, t444⟩, A40, H⟩ := zob H
 replace H : (some (t427, t428, t429, t435, t438, t439, t440)) = some (r1, r2, r3, r4, r5, r6, r7) := H
 have A4 := zm A40
 clear A40
 simp only [Option.some.injEq, Prod.mk.injEq] at H
 obtain ⟨rfl, rfl, rfl, rfl, rfl, rfl, rfl⟩ := H
 go_enter Try.func12, Try.ntmps12
 try go_wp2_with (first | ((with_reducible refine gate_dst (N := 2) rfl ?_); refine box_event ?hg (N := 2) ?hd (cs := #[.int .i64 0, .int .i64 0, .slice none 0 0]) (t := 26) ?hr ?_; (case hd => rfl); (case hg => rfl); (case hr => exact zqS); intro gb424 hg w5 hbox hb; have BK424 := zm (hbox); have GW424 := zm ((by rw [hg]; exact (zyi zq1) : w.heap.size ≤ gb424)); replace HB := zm (zyh zq1 hb); have GE424 := GW424; clear hb hbox hg) | ((with_reducible refine gate_dst (N := 4) rfl ?_); refine box_event ?hg (N := 4) ?hd (cs := #[.int .i64 0, .int .i64 0, .slice none 0 0]) (t := 27) ?hr ?_; (case hd => rfl); (case hg => rfl); (case hr => exact zqS); intro gb425 hg w6 hbox hb; have BK425 := zm (hbox); have GW425 := zm ((by rw [hg]; exact (zyi zq102) : w.heap.size ≤ gb425)); replace HB := zm (zyh zq102 hb); have GE425 := GW425; have NB424_425 := zm ((by rw [hg]; exact Nat.ne_of_lt (blk_lt (g := gb424) (o := zcA) (zqK BK424.out)) : gb424 ≠ gb425)); have NB425_424 := zm ((by rw [hg]; exact Nat.ne_of_gt (blk_lt (g := gb424) (o := zcA) (zqK BK424.out)) : gb425 ≠ gb424)); replace BK424 := zm (zyb (g := gb424) (o := zcA) (zqK BK424.out) hb); clear hb hbox hg) | ((with_reducible refine gate_dst (N := 10) rfl ?_); refine box_event ?hg (N := 10) ?hd (cs := #[.slice A0 l0.length c0, .int .i64 0, .int .u64 0]) (t := 46) ?hr ?_; (case hd => rfl); (case hg => rfl); (case hr => exact zqS); intro gb426 hg w7 hbox hb; have HI426 := zm ((show IsS46 w w7 gb426 l0 0 0 from ⟨_, _, hbox, (by rw [hg]; exact (zyi zq84) : w.heap.size ≤ gb426), HR0.out⟩)); have GW426 := zm ((by rw [hg]; exact (zyi zq84) : w.heap.size ≤ gb426)); replace HB := zm (zyh zq84 hb); have GE426 := GW426; have NB424_426 := zm ((by rw [hg]; exact Nat.ne_of_lt (blk_lt (g := gb424) (o := zcA) (zqK BK424.out)) : gb424 ≠ gb426)); have NB426_424 := zm ((by rw [hg]; exact Nat.ne_of_gt (blk_lt (g := gb424) (o := zcA) (zqK BK424.out)) : gb426 ≠ gb424)); replace BK424 := zm (zyb (g := gb424) (o := zcA) (zqK BK424.out) hb); have NB425_426 := zm ((by rw [hg]; exact Nat.ne_of_lt (blk_lt (g := gb425) (o := zcB) (zqK BK425.out)) : gb425 ≠ gb426)); have NB426_425 := zm ((by rw [hg]; exact Nat.ne_of_gt (blk_lt (g := gb425) (o := zcB) (zqK BK425.out)) : gb426 ≠ gb425)); replace BK425 := zm (zyb (g := gb425) (o := zcB) (zqK BK425.out) hb); clear hb hbox hg) | ((with_reducible refine zyg (f := 17) rfl ?_); refine goesL_ (some 12) rfl rfl Try.func17 (by kernel_rfl) rfl #[.pointer (some ⟨gb426, 0, none⟩)] rfl zq0 ?_; (with_reducible refine (spec_l1Cur_anyAreaMap.calls k gb426 l0 0 0 t427 t428 t429 t432 t433 w _ ?side1 ?side2 A2.out).mono ?_); (case side1 => repeat (first | (with_reducible first | exact HI426.out | apply zv1 | apply zv2 | apply zv3 | apply zv4 | apply zv5 | refine zv6 ?_ NB426_424.out _ | refine zv6 ?_ NB426_425.out _) | exact HI426.out)); (case side2 => repeat (first | (with_reducible first | exact HB.out | apply zya | apply zyp | apply zyr | refine zys ?_ (IsS46.ge HI426.out) | refine zys ?_ GE424.out | refine zys ?_ GE425.out) | exact HB.out)); rintro e w8 ⟨v430, rfl, ho0, hi, hb, hk⟩; refine ⟨_, rfl, ?_⟩; replace BK424 := zm (KeepBut.blk hk (g' := gb424) (o := zcA) (zqK BK424.out) NB424_426.out (by simp)); replace BK425 := zm (KeepBut.blk hk (g' := gb425) (o := zcB) (zqK BK425.out) NB425_426.out (by simp)); have HO431 := zm (Kd.R_lower ho0 (zyi zq72)); replace HB := zm (hb); replace HI426 := zm (hi); (try clear hb); (try clear hb2); (try clear hk); (try clear hi); (try clear ho0)) | ((with_reducible refine gate_dst (N := 6) rfl ?_); refine box_event ?hg (N := 6) ?hd (cs := #[.int .i64 0, .int .i64 0, .slice none 0 0]) (t := 26) ?hr ?_; (case hd => rfl); (case hg => rfl); (case hr => exact zqS); intro gb434 hg w9 hbox hb; replace HO431 := zm (Kd.R_below (zqR HO431.out) hb); have BK434 := zm (hbox); have GW434 := zm ((by rw [hg]; exact (zyi zq72) : w.heap.size ≤ gb434)); replace HB := zm (zyh zq72 hb); have GE434 := GW434; have NB424_434 := zm ((by rw [hg]; exact Nat.ne_of_lt (blk_lt (g := gb424) (o := zcA) (zqK BK424.out)) : gb424 ≠ gb434)); have NB434_424 := zm ((by rw [hg]; exact Nat.ne_of_gt (blk_lt (g := gb424) (o := zcA) (zqK BK424.out)) : gb434 ≠ gb424)); replace BK424 := zm (zyb (g := gb424) (o := zcA) (zqK BK424.out) hb); have NB425_434 := zm ((by rw [hg]; exact Nat.ne_of_lt (blk_lt (g := gb425) (o := zcB) (zqK BK425.out)) : gb425 ≠ gb434)); have NB434_425 := zm ((by rw [hg]; exact Nat.ne_of_gt (blk_lt (g := gb425) (o := zcB) (zqK BK425.out)) : gb434 ≠ gb425)); replace BK425 := zm (zyb (g := gb425) (o := zcB) (zqK BK425.out) hb); have NB426_434 := zm ((by rw [hg]; exact Nat.ne_of_lt (IsS46.lt (show IsS46 w _ gb426 l0 t432 t433 from by repeat (first | (with_reducible first | exact HI426.out | apply zv1 | apply zv2 | apply zv3 | apply zv4 | apply zv5 | refine zv6 ?_ NB426_424.out _ | refine zv6 ?_ NB426_425.out _) | exact HI426.out))) : gb426 ≠ gb434)); have NB434_426 := zm ((by rw [hg]; exact Nat.ne_of_gt (IsS46.lt (show IsS46 w _ gb426 l0 t432 t433 from by repeat (first | (with_reducible first | exact HI426.out | apply zv1 | apply zv2 | apply zv3 | apply zv4 | apply zv5 | refine zv6 ?_ NB426_424.out _ | refine zv6 ?_ NB426_425.out _) | exact HI426.out))) : gb434 ≠ gb426)); replace HI426 := zm (IsS46.below (by repeat (first | (with_reducible first | exact HI426.out | apply zv1 | apply zv2 | apply zv3 | apply zv4 | apply zv5 | refine zv6 ?_ NB426_424.out _ | refine zv6 ?_ NB426_425.out _) | exact HI426.out)) hb); clear hb hbox hg; have hnb10 := NB434_424.out; have hnc10 := NB424_434.out; have hnb11 := NB434_425.out; have hnc11 := NB425_434.out; have hnb12 := NB434_426.out; have hnc12 := NB426_434.out; have hcz13_0 := bz BK434.out 0 (.int .i64 0); have hcz13_1 := bz BK434.out 1 (.int .i64 0); have hcz13_2 := bz BK434.out 2 (.slice none 0 0); have hfz13_0 := zyF BK434.out 0; have hfz13_1 := zyF BK434.out 1; have hfz13_2 := zyF BK434.out 2; obtain ⟨Ao14, co14, eo14⟩ := Kd.R_slice HO431.out; subst eo14) | ((with_reducible refine zyg (f := 37) rfl ?_); refine goesL_ (some 15) rfl rfl Try.func37 (by kernel_rfl) rfl #[.pointer (some ⟨gb426, 0, none⟩), .agg #[.int .i64 t427, .int .i64 t428, .slice Ao14 t429.length co14]] rfl zq0 ?_; (with_reducible refine (spec_l1Cur_area.calls k gb426 l0 t432 t433 t427 t428 _ _ t429 t435 t436 t437 w _ ?side1 ?side2 ?side3 ?side4 ?side5 A3.out).mono ?_); (case side1 => repeat (first | (with_reducible first | exact HI426.out | apply zv1 | apply zv2 | apply zv3 | apply zv4 | apply zv5 | refine zv6 ?_ NB426_424.out _ | refine zv6 ?_ NB426_425.out _ | refine zv6 ?_ NB426_434.out _) | exact HI426.out)); (case side2 => repeat (first | (with_reducible first | exact HB.out | apply zya | apply zyp | apply zyr | refine zys ?_ (IsS46.ge HI426.out) | refine zys ?_ GE424.out | refine zys ?_ GE425.out | refine zys ?_ GE434.out) | exact HB.out)); (case side3 => refine (Kd.R_reads' (e := 3) (base := w.heap.size) (ok := fun k_ => True) (n := t429.length) (c := co14) ?_).2.2; exact zq95); (case side4 => exact (Kd.R_reads' HO431.out).2.1); (case side5 => exact far_slice (IsS46.own_ne HI426.out HO431.out (by decide))); rintro e w15 ⟨rfl, hi, hb, hk⟩; refine ⟨_, rfl, ?_⟩; replace BK424 := zm (KeepBut.blk hk (g' := gb424) (o := zcA) (by (with_reducible repeat (first | apply zN | apply zD | apply zL)); refine zye ?_ NB424_434.out _; (with_reducible repeat (first | apply zN | apply zD | apply zL)); refine zye ?_ NB424_434.out _; (with_reducible repeat (first | apply zN | apply zD | apply zL)); refine zye ?_ NB424_434.out _; (with_reducible repeat (first | apply zN | apply zD | apply zL)); exact BK424.out) NB424_426.out (by simp)); replace BK425 := zm (KeepBut.blk hk (g' := gb425) (o := zcB) (by (with_reducible repeat (first | apply zN | apply zD | apply zL)); refine zye ?_ NB425_434.out _; (with_reducible repeat (first | apply zN | apply zD | apply zL)); refine zye ?_ NB425_434.out _; (with_reducible repeat (first | apply zN | apply zD | apply zL)); refine zye ?_ NB425_434.out _; (with_reducible repeat (first | apply zN | apply zD | apply zL)); exact BK425.out) NB425_426.out (by simp)); replace HO431 := zm (Kd.R_mono (Kd.R_keep (IsS46.apart (show IsS46 w _ gb426 l0 t432 t433 from by repeat (first | (with_reducible first | exact HI426.out | apply zv1 | apply zv2 | apply zv3 | apply zv4 | apply zv5 | refine zv6 ?_ NB426_424.out _ | refine zv6 ?_ NB426_425.out _ | refine zv6 ?_ NB426_434.out _) | exact HI426.out)) zq95 (by decide)) hk (fun _ h => h.2)) (fun _ h => h.1)); replace BK434 := zm (KeepBut.blk hk (g' := gb434) (o := .cells #[.int .i64 t427, .int .i64 t428, .slice Ao14 t429.length co14] 26 (0, 0)) (by (with_reducible repeat (first | apply zN | apply zD | apply zL)); refine blk_put (cs := #[.int .i64 t427, .int .i64 t428, .slice none 0 0]) ?_ 2 _ rfl; (with_reducible repeat (first | apply zN | apply zD | apply zL)); refine blk_put (cs := #[.int .i64 t427, .int .i64 0, .slice none 0 0]) ?_ 1 _ rfl; (with_reducible repeat (first | apply zN | apply zD | apply zL)); refine blk_put (cs := #[.int .i64 0, .int .i64 0, .slice none 0 0]) ?_ 0 _ rfl; (with_reducible repeat (first | apply zN | apply zD | apply zL)); exact BK434.out) NB434_426.out (by simp)); replace HB := zm (hb); replace HI426 := zm (hi); (try clear hb); (try clear hb2); (try clear hk); (try clear hi)))
 have n0_ := zm (Kd.R_drew HO431.out)
 have n1_ := zm (zD BK424.out)
 have n2_ := zm (zD BK425.out)
 have n3_ := zm (zD BK434.out)
 have n4_ := zm (zv3 HI426.out)
 have n5_ := zm (zyr HB.out)
 clear HO431
 clear BK424
 clear BK425
 clear BK434
 clear HI426
 clear HB
 have HO431 := n0_
 have BK424 := n1_
 have BK425 := n2_
 have BK434 := n3_
 have HI426 := n4_
 have HB := n5_
 clear n0_ n1_ n2_ n3_ n4_ n5_
 refine start_ (n := 8) (S := fun w' => w'.cell? ⟨gb434, 0, none⟩ = some (.int .i64 t427) ∧ w'.cell? ⟨gb434, 1, none⟩ = some (.int .i64 t428) ∧ w'.cell? ⟨gb434, 2, none⟩ = some (.slice Ao14 t429.length co14)) (ds := []) #[zf, zf, zf, zf, zf, zf, zf, zf] (by kernel_rfl) rfl rfl ⟨(zyk BK434.out 0).trans rfl, (zyk BK434.out 1).trans rfl, (zyk BK434.out 2).trans rfl⟩ (fun hHeld => ?_); refine with_tabW spec_DrawAreaMaximum.tab4 spec_DrawAreaMaximum.bits4 (fun HT_ HW_ => ?_)
 generalize w15.drew = w16 at HO431 BK424 BK425 BK434 HI426 HB hHeld ⊢
 refine zP 1 (some 17) #[zf, zt, zf, zf, zf, zf, zf, zf] ?_ rfl rfl HT_ (Or.inl ⟨by rfl, ?_⟩) ?_ ?_ ?_
 rotate_left; · exact zqB
 rotate_left; · exact zqA
 refine zP 2 (some 18) #[zf, zt, zt, zf, zf, zf, zf, zf] ?_ rfl rfl HT_ (Or.inl ⟨by rfl, ?_⟩) ?_ ?_ ?_
 rotate_left; · exact zqB
 rotate_left; · exact zqA
 refine zT 0 (some 16) #[zt, zt, zt, zf, zf, zf, zf, zf] ?_ rfl rfl HT_ HW_ (Or.inl ⟨by rfl, ?_⟩) hHeld ?_ ?_ ?_
 rotate_left
 ·
  rintro w' ⟨s0, s1, s2⟩
  go_simp
  with_reducible rfl
 rotate_left; · exact zqA
 refine zT 3 (some 19) #[zt, zt, zt, zt, zf, zf, zf, zf] ?_ rfl rfl HT_ HW_ (Or.inl ⟨by rfl, ?_⟩) hHeld ?_ ?_ ?_
 rotate_left
 ·
  rintro w' ⟨s0, s1, s2⟩
  go_simp
  with_reducible rfl
 rotate_left; · exact zqA
 refine one_ (i := 4) (N := some 20) #[zt, zt, zt, zt, zt, zf, zf, zf] rfl rfl (one_of HT_.out (by kernel_rfl)) (by decide) (fun K hK => ?_)
 refine goes_ Try.func18 (by kernel_rfl) rfl #[.pointer (some ⟨gb426, 0, none⟩), .agg #[.int .i64 t427, .int .i64 t428, .slice Ao14 t429.length co14]] (by rfl) rfl rfl zq0 ?_
 with_reducible refine (spec_l1Cur_fieldOf.calls k gb426 l0 t436 t437 t427 t428 _ _ t429 t438 t439 t440 t443 t444 w _ ?side1 ?side2 ?side3 ?side4 ?side5 A4.out).mono ?_
 (case side1 => repeat (first | (with_reducible first | exact HI426.out | apply zv1 | apply zv2 | apply zv3 | apply zv4 | apply zv5 | refine zv6 ?_ NB426_424.out _ | refine zv6 ?_ NB426_425.out _ | refine zv6 ?_ NB426_434.out _) | exact HI426.out))
 (case side2 => repeat (first | (with_reducible first | exact HB.out | apply zya | apply zyp | apply zyr | refine zys ?_ (IsS46.ge HI426.out) | refine zys ?_ GE424.out | refine zys ?_ GE425.out | refine zys ?_ GE434.out) | exact HB.out))
 (case side3 => exact zqC (Kd.R_reads' HO431.out).2.2)
 (case side4 => exact (Kd.R_reads' HO431.out).2.1)
 (case side5 => exact far_slice (IsS46.own_ne HI426.out HO431.out (by decide)))
 rintro e w17 ⟨v441, rfl, ho0, hi, hb, hk⟩
 refine ⟨_, rfl, ?_⟩
 have n0_ := zm (KeepBut.blk hk (g' := gb424) (o := zcA) (zqK BK424.out) NB424_426.out (by simp))
 have n1_ := zm (KeepBut.blk hk (g' := gb425) (o := zcB) (zqK BK425.out) NB425_426.out (by simp))
 have n2_ := zm (Kd.R_mono (Kd.R_told (Kd.R_oldK (IsS46.apart (show IsS46 w _ gb426 l0 t436 t437 from by repeat (first | (with_reducible first | exact HI426.out | apply zv1 | apply zv2 | apply zv3 | apply zv4 | apply zv5 | refine zv6 ?_ NB426_424.out _ | refine zv6 ?_ NB426_425.out _ | refine zv6 ?_ NB426_434.out _) | exact HI426.out)) (zqR HO431.out) (by decide)) hk) (Kd.Q_base ho0)) (fun _ h_ => h_.1))
 have n3_ := zm (KeepBut.blk hk (g' := gb434) (o := .cells #[.int .i64 t427, .int .i64 t428, .slice Ao14 t429.length co14] 26 (0, 0)) (zqK BK434.out) NB434_426.out (by simp))
 have n4_ := zm (Kd.Q_lower (Kd.Q_new' ho0 (Kd.R_lt (zqR HO431.out))) (zyi (by repeat (first | (with_reducible first | exact HB.out | apply zya | apply zyp | apply zyr | refine zys ?_ (IsS46.ge HI426.out) | refine zys ?_ GE424.out | refine zys ?_ GE425.out | refine zys ?_ GE434.out) | exact HB.out))))
 have n5_ := zm (hb)
 have n6_ := zm (hi)
 clear BK424
 clear BK425
 clear HO431
 clear BK434
 clear HB
 clear HI426
 have BK424 := n0_
 have BK425 := n1_
 have HO431 := n2_
 have BK434 := n3_
 have HO442 := n4_
 have HB := n5_
 have HI426 := n6_
 clear n0_ n1_ n2_ n3_ n4_ n5_ n6_
 (try clear hb)
 (try clear hb2)
 (try clear hk)
 (try clear hi)
 (try clear ho0)
 obtain ⟨Ao23, co23, eo23, _⟩ := Kd.Q_slice HO442.out
 (first | subst eo23 | (injection eo23 with f1_ f2_ f3_; have f4_ := f1_.symm; have f5_ := f3_.symm; clear f1_ f2_ f3_; subst f4_; subst f5_))
 refine hK.out _ _ ⟨(zyk BK434.out 0).trans rfl, (zyk BK434.out 1).trans rfl, (zyk BK434.out 2).trans rfl⟩ (fun hHeld => ?_)
 clear hK K
 refine norm_ (a' := ?_) ?_ ?_
 rotate_left
 ·
  show Act.put _ (some 20) _ = _
  simp only [Act.put, List.setIfInBounds_toArray, List.set_cons_zero, List.set_cons_succ, i64_w, i32_w]
  rfl
 refine one_ (i := 5) (N := none) #[zt, zt, zt, zt, zt, zt, zf, zf] rfl rfl (one_of HT_.out (by kernel_rfl)) (by decide) (fun K hK => ?_)
 have hs18 : w17.cell? ⟨gb424, 0, none⟩ = some (.int .i64 0) := (zyk BK424.out 0).trans rfl
 have hfs18 := zyF BK424.out 0
 have hns18_1 := NB425_424.out
 have hns18_2 := NB434_424.out
 have hms18_1 := NB424_425.out
 have hms18_2 := NB424_434.out
 have hs19 : w17.cell? ⟨gb424, 1, none⟩ = some (.int .i64 0) := (zyk BK424.out 1).trans rfl
 have hfs19 := zyF BK424.out 1
 have hns19_1 := NB425_424.out
 have hns19_2 := NB434_424.out
 have hms19_1 := NB424_425.out
 have hms19_2 := NB424_434.out
 have hs20 : w17.cell? ⟨gb424, 2, none⟩ = some (.slice none 0 0) := (zyk BK424.out 2).trans rfl
 have hfs20 := zyF BK424.out 2
 have hns20_1 := NB425_424.out
 have hns20_2 := NB434_424.out
 have hms20_1 := NB424_425.out
 have hms20_2 := NB424_434.out
 refine skip_ (w1 := ?_) (by rfl) rfl ?_ ?_
 rotate_left
 ·
  go_simp
  rfl
 refine hK.out _ _ ⟨((cell_far (p := ⟨gb424, _, none⟩) NB434_424.out _).trans (((cell_far (p := ⟨gb424, _, none⟩) NB434_424.out _).trans (((cell_far (p := ⟨gb424, _, none⟩) NB434_424.out _).trans (hHeld.1)))))), ((cell_far (p := ⟨gb424, _, none⟩) NB434_424.out _).trans (((cell_far (p := ⟨gb424, _, none⟩) NB434_424.out _).trans (((cell_far (p := ⟨gb424, _, none⟩) NB434_424.out _).trans (hHeld.2.1)))))), ((cell_far (p := ⟨gb424, _, none⟩) NB434_424.out _).trans (((cell_far (p := ⟨gb424, _, none⟩) NB434_424.out _).trans (((cell_far (p := ⟨gb424, _, none⟩) NB434_424.out _).trans (hHeld.2.2))))))⟩ (fun hHeld => ?_)
 clear hK K
 refine zP 6 (some 3) #[zt, zt, zt, zt, zt, zt, zt, zf] ?_ rfl rfl HT_ (Or.inl ⟨by rfl, ?_⟩) ?_ ?_ ?_
 rotate_left; · exact zqB
 rotate_left; · exact zqA
 refine one_ (i := 7) (N := none) #[zt, zt, zt, zt, zt, zt, zt, zt] rfl rfl (one_of HT_.out (by kernel_rfl)) (by decide) (fun K hK => ?_)
 have hs21 : w17.cell? ⟨gb425, 0, none⟩ = some (.int .i64 0) := (zyk BK425.out 0).trans rfl
 have hfs21 := zyF BK425.out 0
 have hns21_0 := NB424_425.out
 have hns21_2 := NB434_425.out
 have hms21_0 := NB425_424.out
 have hms21_2 := NB425_434.out
 have hs22 : w17.cell? ⟨gb425, 1, none⟩ = some (.int .i64 0) := (zyk BK425.out 1).trans rfl
 have hfs22 := zyF BK425.out 1
 have hns22_0 := NB424_425.out
 have hns22_2 := NB434_425.out
 have hms22_0 := NB425_424.out
 have hms22_2 := NB425_434.out
 have hs24 : w17.cell? ⟨gb425, 2, none⟩ = some (.slice none 0 0) := (zyk BK425.out 2).trans rfl
 have hfs24 := zyF BK425.out 2
 have hns24_0 := NB424_425.out
 have hns24_2 := NB434_425.out
 have hms24_0 := NB425_424.out
 have hms24_2 := NB425_434.out
 refine skip_ (w1 := ?_) (by rfl) rfl ?_ ?_
 rotate_left
 ·
  go_simp
  rfl
 refine hK.out _ _ ⟨((cell_far (p := ⟨gb425, _, none⟩) NB434_425.out _).trans (((cell_far (p := ⟨gb425, _, none⟩) NB434_425.out _).trans (((cell_far (p := ⟨gb425, _, none⟩) NB434_425.out _).trans (hHeld.1)))))), ((cell_far (p := ⟨gb425, _, none⟩) NB434_425.out _).trans (((cell_far (p := ⟨gb425, _, none⟩) NB434_425.out _).trans (((cell_far (p := ⟨gb425, _, none⟩) NB434_425.out _).trans (hHeld.2.1)))))), ((cell_far (p := ⟨gb425, _, none⟩) NB434_425.out _).trans (((cell_far (p := ⟨gb425, _, none⟩) NB434_425.out _).trans (((cell_far (p := ⟨gb425, _, none⟩) NB434_425.out _).trans (hHeld.2.2))))))⟩ (fun hHeld => ?_)
 clear hK K
 refine done_ (done_of HT_.out (by kernel_rfl)) ?_
 try go_wp2
 refine bodyPost_ret (results_list (rs := [.cell 2 26, .tmp 3, .cell 4 27]) rfl (by simp) (.cell gb424 26 #[.int .i64 t427, .int .i64 t428, .slice Ao14 t429.length co14] (0, 0) _ rfl (by (with_reducible repeat (first | apply zN | apply zD | apply zL)); refine zye ?_ NB424_425.out _; (with_reducible repeat (first | apply zN | apply zD | apply zL)); refine zye ?_ NB424_425.out _; (with_reducible repeat (first | apply zN | apply zD | apply zL)); refine zye ?_ NB424_425.out _; (with_reducible repeat (first | apply zN | apply zD | apply zL)); refine blk_put (cs := #[.int .i64 t427, .int .i64 t428, .slice none 0 0]) ?_ 2 _ rfl; (with_reducible repeat (first | apply zN | apply zD | apply zL)); refine blk_put (cs := #[.int .i64 t427, .int .i64 0, .slice none 0 0]) ?_ 1 _ rfl; (with_reducible repeat (first | apply zN | apply zD | apply zL)); refine blk_put (cs := #[.int .i64 0, .int .i64 0, .slice none 0 0]) ?_ 0 _ rfl; (with_reducible repeat (first | apply zN | apply zD | apply zL)); exact BK424.out) Try.underlying26 rfl (by kernel_rfl) (.tmp (.cell gb425 27 #[.int .i64 t438, .int .i64 t439, .slice Ao23 t440.length co23] (0, 0) _ rfl (by (with_reducible repeat (first | apply zN | apply zD | apply zL)); refine blk_put (cs := #[.int .i64 t438, .int .i64 t439, .slice none 0 0]) ?_ 2 _ rfl; (with_reducible repeat (first | apply zN | apply zD | apply zL)); refine blk_put (cs := #[.int .i64 t438, .int .i64 0, .slice none 0 0]) ?_ 1 _ rfl; (with_reducible repeat (first | apply zN | apply zD | apply zL)); refine blk_put (cs := #[.int .i64 0, .int .i64 0, .slice none 0 0]) ?_ 0 _ rfl; (with_reducible repeat (first | apply zN | apply zD | apply zL)); refine zye ?_ NB425_424.out _; (with_reducible repeat (first | apply zN | apply zD | apply zL)); refine zye ?_ NB425_424.out _; (with_reducible repeat (first | apply zN | apply zD | apply zL)); refine zye ?_ NB425_424.out _; (with_reducible repeat (first | apply zN | apply zD | apply zL)); exact BK425.out) Try.underlying27 rfl (by kernel_rfl) .nil)))) rfl ?_
 exact ⟨_, _, by first | rfl | (simp [errW_none, errW_some] <;> rfl) | (simp [*, errW_none, errW_some] <;> rfl), by (with_reducible repeat (first | apply Kd.R_alloc | apply Kd.R_drewN | apply Kd.R_drew)); exact Kd.R_mono (Kd.R_far (p := ⟨gb425, 2, none⟩) (Kd.R_far (p := ⟨gb425, 1, none⟩) (Kd.R_far (p := ⟨gb425, 0, none⟩) (Kd.R_far (p := ⟨gb424, 2, none⟩) (Kd.R_far (p := ⟨gb424, 1, none⟩) (Kd.R_far (p := ⟨gb424, 0, none⟩) (Kd.R_types (Kd.R_types HO431.out BK424.out (by decide)) BK425.out (by decide)) (fun _ hk => hk.1.2) (.int .i64 t427)) (fun _ hk => hk.1.2) (.int .i64 t428)) (fun _ hk => hk.1.2) (.slice Ao14 t429.length co14)) (fun _ hk => hk.2) (.int .i64 t438)) (fun _ hk => hk.2) (.int .i64 t439)) (fun _ hk => hk.2) (.slice Ao23 t440.length co23)) (fun _ hk => hk.1.1.2), by (with_reducible repeat (first | apply Kd.Q_alloc | apply Kd.Q_drewN | apply Kd.Q_drew)); exact Kd.Q_mono (Kd.Q_far (p := ⟨gb425, 2, none⟩) (Kd.Q_far (p := ⟨gb425, 1, none⟩) (Kd.Q_far (p := ⟨gb425, 0, none⟩) (Kd.Q_far (p := ⟨gb424, 2, none⟩) (Kd.Q_far (p := ⟨gb424, 1, none⟩) (Kd.Q_far (p := ⟨gb424, 0, none⟩) (Kd.Q_types (Kd.Q_types HO442.out BK424.out (by decide)) BK425.out (by decide)) (fun _ hk => hk.1.2) (.int .i64 t427)) (fun _ hk => hk.1.2) (.int .i64 t428)) (fun _ hk => hk.1.2) (.slice Ao14 t429.length co14)) (fun _ hk => hk.2) (.int .i64 t438)) (fun _ hk => hk.2) (.int .i64 t439)) (fun _ hk => hk.2) (.slice Ao23 t440.length co23)) (fun _ hk => hk.1.1.2), (by repeat (first | (with_reducible first | exact HB.out | apply zya | apply zyp | apply zyr | refine zys ?_ (IsS46.ge HI426.out) | refine zys ?_ GE424.out | refine zys ?_ GE425.out | refine zys ?_ GE434.out) | exact HB.out))⟩
def maxN (l : List Int) : Nat → Int
 | 0 => l.getD 0 0
 | j + 1 => mx (maxN l j) (l.getD (j + 1) 0)
def slices_Max_int_int.f (l0 : List Int) : Option Int := if 0 < l0.length then some (maxN l0 (l0.length - 1)) else none
set_option maxHeartbeats 4000000 in
theorem slices_Max_int_int.calls (A0 : Option Addr) (c0 : Nat) (l0 : List Int) (r : Int) (w : World) (hr0 : Kd.C (Kd.int .i64) w A0 l0.length l0) (hc0 : l0.length ≤ c0) (h : slices_Max_int_int.f l0 = some r) :
  Calls Try.prog 38 #[.slice A0 l0.length c0] w fun e w' => e = .returned (.int .i64 r) ∧ Below w.heap.size w w' := by
 have hbig : l0.length ≤ 9223372036854775807 := hr0.2.1
 unfold slices_Max_int_int.f at h
 by_cases h0 : 0 < l0.length
 case neg =>
  rw [if_neg h0] at h
  cases h
 rw [if_pos h0] at h
 obtain rfl := Option.some.inj h
 clear h
 have HR0 := zm hr0
 obtain ⟨ad, e0, hx0⟩ := Kd.at_int hr0 0 (by omega) (by omega)
 cases e0
 have hz : (rd l0 0) = maxN l0 0 := rfl
 rw [hz, show ad.add (Int.toNat 0) = ad from by cases ad; rfl] at hx0
 have h1 : ¬ (l0.length : Int) < 1 := by omega
 have h2 : (0 : Int) < (l0.length : Int) := by omega
 clear hr0 hz hc0
 generalize hm : maxN l0 0 = m0 at hx0
 have HM := zm hm
 clear hm
 go_enter Try.func38, Try.ntmps38
 go_wp2
 go_loopg [3, 4] l0.length (fun gg s3 s4 wr => ∃ j : Nat, j < l0.length ∧ l0.length - (j + 1) ≤ gg ∧ Aside0 (s3 = .int .i64 (maxN l0 j)) ∧ s4 = .int .i64 ((j : Int) + 1) ∧ w = wr)
 case atStart => exact ⟨0, h0, by omega, ⟨by rw [HM.out]⟩, by go_num, rfl⟩
 obtain ⟨j, hj, hg, ⟨rfl⟩, rfl, rfl⟩ := hrel
 clear hx0
 by_cases hlt : j + 1 < l0.length
 case neg =>
  have hltz : ¬ (j : Int) + 1 < (l0.length : Int) := by omega
  have : j = l0.length - 1 := by omega
  generalize hu : maxN l0 j = u
  have HU := zm hu
  clear hu
  have HJ := zm this
  clear this
  go_wp2
  go_ret
  exact ⟨by show Ending.returned (Value.int .i64 u) = _; rw [← HU.out, ← HJ.out], Below.refl _ _⟩
 have hltz : (j : Int) + 1 < (l0.length : Int) := by omega
 obtain ⟨ad', e1, hx1⟩ := Kd.at_int HR0.out ((j : Int) + 1) (by omega) hltz
 cases e1
 have e2 : rd l0 ((j : Int) + 1) = l0.getD (j + 1) 0 := rfl
 rw [e2, show ((j : Int) + 1).toNat = j + 1 from by omega] at hx1
 clear e2
 generalize hv : l0.getD (j + 1) 0 = v at hx1
 replace hx1 : w.cell? ⟨ad.block, ad.off + (j + 1), none⟩ = some (.int .i64 v) := hx1
 have HV := zm hv
 clear hv
 generalize hu : maxN l0 j = u
 have HU := zm hu
 clear hu
 by_cases huv : u < v
 case neg =>
  go_wp2
  go_roundg (l0.length - (j + 1 + 1))
  case measure => omega
  case rel => exact ⟨j + 1, hlt, by omega, ⟨by show Value.int .i64 _ = Value.int .i64 (mx (maxN l0 j) (l0.getD (j + 1) 0)); rw [HU.out, HV.out]; unfold mx; rw [if_neg (by omega)]⟩, by go_num, rfl⟩
 go_wp2
 go_roundg (l0.length - (j + 1 + 1))
 case measure => omega
 case rel => exact ⟨j + 1, hlt, by omega, ⟨by show Value.int .i64 _ = Value.int .i64 (mx (maxN l0 j) (l0.getD (j + 1) 0)); rw [HU.out, HV.out]; unfold mx; rw [if_pos huv]⟩, by go_num, rfl⟩
end Go.Proofs.Ytfaihkhdbapjmaa.Q
