/- Texts of this claim, put together: walks of the program's functions, and plain facts. -/
import Derived.Test.YtfaihkhdbapjmaaZFnAffected
import Derived.Test.YtfaihkhdbapjmaaBFnAffected0
import Derived.Test.YtfaihkhdbapjmaaBFnAffected3
import Derived.Test.YtfaihkhdbapjmaaBFnAffected8
import Derived.Test.YtfaihkhdbapjmaaBFnAffected9
import Derived.Test.YtfaihkhdbapjmaaBFnAffected10
import Derived.Test.YtfaihkhdbapjmaaBFnAffected11
namespace Go.Proofs.Ytfaihkhdbapjmaa.Q
open Go.RowKit Go.Proofs.YtfaihkhdbapjmaaW.PrintWords Go.Proofs.YtfaihkhdbapjmaaW.PrintLast Go.Proofs.YtfaihkhdbapjmaaW.PrintMore
attribute [local go_sem] max2_int min2_int max_two min_two max_three min_three max_four min_four
set_option linter.unusedVariables false
set_option linter.unusedSimpArgs false
def impl_AreaMaximum.j0 : Nat → Int → Bool → Int → Int → List Int → Int → Int → List Int → Option (Int × Bool)
 | 0, _, _, _, _, _, _, _, _ => none
 | k + 1, x1, x19, x446000, x446001, x446002, x447000, x447001, x447002 => if x19 = true then (some (0, false)) else ((impl_areaValues.f k x446000 x446001 x446002 x1 x447000 x447001 x447002).bind fun t452 => (if (t452.length : Int) = 0 then (some (0, false)) else ((slices_Max_int_int.f t452).bind fun t455 => (some (t455, true)))))
def impl_AreaMaximum.f (k : Nat) (a0_0 : Int) (a0_1 : Int) (l0_2 : List Int) (a1 : Int) (a2_0 : Int) (a2_1 : Int) (l2_2 : List Int) : Option (Int × Bool) := (impl_hasAreas.f k a0_0 a0_1 l0_2 (([a1] : List Int))).bind fun t450 => (if t450 = true then ((impl_fitsMap.f a0_0 a0_1 l0_2 a2_0 a2_1 l2_2).bind fun t451 => (impl_AreaMaximum.j0 k a1 (!t451) a0_0 a0_1 l0_2 a2_0 a2_1 l2_2)) else (impl_AreaMaximum.j0 k a1 true a0_0 a0_1 l0_2 a2_0 a2_1 l2_2))
set_option maxHeartbeats 8000000 in
set_option maxRecDepth 100000 in
theorem impl_AreaMaximum.calls (k : Nat) (a0_0 : Int) (a0_1 : Int) (A0_2 : Option Addr) (c0_2 : Nat) (l0_2 : List Int) (a1 : Int) (a2_0 : Int) (a2_1 : Int) (A2_2 : Option Addr) (c2_2 : Nat) (l2_2 : List Int) (r1 : Int) (r2 : Bool) (w : World) (hr0_2 : Kd.C (Kd.int .i64) w A0_2 l0_2.length l0_2) (hc0_2 : l0_2.length ≤ c0_2) (hr2_2 : Kd.C (Kd.int .i64) w A2_2 l2_2.length l2_2) (hc2_2 : l2_2.length ≤ c2_2) (h : impl_AreaMaximum.f k a0_0 a0_1 l0_2 a1 a2_0 a2_1 l2_2 = some (r1, r2)) :
  Calls Try.prog 13 #[.agg #[.int .i64 a0_0, .int .i64 a0_1, .slice A0_2 l0_2.length c0_2], .int .i64 a1, .agg #[.int .i64 a2_0, .int .i64 a2_1, .slice A2_2 l2_2.length c2_2]] w fun e w' => e = .returned (.tuple #[.int .i64 r1, .bool r2]) ∧ Below w.heap.size w w' := by
 have hu26 := Try.underlying26
 have hu27 := Try.underlying27
 have HR0_2 := zm hr0_2
 have HC0_2 := zm hc0_2
 clear hr0_2 hc0_2
 have HR2_2 := zm hr2_2
 have HC2_2 := zm hc2_2
 clear hr2_2 hc2_2
 have HB := zm (Below.refl w.heap.size w)
 have H : ((impl_hasAreas.f k a0_0 a0_1 l0_2 (([a1] : List Int))).bind fun t450 => (if t450 = true then ((impl_fitsMap.f a0_0 a0_1 l0_2 a2_0 a2_1 l2_2).bind fun t451 => (impl_AreaMaximum.j0 k a1 (!t451) a0_0 a0_1 l0_2 a2_0 a2_1 l2_2)) else (impl_AreaMaximum.j0 k a1 true a0_0 a0_1 l0_2 a2_0 a2_1 l2_2))) = some (r1, r2) := h
 clear h
 have HC4 := zm H
 clear H
 go_enter Try.func13, Try.ntmps13
 go_upto_region 1 with (first | ((with_reducible refine gate_dst (N := 3) rfl ?_); refine box_event ?hg (N := 3) ?hd (cs := #[.int .i64 a0_0, .int .i64 a0_1, .slice A0_2 l0_2.length c0_2]) (t := 26) ?hr ?_; (case hd => rfl); (case hg => rfl); (case hr => exact zqS); intro gb445 hg w5 hbox hb; have BK445 := zm (hbox); have GW445 := zm ((by rw [hg]; exact (zyi zq1) : w.heap.size ≤ gb445)); replace HB := zm (zyh zq1 hb); have GE445 := GW445; clear hb hbox hg) | ((with_reducible refine gate_dst (N := 5) rfl ?_); refine box_event ?hg (N := 5) ?hd (cs := #[.int .i64 a2_0, .int .i64 a2_1, .slice A2_2 l2_2.length c2_2]) (t := 27) ?hr ?_; (case hd => rfl); (case hg => rfl); (case hr => exact zqS); intro gb446 hg w6 hbox hb; have BK446 := zm (hbox); have GW446 := zm ((by rw [hg]; exact (zyi zq103) : w.heap.size ≤ gb446)); replace HB := zm (zyh zq103 hb); have GE446 := GW446; have NB445_446 := zm ((by rw [hg]; exact Nat.ne_of_lt (blk_lt (g := gb445) (o := .cells #[.int .i64 a0_0, .int .i64 a0_1, .slice A0_2 l0_2.length c0_2] 26 (0, 0)) (zqK BK445.out)) : gb445 ≠ gb446)); have NB446_445 := zm ((by rw [hg]; exact Nat.ne_of_gt (blk_lt (g := gb445) (o := .cells #[.int .i64 a0_0, .int .i64 a0_1, .slice A0_2 l0_2.length c0_2] 26 (0, 0)) (zqK BK445.out)) : gb446 ≠ gb445)); replace BK445 := zm (zyb (g := gb445) (o := .cells #[.int .i64 a0_0, .int .i64 a0_1, .slice A0_2 l0_2.length c0_2] 26 (0, 0)) (zqK BK445.out) hb); clear hb hbox hg))
 (try simp only [Act.put, List.setIfInBounds_toArray, List.set_cons_zero, List.set_cons_succ])
 go_cut [19] (fun v19 wc => ∃ (kq : Nat) (x19_3 : Bool), v19 = .bool x19_3 ∧ Aside0 (impl_AreaMaximum.j0 kq a1 x19_3 a0_0 a0_1 l0_2 a2_0 a2_1 l2_2 = some (r1, r2)) ∧ Aside0 (kq ≤ k) ∧ Aside0 (wc.heap[gb445]? = some (.cells #[.int .i64 a0_0, .int .i64 a0_1, (.slice A0_2 l0_2.length c0_2)] 26 (0, 0))) ∧ Aside0 (wc.heap[gb446]? = some (.cells #[.int .i64 a2_0, .int .i64 a2_1, (.slice A2_2 l2_2.length c2_2)] 27 (0, 0))) ∧ Aside0 (Below w.heap.size w wc))
 case first =>
  have H := HC4.out
  clear HC4
  obtain ⟨y447, hy447⟩ : ∃ y_ : List Int, y_ = (([a1] : List Int)) := ⟨_, rfl⟩
  replace H : ((impl_hasAreas.f k a0_0 a0_1 l0_2 y447).bind fun t450 => (if t450 = true then ((impl_fitsMap.f a0_0 a0_1 l0_2 a2_0 a2_1 l2_2).bind fun t451 => (impl_AreaMaximum.j0 k a1 (!t451) a0_0 a0_1 l0_2 a2_0 a2_1 l2_2)) else (impl_AreaMaximum.j0 k a1 true a0_0 a0_1 l0_2 a2_0 a2_1 l2_2))) = some (r1, r2) := zqH hy447 H
  have Ny447 := zm hy447
  clear hy447
  obtain ⟨t450, A70, H⟩ := zob H
  replace H : (if t450 = true then ((impl_fitsMap.f a0_0 a0_1 l0_2 a2_0 a2_1 l2_2).bind fun t451 => (impl_AreaMaximum.j0 k a1 (!t451) a0_0 a0_1 l0_2 a2_0 a2_1 l2_2)) else (impl_AreaMaximum.j0 k a1 true a0_0 a0_1 l0_2 a2_0 a2_1 l2_2)) = some (r1, r2) := H
  have A7 := zm A70
  clear A70
  by_cases c8 : t450 = true
  case neg =>
   replace c8 := Bool.eq_false_iff.mpr c8
   subst c8
   have H1 : (impl_AreaMaximum.j0 k a1 true a0_0 a0_1 l0_2 a2_0 a2_1 l2_2) = some (r1, r2) := by rw [if_neg (show ¬ (false = true) by decide)] at H; exact H
   clear H
   have H := H1
   clear H1
   have H' := zm H
   clear H
   have hnb19 := NB445_446.out
   have hnc19 := NB446_445.out
   have hcz20_0 := bz BK445.out 0 (.int .i64 a0_0)
   have hcz20_1 := bz BK445.out 1 (.int .i64 a0_1)
   have hcz20_2 := bz BK445.out 2 (.slice A0_2 l0_2.length c0_2)
   have hfz20_0 := zyF BK445.out 0
   have hfz20_1 := zyF BK445.out 1
   have hfz20_2 := zyF BK445.out 2
   go_wp2_with (first | ((with_reducible refine gate_dst (N := 11) rfl ?_); refine Kd.R_lit (Kd.int .i64) _ 3 ?hg (N := 11) ?hd (xs := ([a1] : List Int)) (inner := [.int .i64 a1]) (ok := fun _ => True) (okp := fun _ => True) ?hr ?hp (fun _ hk => hk) trivial (Below.refl _ _) (Nat.le_refl _) (by simp) ?_; (case hd => rfl); (case hg => rfl); (case hr => exact zqS); (case hp => exact (Reps.one (show Kd.M (Kd.int .i64) _ _ _ a1 [.int .i64 a1] from rfl) (Reps.none _ _))); intro v448 w21 ho22 hb hg_ hnew_; clear hg_ hnew_; (first | rw [← Ny447.out] at ho22 | (simp only [Int.reduceToNat] at ho22; rw [← Ny447.out] at ho22)); have HO449 := zm (Kd.R_lower ho22 (zyi zq19)); replace BK445 := zm (zyb (g := gb445) (o := .cells #[.int .i64 a0_0, .int .i64 a0_1, .slice A0_2 l0_2.length c0_2] 26 (0, 0)) (zqK BK445.out) hb); replace BK446 := zm (zyb (g := gb446) (o := .cells #[.int .i64 a2_0, .int .i64 a2_1, .slice A2_2 l2_2.length c2_2] 27 (0, 0)) (zqK BK446.out) hb); replace HB := zm (zyh zq19 hb); clear hb ho22; obtain ⟨Ao23, co23, eo23⟩ := Kd.R_slice HO449.out; subst eo23) | ((with_reducible refine zyg (f := 36) rfl ?_); refine goesL_ (some 12) rfl rfl Try.func36 (by kernel_rfl) rfl #[.agg #[.int .i64 a0_0, .int .i64 a0_1, .slice A0_2 l0_2.length c0_2], .slice Ao23 y447.length co23] rfl zq0 ?_; (with_reducible refine (impl_hasAreas.calls k a0_0 a0_1 _ _ l0_2 _ _ y447 false _ ?side1 ?side2 ?side3 ?side4 A7.out).mono ?_); (case side1 => exact zqC (Kd.C_below HR0_2.out HB.out)); (case side2 => exact HC0_2.out); (case side3 => exact zqC (Kd.R_reads' HO449.out).2.2); (case side4 => exact (Kd.R_reads' HO449.out).2.1); rintro e w24 ⟨rfl, hb⟩; refine ⟨_, rfl, ?_⟩; replace HO449 := zm (Kd.R_below (zqR HO449.out) hb); replace BK445 := zm (zyb (g := gb445) (o := .cells #[.int .i64 a0_0, .int .i64 a0_1, .slice A0_2 l0_2.length c0_2] 26 (0, 0)) (zqK BK445.out) hb); replace BK446 := zm (zyb (g := gb446) (o := .cells #[.int .i64 a2_0, .int .i64 a2_1, .slice A2_2 l2_2.length c2_2] 27 (0, 0)) (zqK BK446.out) hb); replace HB := zm (zyh zq19 hb); (try clear hb); (try clear hb2); (try clear hk); (try clear hi)))
   go_meet
   case rel => exact ⟨_, (true), (by first | rfl | (simp; done) | (simp [*]; done)), H', ⟨by first | omega | exact Nat.le_refl _⟩, ⟨by (with_reducible repeat (first | apply zN | apply zD | apply zL)); exact BK445.out⟩, ⟨by (with_reducible repeat (first | apply zN | apply zD | apply zL)); exact BK446.out⟩, ⟨zq19⟩⟩
  subst c8
  have H1 : ((impl_fitsMap.f a0_0 a0_1 l0_2 a2_0 a2_1 l2_2).bind fun t451 => (impl_AreaMaximum.j0 k a1 (!t451) a0_0 a0_1 l0_2 a2_0 a2_1 l2_2)) = some (r1, r2) := by rw [if_pos rfl] at H; exact H
  clear H
  have H := H1
  clear H1
  obtain ⟨t451, A90, H⟩ := zob H
  replace H : (impl_AreaMaximum.j0 k a1 (!t451) a0_0 a0_1 l0_2 a2_0 a2_1 l2_2) = some (r1, r2) := H
  have A9 := zm A90
  clear A90
  have H' := zm H
  clear H
  have hnb10 := NB445_446.out
  have hnc10 := NB446_445.out
  have hcz11_0 := bz BK445.out 0 (.int .i64 a0_0)
  have hcz11_1 := bz BK445.out 1 (.int .i64 a0_1)
  have hcz11_2 := bz BK445.out 2 (.slice A0_2 l0_2.length c0_2)
  have hfz11_0 := zyF BK445.out 0
  have hfz11_1 := zyF BK445.out 1
  have hfz11_2 := zyF BK445.out 2
  go_wp2_with (first | ((with_reducible refine gate_dst (N := 11) rfl ?_); refine Kd.R_lit (Kd.int .i64) _ 3 ?hg (N := 11) ?hd (xs := ([a1] : List Int)) (inner := [.int .i64 a1]) (ok := fun _ => True) (okp := fun _ => True) ?hr ?hp (fun _ hk => hk) trivial (Below.refl _ _) (Nat.le_refl _) (by simp) ?_; (case hd => rfl); (case hg => rfl); (case hr => exact zqS); (case hp => exact (Reps.one (show Kd.M (Kd.int .i64) _ _ _ a1 [.int .i64 a1] from rfl) (Reps.none _ _))); intro v448 w12 ho13 hb hg_ hnew_; clear hg_ hnew_; (first | rw [← Ny447.out] at ho13 | (simp only [Int.reduceToNat] at ho13; rw [← Ny447.out] at ho13)); have HO449 := zm (Kd.R_lower ho13 (zyi zq19)); replace BK445 := zm (zyb (g := gb445) (o := .cells #[.int .i64 a0_0, .int .i64 a0_1, .slice A0_2 l0_2.length c0_2] 26 (0, 0)) (zqK BK445.out) hb); replace BK446 := zm (zyb (g := gb446) (o := .cells #[.int .i64 a2_0, .int .i64 a2_1, .slice A2_2 l2_2.length c2_2] 27 (0, 0)) (zqK BK446.out) hb); replace HB := zm (zyh zq19 hb); clear hb ho13; obtain ⟨Ao14, co14, eo14⟩ := Kd.R_slice HO449.out; subst eo14) | ((with_reducible refine zyg (f := 36) rfl ?_); refine goesL_ (some 12) rfl rfl Try.func36 (by kernel_rfl) rfl #[.agg #[.int .i64 a0_0, .int .i64 a0_1, .slice A0_2 l0_2.length c0_2], .slice Ao14 y447.length co14] rfl zq0 ?_; (with_reducible refine (impl_hasAreas.calls k a0_0 a0_1 _ _ l0_2 _ _ y447 true _ ?side1 ?side2 ?side3 ?side4 A7.out).mono ?_); (case side1 => exact zqC (Kd.C_below HR0_2.out HB.out)); (case side2 => exact HC0_2.out); (case side3 => exact zqC (Kd.R_reads' HO449.out).2.2); (case side4 => exact (Kd.R_reads' HO449.out).2.1); rintro e w15 ⟨rfl, hb⟩; refine ⟨_, rfl, ?_⟩; replace HO449 := zm (Kd.R_below (zqR HO449.out) hb); replace BK445 := zm (zyb (g := gb445) (o := .cells #[.int .i64 a0_0, .int .i64 a0_1, .slice A0_2 l0_2.length c0_2] 26 (0, 0)) (zqK BK445.out) hb); replace BK446 := zm (zyb (g := gb446) (o := .cells #[.int .i64 a2_0, .int .i64 a2_1, .slice A2_2 l2_2.length c2_2] 27 (0, 0)) (zqK BK446.out) hb); replace HB := zm (zyh zq19 hb); (try clear hb); (try clear hb2); (try clear hk); (try clear hi); have hcz16_0 := bz BK445.out 0 (.int .i64 a0_0); have hcz16_1 := bz BK445.out 1 (.int .i64 a0_1); have hcz16_2 := bz BK445.out 2 (.slice A0_2 l0_2.length c0_2); have hfz16_0 := zyF BK445.out 0; have hfz16_1 := zyF BK445.out 1; have hfz16_2 := zyF BK445.out 2; have hcz17_0 := bz BK446.out 0 (.int .i64 a2_0); have hcz17_1 := bz BK446.out 1 (.int .i64 a2_1); have hcz17_2 := bz BK446.out 2 (.slice A2_2 l2_2.length c2_2); have hfz17_0 := zyF BK446.out 0; have hfz17_1 := zyF BK446.out 1; have hfz17_2 := zyF BK446.out 2) | (go_at_call 21; (with_reducible refine (impl_fitsMap.calls a0_0 a0_1 _ _ l0_2 a2_0 a2_1 _ _ l2_2 t451 _ ?side1 ?side2 ?side3 ?side4 A9.out).mono ?_); (case side1 => exact zqC (Kd.C_below HR0_2.out HB.out)); (case side2 => exact HC0_2.out); (case side3 => exact zqC (Kd.C_below HR2_2.out HB.out)); (case side4 => exact HC2_2.out); rintro e w18 ⟨rfl, hb⟩; replace HO449 := zm (Kd.R_below (zqR HO449.out) hb); replace BK445 := zm (zyb (g := gb445) (o := .cells #[.int .i64 a0_0, .int .i64 a0_1, .slice A0_2 l0_2.length c0_2] 26 (0, 0)) (zqK BK445.out) hb); replace BK446 := zm (zyb (g := gb446) (o := .cells #[.int .i64 a2_0, .int .i64 a2_1, .slice A2_2 l2_2.length c2_2] 27 (0, 0)) (zqK BK446.out) hb); replace HB := zm (zyh zq19 hb); (try clear hb); (try clear hb2); (try clear hk); (try clear hi)))
  go_meet
  case rel => exact ⟨_, (!t451), (by first | rfl | (simp; done) | (simp [*]; done)), H', ⟨by first | omega | exact Nat.le_refl _⟩, ⟨by (with_reducible repeat (first | apply zN | apply zD | apply zL)); exact BK445.out⟩, ⟨by (with_reducible repeat (first | apply zN | apply zD | apply zL)); exact BK446.out⟩, ⟨zq19⟩⟩
 clear HC4
 try clear c1
 try clear c2
 try clear p2
 try clear c3
 try clear c8
 try clear c10
 try clear c13
 try clear c19
 try clear hcz11_0
 try clear hcz11_1
 try clear hcz11_2
 try clear hcz16_0
 try clear hcz16_1
 try clear hcz16_2
 try clear hcz17_0
 try clear hcz17_1
 try clear hcz17_2
 try clear hcz20_0
 try clear hcz20_1
 try clear hcz20_2
 try clear hfz11_0
 try clear hfz11_1
 try clear hfz11_2
 try clear hfz16_0
 try clear hfz16_1
 try clear hfz16_2
 try clear hfz17_0
 try clear hfz17_1
 try clear hfz17_2
 try clear hfz20_0
 try clear hfz20_1
 try clear hfz20_2
 obtain ⟨kq, x19_3, rfl, HA, HJ3, BK445, BK446, HB⟩ := hcut
 cases kq with
 | zero => exact absurd HA.out (by simp [impl_AreaMaximum.j0])
 | succ kj3 =>
  have H := HA.out
  clear HA
  simp only [impl_AreaMaximum.j0] at H
  by_cases c25 : x19_3 = true
  case pos =>
   subst c25
   have H1 : (some (0, false)) = some (r1, r2) := by rw [if_pos rfl] at H; exact H
   clear H
   have H := H1
   clear H1
   simp only [Option.some.injEq, Prod.mk.injEq] at H
   obtain ⟨rfl, rfl⟩ := H
   go_wp2
   go_ret2
   exact ⟨zqE, zq19⟩
  replace c25 := Bool.eq_false_iff.mpr c25
  subst c25
  have H1 : ((impl_areaValues.f kj3 a0_0 a0_1 l0_2 a1 a2_0 a2_1 l2_2).bind fun t452 => (if (t452.length : Int) = 0 then (some (0, false)) else ((slices_Max_int_int.f t452).bind fun t455 => (some (t455, true))))) = some (r1, r2) := by rw [if_neg (show ¬ (false = true) by decide)] at H; exact H
  clear H
  have H := H1
  clear H1
  obtain ⟨t452, A260, H⟩ := zob H
  replace H : (if (t452.length : Int) = 0 then (some (0, false)) else ((slices_Max_int_int.f t452).bind fun t455 => (some (t455, true)))) = some (r1, r2) := H
  have A26 := zm A260
  clear A260
  by_cases c27 : (t452.length : Int) = 0
  case pos =>
   rw [if_pos c27] at H
   have c27b0 : ((t452.length : Int) == 0) = true := beq_iff_eq.mpr c27
   have c27b1 : ((t452.length : Int) != 0) = false := bne_eq_false_iff_eq.mpr c27
   clear c27
   simp only [Option.some.injEq, Prod.mk.injEq] at H
   obtain ⟨rfl, rfl⟩ := H
   have hnb28 := NB445_446.out
   have hnc28 := NB446_445.out
   have hcz29_0 := bz BK445.out 0 (.int .i64 a0_0)
   have hcz29_1 := bz BK445.out 1 (.int .i64 a0_1)
   have hcz29_2 := bz BK445.out 2 (.slice A0_2 l0_2.length c0_2)
   have hfz29_0 := zyF BK445.out 0
   have hfz29_1 := zyF BK445.out 1
   have hfz29_2 := zyF BK445.out 2
   have hcz30_0 := bz BK446.out 0 (.int .i64 a2_0)
   have hcz30_1 := bz BK446.out 1 (.int .i64 a2_1)
   have hcz30_2 := bz BK446.out 2 (.slice A2_2 l2_2.length c2_2)
   have hfz30_0 := zyF BK446.out 0
   have hfz30_1 := zyF BK446.out 1
   have hfz30_2 := zyF BK446.out 2
   go_wp2_with (first | ((with_reducible refine zyg (f := 25) rfl ?_); refine goesL_ (some 23) rfl rfl Try.func25 (by kernel_rfl) rfl #[.agg #[.int .i64 a0_0, .int .i64 a0_1, .slice A0_2 l0_2.length c0_2], .int .i64 a1, .agg #[.int .i64 a2_0, .int .i64 a2_1, .slice A2_2 l2_2.length c2_2]] rfl zq0 ?_; (with_reducible refine (impl_areaValues.calls kj3 a0_0 a0_1 _ _ l0_2 a1 a2_0 a2_1 _ _ l2_2 t452 _ ?side1 ?side2 ?side3 ?side4 A26.out).mono ?_); (case side1 => exact zqC (Kd.C_below HR0_2.out HB.out)); (case side2 => exact HC0_2.out); (case side3 => exact zqC (Kd.C_below HR2_2.out HB.out)); (case side4 => exact HC2_2.out); rintro e w31 ⟨v453, rfl, ho0, hb⟩; refine ⟨_, rfl, ?_⟩; have HO454 := zm (Kd.R_lower ho0 (zyi zq19)); replace BK445 := zm (zyb (g := gb445) (o := .cells #[.int .i64 a0_0, .int .i64 a0_1, .slice A0_2 l0_2.length c0_2] 26 (0, 0)) (zqK BK445.out) hb); replace BK446 := zm (zyb (g := gb446) (o := .cells #[.int .i64 a2_0, .int .i64 a2_1, .slice A2_2 l2_2.length c2_2] 27 (0, 0)) (zqK BK446.out) hb); replace HB := zm (zyh zq19 hb); (try clear hb); (try clear hb2); (try clear hk); (try clear hi); (try clear ho0); obtain ⟨Ao32, co32, eo32⟩ := Kd.R_slice HO454.out; subst eo32))
   go_ret2
   exact ⟨zqE, zq19⟩
  rw [if_neg c27] at H
  have c27b0 : ((t452.length : Int) == 0) = false := beq_eq_false_iff_ne.mpr c27
  have c27b1 : ((t452.length : Int) != 0) = true := bne_iff_ne.mpr c27
  have c27b2 : ¬ (t452 = []) := fun h_ => c27 (by rw [h_]; rfl)
  obtain ⟨t455, A330, H⟩ := zob H
  replace H : (some (t455, true)) = some (r1, r2) := H
  have A33 := zm A330
  clear A330
  simp only [Option.some.injEq, Prod.mk.injEq] at H
  obtain ⟨rfl, rfl⟩ := H
  have hnb34 := NB445_446.out
  have hnc34 := NB446_445.out
  have hcz35_0 := bz BK445.out 0 (.int .i64 a0_0)
  have hcz35_1 := bz BK445.out 1 (.int .i64 a0_1)
  have hcz35_2 := bz BK445.out 2 (.slice A0_2 l0_2.length c0_2)
  have hfz35_0 := zyF BK445.out 0
  have hfz35_1 := zyF BK445.out 1
  have hfz35_2 := zyF BK445.out 2
  have hcz36_0 := bz BK446.out 0 (.int .i64 a2_0)
  have hcz36_1 := bz BK446.out 1 (.int .i64 a2_1)
  have hcz36_2 := bz BK446.out 2 (.slice A2_2 l2_2.length c2_2)
  have hfz36_0 := zyF BK446.out 0
  have hfz36_1 := zyF BK446.out 1
  have hfz36_2 := zyF BK446.out 2
  go_wp2_with (first | ((with_reducible refine zyg (f := 25) rfl ?_); refine goesL_ (some 23) rfl rfl Try.func25 (by kernel_rfl) rfl #[.agg #[.int .i64 a0_0, .int .i64 a0_1, .slice A0_2 l0_2.length c0_2], .int .i64 a1, .agg #[.int .i64 a2_0, .int .i64 a2_1, .slice A2_2 l2_2.length c2_2]] rfl zq0 ?_; (with_reducible refine (impl_areaValues.calls kj3 a0_0 a0_1 _ _ l0_2 a1 a2_0 a2_1 _ _ l2_2 t452 _ ?side1 ?side2 ?side3 ?side4 A26.out).mono ?_); (case side1 => exact zqC (Kd.C_below HR0_2.out HB.out)); (case side2 => exact HC0_2.out); (case side3 => exact zqC (Kd.C_below HR2_2.out HB.out)); (case side4 => exact HC2_2.out); rintro e w37 ⟨v453, rfl, ho0, hb⟩; refine ⟨_, rfl, ?_⟩; have HO454 := zm (Kd.R_lower ho0 (zyi zq19)); replace BK445 := zm (zyb (g := gb445) (o := .cells #[.int .i64 a0_0, .int .i64 a0_1, .slice A0_2 l0_2.length c0_2] 26 (0, 0)) (zqK BK445.out) hb); replace BK446 := zm (zyb (g := gb446) (o := .cells #[.int .i64 a2_0, .int .i64 a2_1, .slice A2_2 l2_2.length c2_2] 27 (0, 0)) (zqK BK446.out) hb); replace HB := zm (zyh zq19 hb); (try clear hb); (try clear hb2); (try clear hk); (try clear hi); (try clear ho0); obtain ⟨Ao38, co38, eo38⟩ := Kd.R_slice HO454.out; subst eo38) | ((with_reducible refine zyg (f := 38) rfl ?_); refine goesL_ (some 28) rfl rfl Try.func38 (by kernel_rfl) rfl #[.slice Ao38 t452.length co38] rfl zq0 ?_; (with_reducible refine (slices_Max_int_int.calls _ _ t452 t455 _ ?side1 ?side2 A33.out).mono ?_); (case side1 => exact zqC (Kd.R_reads' HO454.out).2.2); (case side2 => exact (Kd.R_reads' HO454.out).2.1); rintro e w39 ⟨rfl, hb⟩; refine ⟨_, rfl, ?_⟩; replace HO454 := zm (Kd.R_below (zqR HO454.out) hb); replace BK445 := zm (zyb (g := gb445) (o := .cells #[.int .i64 a0_0, .int .i64 a0_1, .slice A0_2 l0_2.length c0_2] 26 (0, 0)) (zqK BK445.out) hb); replace BK446 := zm (zyb (g := gb446) (o := .cells #[.int .i64 a2_0, .int .i64 a2_1, .slice A2_2 l2_2.length c2_2] 27 (0, 0)) (zqK BK446.out) hb); replace HB := zm (zyh zq19 hb); (try clear hb); (try clear hb2); (try clear hk); (try clear hi)))
  go_ret2
  exact ⟨zqE, zq19⟩
def spec_l1Has.l0 : Nat → List Int → Int → Int → Option (Bool)
 | 0, _, _, _ => none
 | k + 1, x0, x1, x5 => if x5 < (x0.length : Int) then (if 0 ≤ x5 then (if (rd x0 x5) = x1 then (some true) else (spec_l1Has.l0 k x0 x1 (wrap64 (x5 + 1)))) else (none)) else (some false)
def spec_l1Has.f (k : Nat) (l0 : List Int) (a1 : Int) : Option (Bool) := spec_l1Has.l0 k l0 a1 0
set_option maxHeartbeats 8000000 in
set_option maxRecDepth 100000 in
theorem spec_l1Has.calls (k : Nat) (A0 : Option Addr) (c0 : Nat) (l0 : List Int) (a1 : Int) (r : Bool) (w : World) (hr0 : Kd.C (Kd.int .i64) w A0 l0.length l0) (hc0 : l0.length ≤ c0) (h : spec_l1Has.f k l0 a1 = some r) :
  Calls Try.prog 57 #[.slice A0 l0.length c0, .int .i64 a1] w fun e w' => e = .returned (.bool r) ∧ Drawn0 w w' := by
 have HR0 := zm hr0
 have HC0 := zm hc0
 clear hr0 hc0
 have H : (spec_l1Has.l0 k l0 a1 0) = some r := h
 clear h
 have H' := zm H
 clear H
 go_enter Try.func57, Try.ntmps57
 go_wp2
 go_loopg [5] k (fun kq v5 w' => ∃ (x5_1 : Int), v5 = .int .i64 x5_1 ∧ Aside0 (spec_l1Has.l0 kq l0 a1 x5_1 = some r) ∧ Aside0 (kq ≤ k) ∧ Drawn0 w w')
 case atStart => exact ⟨(0), (by first | rfl | (simp; done) | (simp [*]; done)), H', ⟨Nat.le_refl _⟩, zq28⟩
 clear H'
 try clear p2
 obtain ⟨x5_1, rfl, HA, HK1, ⟨m1, rfl⟩⟩ := hrel
 cases gk with
 | zero => exact absurd HA.out (by simp [spec_l1Has.l0])
 | succ k1 =>
  have H := HA.out
  clear HA
  simp only [spec_l1Has.l0] at H
  by_cases c3 : x5_1 < (l0.length : Int)
  case neg =>
   rw [if_neg c3] at H
   have c3b0 : decide (x5_1 < (l0.length : Int)) = false := decide_eq_false c3
   clear c3
   obtain rfl := Option.some.inj H
   go_wp2
   go_ret
   exact ⟨by first | rfl | (simp; done) | (simp [*]; done), zq28⟩
  rw [if_pos c3] at H
  have c3b0 : decide (x5_1 < (l0.length : Int)) = true := decide_eq_true c3
  clear c3
  by_cases c4 : 0 ≤ x5_1
  case neg =>
   rw [if_neg c4] at H
   exact absurd H (by simp)
  rw [if_pos c4] at H
  have c4b0 : decide (0 ≤ x5_1) = true := decide_eq_true c4
  clear c4
  by_cases c5 : (rd l0 x5_1) = a1
  case pos =>
   rw [if_pos c5] at H
   have c5b0 : ((rd l0 x5_1) == a1) = true := beq_iff_eq.mpr c5
   have c5b1 : ((rd l0 x5_1) != a1) = false := bne_eq_false_iff_eq.mpr c5
   clear c5
   obtain rfl := Option.some.inj H
   have p456 : 0 ≤ (x5_1 : Int) := of_decide_eq_true zq6
   have q456 : x5_1 < (l0.length : Int) := of_decide_eq_true zq6
   obtain ⟨ad456, e456, hx456_0⟩ := Kd.at_int HR0.out x5_1 p456 q456
   cases e456
   replace p456 := eq_true p456
   replace q456 := eq_true q456
   go_wp2
   go_ret
   exact ⟨by first | rfl | (simp; done) | (simp [*]; done), zq28⟩
  rw [if_neg c5] at H
  have c5b0 : ((rd l0 x5_1) == a1) = false := beq_eq_false_iff_ne.mpr c5
  have c5b1 : ((rd l0 x5_1) != a1) = true := bne_iff_ne.mpr c5
  have H' := zm H
  clear H
  have p456 : 0 ≤ (x5_1 : Int) := of_decide_eq_true zq6
  have q456 : x5_1 < (l0.length : Int) := of_decide_eq_true zq6
  obtain ⟨ad456, e456, hx456_0⟩ := Kd.at_int HR0.out x5_1 p456 q456
  cases e456
  replace p456 := eq_true p456
  replace q456 := eq_true q456
  go_wp2
  go_roundg k1
  case measure => have := HK1.out; omega
  case rel => exact ⟨(wrap64 (x5_1 + 1)), (by first | rfl | (simp; done) | (simp [*]; done)), H', ⟨by have := HK1.out; omega⟩, zq28⟩
def spec_l13There.f (k : Nat) (a0_0 : Int) (a0_1 : Int) (l0_2 : List Int) (a1 : Int) : Option (Bool) := (spec_l13Good.f k a0_0 a0_1 l0_2).bind fun t458 => (if t458 = true then (if a1 > 0 then ((spec_l1Has.f k l0_2 a1).bind fun t459 => (some t459)) else (some false)) else (some false))
set_option maxHeartbeats 8000000 in
set_option maxRecDepth 100000 in
theorem spec_l13There.calls (k : Nat) (a0_0 : Int) (a0_1 : Int) (A0_2 : Option Addr) (c0_2 : Nat) (l0_2 : List Int) (a1 : Int) (r : Bool) (w : World) (hr0_2 : Kd.C (Kd.int .i64) w A0_2 l0_2.length l0_2) (hc0_2 : l0_2.length ≤ c0_2) (h : spec_l13There.f k a0_0 a0_1 l0_2 a1 = some r) :
  Calls Try.prog 39 #[.agg #[.int .i64 a0_0, .int .i64 a0_1, .slice A0_2 l0_2.length c0_2], .int .i64 a1] w fun e w' => e = .returned (.bool r) ∧ Below w.heap.size w w' := by
 have hu26 := Try.underlying26
 have HR0_2 := zm hr0_2
 have HC0_2 := zm hc0_2
 clear hr0_2 hc0_2
 have HB := zm (Below.refl w.heap.size w)
 have H : ((spec_l13Good.f k a0_0 a0_1 l0_2).bind fun t458 => (if t458 = true then (if a1 > 0 then ((spec_l1Has.f k l0_2 a1).bind fun t459 => (some t459)) else (some false)) else (some false))) = some r := h
 clear h
 obtain ⟨t458, A30, H⟩ := zob H
 replace H : (if t458 = true then (if a1 > 0 then ((spec_l1Has.f k l0_2 a1).bind fun t459 => (some t459)) else (some false)) else (some false)) = some r := H
 have A3 := zm A30
 clear A30
 by_cases c4 : t458 = true
 case neg =>
  replace c4 := Bool.eq_false_iff.mpr c4
  subst c4
  have H1 : (some false) = some r := by rw [if_neg (show ¬ (false = true) by decide)] at H; exact H
  clear H
  have H := H1
  clear H1
  obtain rfl := Option.some.inj H
  go_enter Try.func39, Try.ntmps39
  go_wp2_with (first | ((with_reducible refine gate_dst (N := 2) rfl ?_); refine box_event ?hg (N := 2) ?hd (cs := #[.int .i64 a0_0, .int .i64 a0_1, .slice A0_2 l0_2.length c0_2]) (t := 26) ?hr ?_; (case hd => rfl); (case hg => rfl); (case hr => exact zqS); intro gb457 hg w14 hbox hb; have BK457 := zm (hbox); have GW457 := zm ((by rw [hg]; exact (zyi zq1) : w.heap.size ≤ gb457)); replace HB := zm (zyh zq1 hb); have GE457 := GW457; clear hb hbox hg; have hcz15_0 := bz BK457.out 0 (.int .i64 a0_0); have hcz15_1 := bz BK457.out 1 (.int .i64 a0_1); have hcz15_2 := bz BK457.out 2 (.slice A0_2 l0_2.length c0_2); have hfz15_0 := zyF BK457.out 0; have hfz15_1 := zyF BK457.out 1; have hfz15_2 := zyF BK457.out 2) | ((with_reducible refine zyg (f := 43) rfl ?_); refine goesL_ (some 6) rfl rfl Try.func43 (by kernel_rfl) rfl #[.agg #[.int .i64 a0_0, .int .i64 a0_1, .slice A0_2 l0_2.length c0_2]] rfl zq0 ?_; (with_reducible refine (spec_l13Good.calls k a0_0 a0_1 _ _ l0_2 false _ ?side1 ?side2 A3.out).mono ?_); (case side1 => exact zqC (Kd.C_below HR0_2.out HB.out)); (case side2 => exact HC0_2.out); rintro e w16 ⟨rfl, hb⟩; refine ⟨_, rfl, ?_⟩; replace BK457 := zm (zyb (g := gb457) (o := .cells #[.int .i64 a0_0, .int .i64 a0_1, .slice A0_2 l0_2.length c0_2] 26 (0, 0)) (zqK BK457.out) hb); replace HB := zm (zyh zq59 hb); (try clear hb); (try clear hb2); (try clear hk); (try clear hi)))
  go_ret
  exact ⟨zqE, zq59⟩
 subst c4
 have H1 : (if a1 > 0 then ((spec_l1Has.f k l0_2 a1).bind fun t459 => (some t459)) else (some false)) = some r := by rw [if_pos rfl] at H; exact H
 clear H
 have H := H1
 clear H1
 by_cases c5 : a1 > 0
 case neg =>
  rw [if_neg c5] at H
  have c5b0 : decide (0 < a1) = false := decide_eq_false c5
  clear c5
  obtain rfl := Option.some.inj H
  go_enter Try.func39, Try.ntmps39
  go_wp2_with (first | ((with_reducible refine gate_dst (N := 2) rfl ?_); refine box_event ?hg (N := 2) ?hd (cs := #[.int .i64 a0_0, .int .i64 a0_1, .slice A0_2 l0_2.length c0_2]) (t := 26) ?hr ?_; (case hd => rfl); (case hg => rfl); (case hr => exact zqS); intro gb457 hg w11 hbox hb; have BK457 := zm (hbox); have GW457 := zm ((by rw [hg]; exact (zyi zq1) : w.heap.size ≤ gb457)); replace HB := zm (zyh zq1 hb); have GE457 := GW457; clear hb hbox hg; have hcz12_0 := bz BK457.out 0 (.int .i64 a0_0); have hcz12_1 := bz BK457.out 1 (.int .i64 a0_1); have hcz12_2 := bz BK457.out 2 (.slice A0_2 l0_2.length c0_2); have hfz12_0 := zyF BK457.out 0; have hfz12_1 := zyF BK457.out 1; have hfz12_2 := zyF BK457.out 2) | ((with_reducible refine zyg (f := 43) rfl ?_); refine goesL_ (some 6) rfl rfl Try.func43 (by kernel_rfl) rfl #[.agg #[.int .i64 a0_0, .int .i64 a0_1, .slice A0_2 l0_2.length c0_2]] rfl zq0 ?_; (with_reducible refine (spec_l13Good.calls k a0_0 a0_1 _ _ l0_2 true _ ?side1 ?side2 A3.out).mono ?_); (case side1 => exact zqC (Kd.C_below HR0_2.out HB.out)); (case side2 => exact HC0_2.out); rintro e w13 ⟨rfl, hb⟩; refine ⟨_, rfl, ?_⟩; replace BK457 := zm (zyb (g := gb457) (o := .cells #[.int .i64 a0_0, .int .i64 a0_1, .slice A0_2 l0_2.length c0_2] 26 (0, 0)) (zqK BK457.out) hb); replace HB := zm (zyh zq59 hb); (try clear hb); (try clear hb2); (try clear hk); (try clear hi)))
  go_ret
  exact ⟨zqE, zq59⟩
 rw [if_pos c5] at H
 have c5b0 : decide (0 < a1) = true := decide_eq_true c5
 clear c5
 obtain ⟨t459, A60, H⟩ := zob H
 replace H : (some t459) = some r := H
 have A6 := zm A60
 clear A60
 obtain rfl := Option.some.inj H
 go_enter Try.func39, Try.ntmps39
 go_wp2_with (first | ((with_reducible refine gate_dst (N := 2) rfl ?_); refine box_event ?hg (N := 2) ?hd (cs := #[.int .i64 a0_0, .int .i64 a0_1, .slice A0_2 l0_2.length c0_2]) (t := 26) ?hr ?_; (case hd => rfl); (case hg => rfl); (case hr => exact zqS); intro gb457 hg w7 hbox hb; have BK457 := zm (hbox); have GW457 := zm ((by rw [hg]; exact (zyi zq1) : w.heap.size ≤ gb457)); replace HB := zm (zyh zq1 hb); have GE457 := GW457; clear hb hbox hg; have hcz8_0 := bz BK457.out 0 (.int .i64 a0_0); have hcz8_1 := bz BK457.out 1 (.int .i64 a0_1); have hcz8_2 := bz BK457.out 2 (.slice A0_2 l0_2.length c0_2); have hfz8_0 := zyF BK457.out 0; have hfz8_1 := zyF BK457.out 1; have hfz8_2 := zyF BK457.out 2) | ((with_reducible refine zyg (f := 43) rfl ?_); refine goesL_ (some 6) rfl rfl Try.func43 (by kernel_rfl) rfl #[.agg #[.int .i64 a0_0, .int .i64 a0_1, .slice A0_2 l0_2.length c0_2]] rfl zq0 ?_; (with_reducible refine (spec_l13Good.calls k a0_0 a0_1 _ _ l0_2 true _ ?side1 ?side2 A3.out).mono ?_); (case side1 => exact zqC (Kd.C_below HR0_2.out HB.out)); (case side2 => exact HC0_2.out); rintro e w9 ⟨rfl, hb⟩; refine ⟨_, rfl, ?_⟩; replace BK457 := zm (zyb (g := gb457) (o := .cells #[.int .i64 a0_0, .int .i64 a0_1, .slice A0_2 l0_2.length c0_2] 26 (0, 0)) (zqK BK457.out) hb); replace HB := zm (zyh zq59 hb); (try clear hb); (try clear hb2); (try clear hk); (try clear hi); have hcz10_0 := bz BK457.out 0 (.int .i64 a0_0); have hcz10_1 := bz BK457.out 1 (.int .i64 a0_1); have hcz10_2 := bz BK457.out 2 (.slice A0_2 l0_2.length c0_2); have hfz10_0 := zyF BK457.out 0; have hfz10_1 := zyF BK457.out 1; have hfz10_2 := zyF BK457.out 2) | (go_at_call 57; (with_reducible refine (spec_l1Has.calls k _ _ l0_2 a1 t459 _ ?side1 ?side2 A6.out).mono ?_); (case side1 => exact zqC (Kd.C_below HR0_2.out HB.out)); (case side2 => exact HC0_2.out); rintro e w' ⟨rfl, ⟨nd, rfl⟩⟩))
 go_ret
 exact ⟨zqE, zq59⟩
def spec_l1Most.f (a0 a1 : Int) : Option Int := if a0 > a1 then (some a0) else (some a1)
theorem spec_l1Most.calls (a0 a1 : Int) (r : Int) (w : World) (h : spec_l1Most.f a0 a1 = some r) :
  Calls Try.prog 40 #[.int .i64 a0, .int .i64 a1] w fun e w' => e = .returned (.int .i64 r) ∧ Below w.heap.size w w' := by
 unfold spec_l1Most.f at h
 by_cases hc : a0 > a1
 case neg =>
  rw [if_neg hc] at h
  obtain rfl := Option.some.inj h
  have hc' : ¬ a1 < a0 := hc
  clear h hc
  go_enter Try.func40, Try.ntmps40
  go_wp2
  go_ret
  exact ⟨rfl, by first | exact Below.refl _ _ | exact zyp (Below.refl _ _) _⟩
 rw [if_pos hc] at h
 obtain rfl := Option.some.inj h
 have hc' : a1 < a0 := hc
 clear h hc
 go_enter Try.func40, Try.ntmps40
 go_wp2
 go_ret
 exact ⟨rfl, by first | exact Below.refl _ _ | exact zyp (Below.refl _ _) _⟩
mutual
def spec_AreaMaximum.j0 : Nat → Int → Bool → Int → Int → List Int → Int → Int → List Int → Option (Int × Bool)
 | 0, _, _, _, _, _, _, _, _ => none
 | k + 1, x1, x19, x461000, x461001, x461002, x462000, x462001, x462002 => if x19 = true then (some (0, false)) else (spec_AreaMaximum.l0 k x1 (-9999) 0 x461000 x461001 x461002 x462000 x462001 x462002)
def spec_AreaMaximum.l0 : Nat → Int → Int → Int → Int → Int → List Int → Int → Int → List Int → Option (Int × Bool)
 | 0, _, _, _, _, _, _, _, _, _ => none
 | k + 1, x1, x8, x9, x461000, x461001, x461002, x462000, x462001, x462002 => if x9 < (x461002.length : Int) then (if 0 ≤ x9 then (if (rd x461002 x9) = x1 then (if x9 < (x462002.length : Int) then ((spec_l1Most.f x8 (rd x462002 x9)).bind fun t466 => (spec_AreaMaximum.l0 k x1 t466 (wrap64 (x9 + 1)) x461000 x461001 x461002 x462000 x462001 x462002)) else (none)) else (spec_AreaMaximum.l0 k x1 x8 (wrap64 (x9 + 1)) x461000 x461001 x461002 x462000 x462001 x462002)) else (none)) else (if x8 = (-9999) then (some (0, false)) else (some (x8, true)))
end
def spec_AreaMaximum.f (k : Nat) (a0_0 : Int) (a0_1 : Int) (l0_2 : List Int) (a1 : Int) (a2_0 : Int) (a2_1 : Int) (l2_2 : List Int) : Option (Int × Bool) := (spec_l13There.f k a0_0 a0_1 l0_2 a1).bind fun t462 => (if t462 = true then ((spec_l13Fits.f k a0_0 a0_1 l0_2 a2_0 a2_1 l2_2).bind fun t463 => (spec_AreaMaximum.j0 k a1 (!t463) a0_0 a0_1 l0_2 a2_0 a2_1 l2_2)) else (spec_AreaMaximum.j0 k a1 true a0_0 a0_1 l0_2 a2_0 a2_1 l2_2))
set_option maxHeartbeats 8000000 in
set_option maxRecDepth 100000 in
theorem spec_AreaMaximum.calls (k : Nat) (a0_0 : Int) (a0_1 : Int) (A0_2 : Option Addr) (c0_2 : Nat) (l0_2 : List Int) (a1 : Int) (a2_0 : Int) (a2_1 : Int) (A2_2 : Option Addr) (c2_2 : Nat) (l2_2 : List Int) (r1 : Int) (r2 : Bool) (w : World) (hr0_2 : Kd.C (Kd.int .i64) w A0_2 l0_2.length l0_2) (hc0_2 : l0_2.length ≤ c0_2) (hr2_2 : Kd.C (Kd.int .i64) w A2_2 l2_2.length l2_2) (hc2_2 : l2_2.length ≤ c2_2) (h : spec_AreaMaximum.f k a0_0 a0_1 l0_2 a1 a2_0 a2_1 l2_2 = some (r1, r2)) :
  Calls Try.prog 14 #[.agg #[.int .i64 a0_0, .int .i64 a0_1, .slice A0_2 l0_2.length c0_2], .int .i64 a1, .agg #[.int .i64 a2_0, .int .i64 a2_1, .slice A2_2 l2_2.length c2_2]] w fun e w' => e = .returned (.tuple #[.int .i64 r1, .bool r2]) ∧ Below w.heap.size w w' := by
 have hu26 := Try.underlying26
 have hu27 := Try.underlying27
 have HR0_2 := zm hr0_2
 have HC0_2 := zm hc0_2
 clear hr0_2 hc0_2
 have HR2_2 := zm hr2_2
 have HC2_2 := zm hc2_2
 clear hr2_2 hc2_2
 have HB := zm (Below.refl w.heap.size w)
 have H : ((spec_l13There.f k a0_0 a0_1 l0_2 a1).bind fun t462 => (if t462 = true then ((spec_l13Fits.f k a0_0 a0_1 l0_2 a2_0 a2_1 l2_2).bind fun t463 => (spec_AreaMaximum.j0 k a1 (!t463) a0_0 a0_1 l0_2 a2_0 a2_1 l2_2)) else (spec_AreaMaximum.j0 k a1 true a0_0 a0_1 l0_2 a2_0 a2_1 l2_2))) = some (r1, r2) := h
 clear h
 have HC4 := zm H
 clear H
 go_enter Try.func14, Try.ntmps14
 go_upto_region 1 with (first | ((with_reducible refine gate_dst (N := 3) rfl ?_); refine box_event ?hg (N := 3) ?hd (cs := #[.int .i64 a0_0, .int .i64 a0_1, .slice A0_2 l0_2.length c0_2]) (t := 26) ?hr ?_; (case hd => rfl); (case hg => rfl); (case hr => exact zqS); intro gb460 hg w5 hbox hb; have BK460 := zm (hbox); have GW460 := zm ((by rw [hg]; exact (zyi zq1) : w.heap.size ≤ gb460)); replace HB := zm (zyh zq1 hb); have GE460 := GW460; clear hb hbox hg) | ((with_reducible refine gate_dst (N := 5) rfl ?_); refine box_event ?hg (N := 5) ?hd (cs := #[.int .i64 a2_0, .int .i64 a2_1, .slice A2_2 l2_2.length c2_2]) (t := 27) ?hr ?_; (case hd => rfl); (case hg => rfl); (case hr => exact zqS); intro gb461 hg w6 hbox hb; have BK461 := zm (hbox); have GW461 := zm ((by rw [hg]; exact (zyi zq104) : w.heap.size ≤ gb461)); replace HB := zm (zyh zq104 hb); have GE461 := GW461; have NB460_461 := zm ((by rw [hg]; exact Nat.ne_of_lt (blk_lt (g := gb460) (o := .cells #[.int .i64 a0_0, .int .i64 a0_1, .slice A0_2 l0_2.length c0_2] 26 (0, 0)) (zqK BK460.out)) : gb460 ≠ gb461)); have NB461_460 := zm ((by rw [hg]; exact Nat.ne_of_gt (blk_lt (g := gb460) (o := .cells #[.int .i64 a0_0, .int .i64 a0_1, .slice A0_2 l0_2.length c0_2] 26 (0, 0)) (zqK BK460.out)) : gb461 ≠ gb460)); replace BK460 := zm (zyb (g := gb460) (o := .cells #[.int .i64 a0_0, .int .i64 a0_1, .slice A0_2 l0_2.length c0_2] 26 (0, 0)) (zqK BK460.out) hb); clear hb hbox hg))
 (try simp only [Act.put, List.setIfInBounds_toArray, List.set_cons_zero, List.set_cons_succ])
 go_cut [19] (fun v19 wc => ∃ (kq : Nat) (x19_3 : Bool), v19 = .bool x19_3 ∧ Aside0 (spec_AreaMaximum.j0 kq a1 x19_3 a0_0 a0_1 l0_2 a2_0 a2_1 l2_2 = some (r1, r2)) ∧ Aside0 (kq ≤ k) ∧ Aside0 (wc.heap[gb460]? = some (.cells #[.int .i64 a0_0, .int .i64 a0_1, (.slice A0_2 l0_2.length c0_2)] 26 (0, 0))) ∧ Aside0 (wc.heap[gb461]? = some (.cells #[.int .i64 a2_0, .int .i64 a2_1, (.slice A2_2 l2_2.length c2_2)] 27 (0, 0))) ∧ Aside0 (Below w.heap.size w wc))
 case first =>
  have H := HC4.out
  clear HC4
  obtain ⟨t462, A70, H⟩ := zob H
  replace H : (if t462 = true then ((spec_l13Fits.f k a0_0 a0_1 l0_2 a2_0 a2_1 l2_2).bind fun t463 => (spec_AreaMaximum.j0 k a1 (!t463) a0_0 a0_1 l0_2 a2_0 a2_1 l2_2)) else (spec_AreaMaximum.j0 k a1 true a0_0 a0_1 l0_2 a2_0 a2_1 l2_2)) = some (r1, r2) := H
  have A7 := zm A70
  clear A70
  by_cases c8 : t462 = true
  case neg =>
   replace c8 := Bool.eq_false_iff.mpr c8
   subst c8
   have H1 : (spec_AreaMaximum.j0 k a1 true a0_0 a0_1 l0_2 a2_0 a2_1 l2_2) = some (r1, r2) := by rw [if_neg (show ¬ (false = true) by decide)] at H; exact H
   clear H
   have H := H1
   clear H1
   have H' := zm H
   clear H
   have hnb16 := NB460_461.out
   have hnc16 := NB461_460.out
   have hcz17_0 := bz BK460.out 0 (.int .i64 a0_0)
   have hcz17_1 := bz BK460.out 1 (.int .i64 a0_1)
   have hcz17_2 := bz BK460.out 2 (.slice A0_2 l0_2.length c0_2)
   have hfz17_0 := zyF BK460.out 0
   have hfz17_1 := zyF BK460.out 1
   have hfz17_2 := zyF BK460.out 2
   go_wp2_with (first | ((with_reducible refine zyg (f := 39) rfl ?_); refine goesL_ (some 12) rfl rfl Try.func39 (by kernel_rfl) rfl #[.agg #[.int .i64 a0_0, .int .i64 a0_1, .slice A0_2 l0_2.length c0_2], .int .i64 a1] rfl zq0 ?_; (with_reducible refine (spec_l13There.calls k a0_0 a0_1 _ _ l0_2 a1 false _ ?side1 ?side2 A7.out).mono ?_); (case side1 => exact zqC (Kd.C_below HR0_2.out HB.out)); (case side2 => exact HC0_2.out); rintro e w18 ⟨rfl, hb⟩; refine ⟨_, rfl, ?_⟩; replace BK460 := zm (zyb (g := gb460) (o := .cells #[.int .i64 a0_0, .int .i64 a0_1, .slice A0_2 l0_2.length c0_2] 26 (0, 0)) (zqK BK460.out) hb); replace BK461 := zm (zyb (g := gb461) (o := .cells #[.int .i64 a2_0, .int .i64 a2_1, .slice A2_2 l2_2.length c2_2] 27 (0, 0)) (zqK BK461.out) hb); replace HB := zm (zyh zq30 hb); (try clear hb); (try clear hb2); (try clear hk); (try clear hi)))
   go_meet
   case rel => exact ⟨_, (true), (by first | rfl | (simp; done) | (simp [*]; done)), H', ⟨by first | omega | exact Nat.le_refl _⟩, ⟨by (with_reducible repeat (first | apply zN | apply zD | apply zL)); exact BK460.out⟩, ⟨by (with_reducible repeat (first | apply zN | apply zD | apply zL)); exact BK461.out⟩, ⟨zq30⟩⟩
  subst c8
  have H1 : ((spec_l13Fits.f k a0_0 a0_1 l0_2 a2_0 a2_1 l2_2).bind fun t463 => (spec_AreaMaximum.j0 k a1 (!t463) a0_0 a0_1 l0_2 a2_0 a2_1 l2_2)) = some (r1, r2) := by rw [if_pos rfl] at H; exact H
  clear H
  have H := H1
  clear H1
  obtain ⟨t463, A90, H⟩ := zob H
  replace H : (spec_AreaMaximum.j0 k a1 (!t463) a0_0 a0_1 l0_2 a2_0 a2_1 l2_2) = some (r1, r2) := H
  have A9 := zm A90
  clear A90
  have H' := zm H
  clear H
  have hnb10 := NB460_461.out
  have hnc10 := NB461_460.out
  have hcz11_0 := bz BK460.out 0 (.int .i64 a0_0)
  have hcz11_1 := bz BK460.out 1 (.int .i64 a0_1)
  have hcz11_2 := bz BK460.out 2 (.slice A0_2 l0_2.length c0_2)
  have hfz11_0 := zyF BK460.out 0
  have hfz11_1 := zyF BK460.out 1
  have hfz11_2 := zyF BK460.out 2
  go_wp2_with (first | ((with_reducible refine zyg (f := 39) rfl ?_); refine goesL_ (some 12) rfl rfl Try.func39 (by kernel_rfl) rfl #[.agg #[.int .i64 a0_0, .int .i64 a0_1, .slice A0_2 l0_2.length c0_2], .int .i64 a1] rfl zq0 ?_; (with_reducible refine (spec_l13There.calls k a0_0 a0_1 _ _ l0_2 a1 true _ ?side1 ?side2 A7.out).mono ?_); (case side1 => exact zqC (Kd.C_below HR0_2.out HB.out)); (case side2 => exact HC0_2.out); rintro e w12 ⟨rfl, hb⟩; refine ⟨_, rfl, ?_⟩; replace BK460 := zm (zyb (g := gb460) (o := .cells #[.int .i64 a0_0, .int .i64 a0_1, .slice A0_2 l0_2.length c0_2] 26 (0, 0)) (zqK BK460.out) hb); replace BK461 := zm (zyb (g := gb461) (o := .cells #[.int .i64 a2_0, .int .i64 a2_1, .slice A2_2 l2_2.length c2_2] 27 (0, 0)) (zqK BK461.out) hb); replace HB := zm (zyh zq30 hb); (try clear hb); (try clear hb2); (try clear hk); (try clear hi); have hcz13_0 := bz BK460.out 0 (.int .i64 a0_0); have hcz13_1 := bz BK460.out 1 (.int .i64 a0_1); have hcz13_2 := bz BK460.out 2 (.slice A0_2 l0_2.length c0_2); have hfz13_0 := zyF BK460.out 0; have hfz13_1 := zyF BK460.out 1; have hfz13_2 := zyF BK460.out 2; have hcz14_0 := bz BK461.out 0 (.int .i64 a2_0); have hcz14_1 := bz BK461.out 1 (.int .i64 a2_1); have hcz14_2 := bz BK461.out 2 (.slice A2_2 l2_2.length c2_2); have hfz14_0 := zyF BK461.out 0; have hfz14_1 := zyF BK461.out 1; have hfz14_2 := zyF BK461.out 2) | (go_at_call 27; (with_reducible refine (spec_l13Fits.calls k a0_0 a0_1 _ _ l0_2 a2_0 a2_1 _ _ l2_2 t463 _ ?side1 ?side2 ?side3 ?side4 A9.out).mono ?_); (case side1 => exact zqC (Kd.C_below HR0_2.out HB.out)); (case side2 => exact HC0_2.out); (case side3 => exact zqC (Kd.C_below HR2_2.out HB.out)); (case side4 => exact HC2_2.out); rintro e w15 ⟨rfl, hb⟩; replace BK460 := zm (zyb (g := gb460) (o := .cells #[.int .i64 a0_0, .int .i64 a0_1, .slice A0_2 l0_2.length c0_2] 26 (0, 0)) (zqK BK460.out) hb); replace BK461 := zm (zyb (g := gb461) (o := .cells #[.int .i64 a2_0, .int .i64 a2_1, .slice A2_2 l2_2.length c2_2] 27 (0, 0)) (zqK BK461.out) hb); replace HB := zm (zyh zq30 hb); (try clear hb); (try clear hb2); (try clear hk); (try clear hi)))
  go_meet
  case rel => exact ⟨_, (!t463), (by first | rfl | (simp; done) | (simp [*]; done)), H', ⟨by first | omega | exact Nat.le_refl _⟩, ⟨by (with_reducible repeat (first | apply zN | apply zD | apply zL)); exact BK460.out⟩, ⟨by (with_reducible repeat (first | apply zN | apply zD | apply zL)); exact BK461.out⟩, ⟨zq30⟩⟩
 clear HC4
 try clear c1
 try clear c2
 try clear p2
 try clear c3
 try clear c8
 try clear c10
 try clear c14
 try clear c16
 try clear hcz11_0
 try clear hcz11_1
 try clear hcz11_2
 try clear hcz13_0
 try clear hcz13_1
 try clear hcz13_2
 try clear hcz14_0
 try clear hcz14_1
 try clear hcz14_2
 try clear hcz17_0
 try clear hcz17_1
 try clear hcz17_2
 try clear hfz11_0
 try clear hfz11_1
 try clear hfz11_2
 try clear hfz13_0
 try clear hfz13_1
 try clear hfz13_2
 try clear hfz14_0
 try clear hfz14_1
 try clear hfz14_2
 try clear hfz17_0
 try clear hfz17_1
 try clear hfz17_2
 obtain ⟨kq, x19_3, rfl, HA, HJ3, BK460, BK461, HB⟩ := hcut
 cases kq with
 | zero => exact absurd HA.out (by simp [spec_AreaMaximum.j0])
 | succ kj3 =>
  have H := HA.out
  clear HA
  simp only [spec_AreaMaximum.j0] at H
  by_cases c19 : x19_3 = true
  case pos =>
   subst c19
   have H1 : (some (0, false)) = some (r1, r2) := by rw [if_pos rfl] at H; exact H
   clear H
   have H := H1
   clear H1
   simp only [Option.some.injEq, Prod.mk.injEq] at H
   obtain ⟨rfl, rfl⟩ := H
   go_wp2
   go_ret2
   exact ⟨zqE, zq30⟩
  replace c19 := Bool.eq_false_iff.mpr c19
  subst c19
  have H1 : (spec_AreaMaximum.l0 kj3 a1 (-9999) 0 a0_0 a0_1 l0_2 a2_0 a2_1 l2_2) = some (r1, r2) := by rw [if_neg (show ¬ (false = true) by decide)] at H; exact H
  clear H
  have H := H1
  clear H1
  have H' := zm H
  clear H
  go_wp2
  go_loopg [8, 9] kj3 (fun kq v8 v9 w' => ∃ (x8_2 : Int) (x9_2 : Int), v8 = .int .i64 x8_2 ∧ v9 = .int .i64 x9_2 ∧ Aside0 (spec_AreaMaximum.l0 kq a1 x8_2 x9_2 a0_0 a0_1 l0_2 a2_0 a2_1 l2_2 = some (r1, r2)) ∧ Aside0 (kq ≤ kj3) ∧ Aside0 (w'.heap[gb460]? = some (.cells #[.int .i64 a0_0, .int .i64 a0_1, (.slice A0_2 l0_2.length c0_2)] 26 (0, 0))) ∧ Aside0 (w'.heap[gb461]? = some (.cells #[.int .i64 a2_0, .int .i64 a2_1, (.slice A2_2 l2_2.length c2_2)] 27 (0, 0))) ∧ Aside0 (Below w.heap.size w w'))
  case atStart => exact ⟨((-9999)), (0), (by first | rfl | (simp; done) | (simp [*]; done)), (by first | rfl | (simp; done) | (simp [*]; done)), H', ⟨Nat.le_refl _⟩, ⟨by (with_reducible repeat (first | apply zN | apply zD | apply zL)); exact BK460.out⟩, ⟨by (with_reducible repeat (first | apply zN | apply zD | apply zL)); exact BK461.out⟩, ⟨zq30⟩⟩
  clear H'
  try clear c1
  try clear c2
  try clear p2
  try clear c3
  try clear c8
  try clear c10
  try clear c14
  try clear c16
  try clear c19
  try clear hcz11_0
  try clear hcz11_1
  try clear hcz11_2
  try clear hcz13_0
  try clear hcz13_1
  try clear hcz13_2
  try clear hcz14_0
  try clear hcz14_1
  try clear hcz14_2
  try clear hcz17_0
  try clear hcz17_1
  try clear hcz17_2
  try clear hfz11_0
  try clear hfz11_1
  try clear hfz11_2
  try clear hfz13_0
  try clear hfz13_1
  try clear hfz13_2
  try clear hfz14_0
  try clear hfz14_1
  try clear hfz14_2
  try clear hfz17_0
  try clear hfz17_1
  try clear hfz17_2
  try clear p2
  obtain ⟨x8_2, x9_2, rfl, rfl, HA, HK2, BK460, BK461, HB⟩ := hrel
  cases gk with
  | zero => exact absurd HA.out (by simp [spec_AreaMaximum.l0])
  | succ k2 =>
   have H := HA.out
   clear HA
   simp only [spec_AreaMaximum.l0] at H
   by_cases c20 : x9_2 < (l0_2.length : Int)
   case neg =>
    rw [if_neg c20] at H
    have c20b0 : decide (x9_2 < (l0_2.length : Int)) = false := decide_eq_false c20
    clear c20
    by_cases c31 : x8_2 = (-9999)
    case neg =>
     rw [if_neg c31] at H
     have c31b0 : (x8_2 == (-9999)) = false := beq_eq_false_iff_ne.mpr c31
     have c31b1 : (x8_2 != (-9999)) = true := bne_iff_ne.mpr c31
     simp only [Option.some.injEq, Prod.mk.injEq] at H
     obtain ⟨rfl, rfl⟩ := H
     have hnb34 := NB460_461.out
     have hnc34 := NB461_460.out
     have hcz35_0 := bz BK460.out 0 (.int .i64 a0_0)
     have hcz35_1 := bz BK460.out 1 (.int .i64 a0_1)
     have hcz35_2 := bz BK460.out 2 (.slice A0_2 l0_2.length c0_2)
     have hfz35_0 := zyF BK460.out 0
     have hfz35_1 := zyF BK460.out 1
     have hfz35_2 := zyF BK460.out 2
     go_wp2
     go_ret2
     exact ⟨zqE, zq30⟩
    rw [if_pos c31] at H
    have c31b0 : (x8_2 == (-9999)) = true := beq_iff_eq.mpr c31
    have c31b1 : (x8_2 != (-9999)) = false := bne_eq_false_iff_eq.mpr c31
    clear c31
    simp only [Option.some.injEq, Prod.mk.injEq] at H
    obtain ⟨rfl, rfl⟩ := H
    have hnb32 := NB460_461.out
    have hnc32 := NB461_460.out
    have hcz33_0 := bz BK460.out 0 (.int .i64 a0_0)
    have hcz33_1 := bz BK460.out 1 (.int .i64 a0_1)
    have hcz33_2 := bz BK460.out 2 (.slice A0_2 l0_2.length c0_2)
    have hfz33_0 := zyF BK460.out 0
    have hfz33_1 := zyF BK460.out 1
    have hfz33_2 := zyF BK460.out 2
    go_wp2
    go_ret2
    exact ⟨zqE, zq30⟩
   rw [if_pos c20] at H
   have c20b0 : decide (x9_2 < (l0_2.length : Int)) = true := decide_eq_true c20
   clear c20
   by_cases c21 : 0 ≤ x9_2
   case neg =>
    rw [if_neg c21] at H
    exact absurd H (by simp)
   rw [if_pos c21] at H
   have c21b0 : decide (0 ≤ x9_2) = true := decide_eq_true c21
   clear c21
   by_cases c22 : (rd l0_2 x9_2) = a1
   case neg =>
    rw [if_neg c22] at H
    have c22b0 : ((rd l0_2 x9_2) == a1) = false := beq_eq_false_iff_ne.mpr c22
    have c22b1 : ((rd l0_2 x9_2) != a1) = true := bne_iff_ne.mpr c22
    have H' := zm H
    clear H
    have hnb29 := NB460_461.out
    have hnc29 := NB461_460.out
    have hcz30_0 := bz BK460.out 0 (.int .i64 a0_0)
    have hcz30_1 := bz BK460.out 1 (.int .i64 a0_1)
    have hcz30_2 := bz BK460.out 2 (.slice A0_2 l0_2.length c0_2)
    have hfz30_0 := zyF BK460.out 0
    have hfz30_1 := zyF BK460.out 1
    have hfz30_2 := zyF BK460.out 2
    have p464 : 0 ≤ (x9_2 : Int) := of_decide_eq_true zq6
    have q464 : x9_2 < (l0_2.length : Int) := of_decide_eq_true zq6
    obtain ⟨ad464, e464, hx464_0⟩ := Kd.at_int HR0_2.out x9_2 p464 q464
    cases e464
    replace hx464_0 := bx HB.out hx464_0
    replace p464 := eq_true p464
    replace q464 := eq_true q464
    go_wp2
    go_roundg k2
    case measure => have := HJ3.out; have := HK2.out; omega
    case rel => exact ⟨(x8_2), (wrap64 (x9_2 + 1)), (by first | rfl | (simp; done) | (simp [*]; done)), (by first | rfl | (simp; done) | (simp [*]; done)), H', ⟨by have := HJ3.out; have := HK2.out; omega⟩, ⟨by (with_reducible repeat (first | apply zN | apply zD | apply zL)); exact BK460.out⟩, ⟨by (with_reducible repeat (first | apply zN | apply zD | apply zL)); exact BK461.out⟩, ⟨zq30⟩⟩
   rw [if_pos c22] at H
   have c22b0 : ((rd l0_2 x9_2) == a1) = true := beq_iff_eq.mpr c22
   have c22b1 : ((rd l0_2 x9_2) != a1) = false := bne_eq_false_iff_eq.mpr c22
   clear c22
   by_cases c23 : x9_2 < (l2_2.length : Int)
   case neg =>
    rw [if_neg c23] at H
    exact absurd H (by simp)
   rw [if_pos c23] at H
   have c23b0 : decide (x9_2 < (l2_2.length : Int)) = true := decide_eq_true c23
   clear c23
   obtain ⟨t466, A240, H⟩ := zob H
   replace H : (spec_AreaMaximum.l0 k2 a1 t466 (wrap64 (x9_2 + 1)) a0_0 a0_1 l0_2 a2_0 a2_1 l2_2) = some (r1, r2) := H
   have A24 := zm A240
   clear A240
   have H' := zm H
   clear H
   have hnb25 := NB460_461.out
   have hnc25 := NB461_460.out
   have hcz26_0 := bz BK460.out 0 (.int .i64 a0_0)
   have hcz26_1 := bz BK460.out 1 (.int .i64 a0_1)
   have hcz26_2 := bz BK460.out 2 (.slice A0_2 l0_2.length c0_2)
   have hfz26_0 := zyF BK460.out 0
   have hfz26_1 := zyF BK460.out 1
   have hfz26_2 := zyF BK460.out 2
   have p464 : 0 ≤ (x9_2 : Int) := of_decide_eq_true zq6
   have q464 : x9_2 < (l0_2.length : Int) := of_decide_eq_true zq6
   obtain ⟨ad464, e464, hx464_0⟩ := Kd.at_int HR0_2.out x9_2 p464 q464
   cases e464
   replace hx464_0 := bx HB.out hx464_0
   replace p464 := eq_true p464
   replace q464 := eq_true q464
   have hcz27_0 := bz BK461.out 0 (.int .i64 a2_0)
   have hcz27_1 := bz BK461.out 1 (.int .i64 a2_1)
   have hcz27_2 := bz BK461.out 2 (.slice A2_2 l2_2.length c2_2)
   have hfz27_0 := zyF BK461.out 0
   have hfz27_1 := zyF BK461.out 1
   have hfz27_2 := zyF BK461.out 2
   have p465 : 0 ≤ (x9_2 : Int) := of_decide_eq_true zq6
   have q465 : x9_2 < (l2_2.length : Int) := of_decide_eq_true zq6
   obtain ⟨ad465, e465, hx465_0⟩ := Kd.at_int HR2_2.out x9_2 p465 q465
   cases e465
   replace hx465_0 := bx HB.out hx465_0
   replace p465 := eq_true p465
   replace q465 := eq_true q465
   go_wp2_with (first | ((with_reducible refine zyg (f := 40) rfl ?_); refine goesL_ (some 40) rfl rfl Try.func40 (by kernel_rfl) rfl #[.int .i64 x8_2, .int .i64 (rd l2_2 x9_2)] rfl zq0 ?_; (with_reducible refine (spec_l1Most.calls x8_2 (rd l2_2 x9_2) t466 _ A24.out).mono ?_); rintro e w28 ⟨rfl, hb⟩; refine ⟨_, rfl, ?_⟩; replace BK460 := zm (zyb (g := gb460) (o := .cells #[.int .i64 a0_0, .int .i64 a0_1, .slice (some ad464) l0_2.length c0_2] 26 (0, 0)) (zqK BK460.out) hb); replace BK461 := zm (zyb (g := gb461) (o := .cells #[.int .i64 a2_0, .int .i64 a2_1, .slice (some ad465) l2_2.length c2_2] 27 (0, 0)) (zqK BK461.out) hb); replace HB := zm (zyh zq30 hb); (try clear hb); (try clear hb2); (try clear hk); (try clear hi)))
   go_roundg k2
   case measure => have := HJ3.out; have := HK2.out; omega
   case rel => exact ⟨(t466), (wrap64 (x9_2 + 1)), (by first | rfl | (simp; done) | (simp [*]; done)), (by first | rfl | (simp; done) | (simp [*]; done)), H', ⟨by have := HJ3.out; have := HK2.out; omega⟩, ⟨by (with_reducible repeat (first | apply zN | apply zD | apply zL)); exact BK460.out⟩, ⟨by (with_reducible repeat (first | apply zN | apply zD | apply zL)); exact BK461.out⟩, ⟨zq30⟩⟩
end Go.Proofs.Ytfaihkhdbapjmaa.Q
