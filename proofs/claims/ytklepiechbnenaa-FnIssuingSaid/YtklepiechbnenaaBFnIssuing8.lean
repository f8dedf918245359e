/- Texts of this seat, put together: Qf37, Qf38, Qf99, Qf57, Qf40. -/
import Derived.Test.YtklepiechbnenaaZFnIssuing
import Derived.Test.YtklepiechbnenaaBFnIssuing0
import Derived.Test.YtklepiechbnenaaBFnIssuing2
import Derived.Test.YtklepiechbnenaaBFnIssuing3
import Derived.Test.YtklepiechbnenaaBFnIssuing5
namespace Go.Proofs.Ytklepiechbnenaa.Q
open Go.RowKit Go.Proofs.YtklepiechbnenaaW.PrintWords Go.Proofs.YtklepiechbnenaaW.PrintLast Go.Proofs.YtklepiechbnenaaW.PrintMore
attribute [local go_sem] max2_int min2_int max_two min_two max_three min_three max_four min_four   -- for this text's walks alone
set_option linter.unusedVariables false
set_option linter.unusedSimpArgs false

/-! ### spec_MeetingWarnings: function 37 -/
mutual
def spec_MeetingWarnings.j0 : Nat → List (S31) → List Int → Bool → Int → Int → Int → Int → Int → Int → Option (List Int × Bool)
 | 0, _, _, _, _, _, _, _, _, _ => none
 | k + 1, x0, x6, x16, x786000, x786001, x786002, x786003, x786004, x786005 => if x16 = true then (some (x6, false)) else (spec_MeetingWarnings.l0 k x0 x6 0 x786000 x786001 x786002 x786003 x786004 x786005)
def spec_MeetingWarnings.l0 : Nat → List (S31) → List Int → Int → Int → Int → Int → Int → Int → Int → Option (List Int × Bool)
 | 0, _, _, _, _, _, _, _, _, _ => none
 | k + 1, x0, x6, x7, x786000, x786001, x786002, x786003, x786004, x786005 => if x7 < (x0.length : Int) then (if 0 ≤ x7 then (if ((rd_T31 x0 x7).f0) = x786000 then (spec_MeetingWarnings.l0 k x0 x6 (wrap64 (x7 + 1)) x786000 x786001 x786002 x786003 x786004 x786005) else ((spec_l14Meet.f ((rd_T31 x0 x7).f0) ((rd_T31 x0 x7).f1) ((rd_T31 x0 x7).f2) ((rd_T31 x0 x7).f3) ((rd_T31 x0 x7).f4) ((rd_T31 x0 x7).f5) x786000 x786001 x786002 x786003 x786004 x786005).bind fun t793 => (if t793 = true then (if x6.length < 17592186044416 then (spec_MeetingWarnings.l0 k x0 (x6 ++ [(rd_T31 x0 x7).f0]) (wrap64 (x7 + 1)) x786000 x786001 x786002 x786003 x786004 x786005) else (none)) else (spec_MeetingWarnings.l0 k x0 x6 (wrap64 (x7 + 1)) x786000 x786001 x786002 x786003 x786004 x786005)))) else (none)) else (some (x6, true))
end
def spec_MeetingWarnings.f (k : Nat) (l0 : List (S31)) (a1_0 : Int) (a1_1 : Int) (a1_2 : Int) (a1_3 : Int) (a1_4 : Int) (a1_5 : Int) : Option (List Int × Bool) := (some (([] : List Int) : List Int)).bind fun y786 => ((spec_l14List.f k l0).bind fun t789 => (if t789 = true then ((spec_l14Good.f a1_0 a1_1 a1_2 a1_3 a1_4 a1_5).bind fun t790 => (spec_MeetingWarnings.j0 k l0 y786 (!t790) a1_0 a1_1 a1_2 a1_3 a1_4 a1_5)) else (spec_MeetingWarnings.j0 k l0 y786 true a1_0 a1_1 a1_2 a1_3 a1_4 a1_5)))
theorem spec_MeetingWarnings.mono_l : ∀ k, (∀ y0 y1 y2 y3 y4 y5 y6 y7 y8, LeO (spec_MeetingWarnings.j0 k y0 y1 y2 y3 y4 y5 y6 y7 y8) (spec_MeetingWarnings.j0 (k + 1) y0 y1 y2 y3 y4 y5 y6 y7 y8)) ∧ (∀ y0 y1 y2 y3 y4 y5 y6 y7 y8, LeO (spec_MeetingWarnings.l0 k y0 y1 y2 y3 y4 y5 y6 y7 y8) (spec_MeetingWarnings.l0 (k + 1) y0 y1 y2 y3 y4 y5 y6 y7 y8))
 | 0 => ⟨fun _ _ _ _ _ _ _ _ _ r h => by simp [spec_MeetingWarnings.j0] at h, fun _ _ _ _ _ _ _ _ _ r h => by simp [spec_MeetingWarnings.l0] at h⟩
 | k + 1 => by
  obtain ⟨ih0, ih1⟩ := spec_MeetingWarnings.mono_l k
  refine ⟨?_, ?_⟩
  ·
   intro y0 y1 y2 y3 y4 y5 y6 y7 y8
   unfold spec_MeetingWarnings.j0
   repeat' first
   | (with_reducible exact ih0 _ _ _ _ _ _ _ _ _)
   | (with_reducible exact ih1 _ _ _ _ _ _ _ _ _)
   | (with_reducible exact spec_l14List.mono _ _)
   | (with_reducible exact LeO.refl _)
   | (with_reducible exact LeO.none _)
   | (with_reducible refine LeO.ite ?_ ?_)
   | (with_reducible refine LeO.bind ?_ (fun _ => ?_))
   | exact ih0 _ _ _ _ _ _ _ _ _
   | exact ih1 _ _ _ _ _ _ _ _ _
   | exact spec_l14List.mono _ _
   | exact LeO.none _
   | refine LeO.ite ?_ ?_
   | refine LeO.bind ?_ (fun _ => ?_)
  ·
   intro y0 y1 y2 y3 y4 y5 y6 y7 y8
   unfold spec_MeetingWarnings.l0
   repeat' first
   | (with_reducible exact ih0 _ _ _ _ _ _ _ _ _)
   | (with_reducible exact ih1 _ _ _ _ _ _ _ _ _)
   | (with_reducible exact spec_l14List.mono _ _)
   | (with_reducible exact LeO.refl _)
   | (with_reducible exact LeO.none _)
   | (with_reducible refine LeO.ite ?_ ?_)
   | (with_reducible refine LeO.bind ?_ (fun _ => ?_))
   | exact ih0 _ _ _ _ _ _ _ _ _
   | exact ih1 _ _ _ _ _ _ _ _ _
   | exact spec_l14List.mono _ _
   | exact LeO.none _
   | refine LeO.ite ?_ ?_
   | refine LeO.bind ?_ (fun _ => ?_)
theorem spec_MeetingWarnings.mono : ∀ a0 a1 a2 a3 a4 a5 a6 k, LeO (spec_MeetingWarnings.f k a0 a1 a2 a3 a4 a5 a6) (spec_MeetingWarnings.f (k + 1) a0 a1 a2 a3 a4 a5 a6) := by
 intro a0 a1 a2 a3 a4 a5 a6 k
 obtain ⟨ih0, ih1⟩ := spec_MeetingWarnings.mono_l k
 unfold spec_MeetingWarnings.f
 repeat' first
   | (with_reducible exact ih0 _ _ _ _ _ _ _ _ _)
   | (with_reducible exact ih1 _ _ _ _ _ _ _ _ _)
   | (with_reducible exact spec_l14List.mono _ _)
   | (with_reducible exact LeO.refl _)
   | (with_reducible exact LeO.none _)
   | (with_reducible refine LeO.ite ?_ ?_)
   | (with_reducible refine LeO.bind ?_ (fun _ => ?_))
   | exact ih0 _ _ _ _ _ _ _ _ _
   | exact ih1 _ _ _ _ _ _ _ _ _
   | exact spec_l14List.mono _ _
   | exact LeO.none _
   | refine LeO.ite ?_ ?_
   | refine LeO.bind ?_ (fun _ => ?_)
def spec_MeetingWarnings.T7 : Bool × List (List Nat × List Nat) := (true, [([], []), ([], []), ([0, 1], [0, 1]), ([2], [2]), ([3], [3]), ([], []), ([5], [5]), ([4, 6], [4, 6]), ([7], [7]), ([8], [8]), ([8], [8]), ([9, 10, 8], [8, 9, 10]), ([11, 8], [8, 11]), ([8], [8]), ([12, 13, 8, 8], [8, 12, 13]), ([8, 14], [8, 14])])
def spec_MeetingWarnings.B7 : List Nat := [0, 0, 3, 7, 15, 0, 32, 127, 255, 511, 511, 2047, 4095, 511, 16383, 32767]
theorem spec_MeetingWarnings.tab7 : rtab .any (opsOf Try.f37 7) = spec_MeetingWarnings.T7 := by kernel_rfl
theorem spec_MeetingWarnings.bits7 : waitsOk spec_MeetingWarnings.T7.2 spec_MeetingWarnings.B7 = true := by kernel_rfl
set_option maxHeartbeats 8000000 in
set_option maxRecDepth 100000 in
theorem spec_MeetingWarnings.calls (k : Nat) (A0 : Option Addr) (c0 : Nat) (l0 : List (S31)) (a1_0 : Int) (a1_1 : Int) (a1_2 : Int) (a1_3 : Int) (a1_4 : Int) (a1_5 : Int) (r1 : List Int) (r2 : Bool) (w : World) (hr0 : Kd.C k31 w A0 l0.length l0) (hc0 : l0.length ≤ c0) (h : spec_MeetingWarnings.f k l0 a1_0 a1_1 a1_2 a1_3 a1_4 a1_5 = some (r1, r2)) :
  Calls Try.prog 37 #[.slice A0 l0.length c0, .agg #[.int .i64 a1_0, .int .i64 a1_1, .int .i64 a1_2, .int .i64 a1_3, .int .i64 a1_4, .int .i64 a1_5]] w fun e w' => ∃ v0_ : Value, e = .returned (.tuple #[v0_, .bool r2]) ∧ Kd.R (Kd.int .i64) 3 w' w.heap.size (fun _ => True) v0_ r1 ∧ Below w.heap.size w w' := by
 have hu31 := Try.underlying31
 have HR0 := Aside0.mk hr0
 have HC0 := Aside0.mk hc0
 clear hr0 hc0
 have HB := Aside0.mk (Below.refl w.heap.size w)
 have H : ((some (([] : List Int) : List Int)).bind fun y786 => ((spec_l14List.f k l0).bind fun t789 => (if t789 = true then ((spec_l14Good.f a1_0 a1_1 a1_2 a1_3 a1_4 a1_5).bind fun t790 => (spec_MeetingWarnings.j0 k l0 y786 (!t790) a1_0 a1_1 a1_2 a1_3 a1_4 a1_5)) else (spec_MeetingWarnings.j0 k l0 y786 true a1_0 a1_1 a1_2 a1_3 a1_4 a1_5)))) = some (r1, r2) := h
 clear h
 obtain ⟨y786, hy786⟩ : ∃ y_ : List Int, y_ = (([] : List Int)) := ⟨_, rfl⟩
 replace H : ((spec_l14List.f k l0).bind fun t789 => (if t789 = true then ((spec_l14Good.f a1_0 a1_1 a1_2 a1_3 a1_4 a1_5).bind fun t790 => (spec_MeetingWarnings.j0 k l0 y786 (!t790) a1_0 a1_1 a1_2 a1_3 a1_4 a1_5)) else (spec_MeetingWarnings.j0 k l0 y786 true a1_0 a1_1 a1_2 a1_3 a1_4 a1_5))) = some (r1, r2) := by first | (rw [hy786]; with_reducible exact H) | (have H2_ := (Option.bind_some _ _).symm.trans H; rw [hy786]; with_reducible exact H2_) | (have H2_ := (Option.bind_some _ _).symm.trans H; with_reducible exact H2_) | with_reducible exact H | (rw [hy786]; exact H) | exact H
 have Ny786 := Aside0.mk hy786
 clear hy786
 have HC3 := Aside0.mk H
 clear H
 go_enter Try.func37, Try.ntmps37
 go_upto_region 2 with (first | ((with_reducible refine gate_dst (N := 3) rfl ?_); refine box_event ?hg (N := 3) ?hd (cs := #[.int .i64 a1_0, .int .i64 a1_1, .int .i64 a1_2, .int .i64 a1_3, .int .i64 a1_4, .int .i64 a1_5]) (t := 31) ?hr ?_; (case hd => rfl); (case hg => rfl); (case hr => first | (go_simp; done) | (go_simp; rfl)); intro gb785 hg w4 hbox hb; have n0_ := Aside0.mk (below_step zq0 hb); have n1_ := Aside0.mk (hbox); have n2_ := Aside0.mk ((by rw [hg]; exact (below_size zq0) : w.heap.size ≤ gb785)); have n3_ := Aside0.mk ((by rw [hg]; exact (below_size zq0) : w.heap.size ≤ gb785)); clear HB; have HB := n0_; have BK785 := n1_; have GW785 := n2_; have GE785 := n3_; clear n0_ n1_ n2_ n3_; clear hb hbox hg) | ((with_reducible refine gate_dst (N := 8) rfl ?_); refine Kd.R_lit (Kd.int .i64) _ 3 ?hg (N := 8) ?hd (xs := ([] : List Int)) (inner := []) (ok := fun _ => True) (okp := fun _ => True) ?hr ?hp (fun _ hk => hk) trivial (Below.refl _ _) (Nat.le_refl _) (by simp) ?_; (case hd => rfl); (case hg => rfl); (case hr => first | (go_simp; done) | (go_simp; rfl)); (case hp => exact (Reps.none _ _)); intro v787 w5 ho6 hb hg_ hnew_; clear hg_ hnew_; (first | rw [← Ny786.out] at ho6 | (simp only [Int.reduceToNat] at ho6; rw [← Ny786.out] at ho6)); have n0_ := Aside0.mk (Kd.R_lower ho6 (below_size zq22)); have n1_ := Aside0.mk (blk_below (g := gb785) (o := .cells #[.int .i64 a1_0, .int .i64 a1_1, .int .i64 a1_2, .int .i64 a1_3, .int .i64 a1_4, .int .i64 a1_5] 31 (0, 0)) (zqK BK785.out) hb); have n2_ := Aside0.mk (below_step zq22 hb); clear BK785; clear HB; have HO788 := n0_; have BK785 := n1_; have HB := n2_; clear n0_ n1_ n2_; clear hb ho6))
 (try simp only [Act.put, List.setIfInBounds_toArray, List.set_cons_zero, List.set_cons_succ])
 go_cut [16] (fun v16 wc => ∃ (kq : Nat) (x16_2 : Bool), v16 = .bool x16_2 ∧ Aside0 (spec_MeetingWarnings.j0 kq l0 y786 x16_2 a1_0 a1_1 a1_2 a1_3 a1_4 a1_5 = some (r1, r2)) ∧ Aside0 (kq ≤ k) ∧ Aside0 (Kd.R (Kd.int .i64) 3 wc w.heap.size (fun _ => True) v787 y786) ∧ Aside0 (wc.heap[gb785]? = some (.cells #[.int .i64 a1_0, .int .i64 a1_1, .int .i64 a1_2, .int .i64 a1_3, .int .i64 a1_4, .int .i64 a1_5] 31 (0, 0))) ∧ Aside0 (Below w.heap.size w wc))
 case first =>
  have H := HC3.out
  clear HC3
  replace H := Option.bind_eq_some_iff.mp H
  obtain ⟨t789, A70, H⟩ := H
  replace H : (if t789 = true then ((spec_l14Good.f a1_0 a1_1 a1_2 a1_3 a1_4 a1_5).bind fun t790 => (spec_MeetingWarnings.j0 k l0 y786 (!t790) a1_0 a1_1 a1_2 a1_3 a1_4 a1_5)) else (spec_MeetingWarnings.j0 k l0 y786 true a1_0 a1_1 a1_2 a1_3 a1_4 a1_5)) = some (r1, r2) := H
  have A7 := Aside0.mk A70
  clear A70
  by_cases c8 : t789 = true
  ·
   subst c8
   have H1 : ((spec_l14Good.f a1_0 a1_1 a1_2 a1_3 a1_4 a1_5).bind fun t790 => (spec_MeetingWarnings.j0 k l0 y786 (!t790) a1_0 a1_1 a1_2 a1_3 a1_4 a1_5)) = some (r1, r2) := by rw [if_pos rfl] at H; exact H
   clear H
   have H := H1
   clear H1
   replace H := Option.bind_eq_some_iff.mp H
   obtain ⟨t790, A90, H⟩ := H
   replace H : (spec_MeetingWarnings.j0 k l0 y786 (!t790) a1_0 a1_1 a1_2 a1_3 a1_4 a1_5) = some (r1, r2) := H
   have A9 := Aside0.mk A90
   clear A90
   have H' := Aside0.mk H
   clear H
   go_wp2_with (first | ((with_reducible refine gate_callee (f := 63) rfl ?_); refine goesL_ (some 10) rfl rfl Try.func63 (by kernel_rfl) rfl #[.slice A0 l0.length c0] rfl zq1 ?_; (with_reducible refine (spec_l14List.calls k _ _ l0 true _ ?side1 ?side2 A7.out).mono ?_); (case side1 => repeat (first | exact (Kd.C_below HR0.out HB.out) | (with_reducible refine Kd.C_alloc ?_ _) | (with_reducible refine Kd.C_drewN ?_ _) | (with_reducible refine Kd.C_drew ?_))); (case side2 => exact HC0.out); rintro e w10 ⟨rfl, hb⟩; refine ⟨_, rfl, ?_⟩; have n0_ := Aside0.mk (Kd.R_below (zqR HO788.out) hb); have n1_ := Aside0.mk (blk_below (g := gb785) (o := .cells #[.int .i64 a1_0, .int .i64 a1_1, .int .i64 a1_2, .int .i64 a1_3, .int .i64 a1_4, .int .i64 a1_5] 31 (0, 0)) (zqK BK785.out) hb); have n2_ := Aside0.mk (below_step zq22 hb); clear HO788; clear BK785; clear HB; have HO788 := n0_; have BK785 := n1_; have HB := n2_; clear n0_ n1_ n2_; (try clear hb); (try clear hb2); (try clear hk); (try clear hi); have hcz11_0 : w10.cell? ⟨gb785, 0, none⟩ = some (.int .i64 a1_0) := (blk_cell BK785.out 0).trans rfl; have hcz11_1 : w10.cell? ⟨gb785, 1, none⟩ = some (.int .i64 a1_1) := (blk_cell BK785.out 1).trans rfl; have hcz11_2 : w10.cell? ⟨gb785, 2, none⟩ = some (.int .i64 a1_2) := (blk_cell BK785.out 2).trans rfl; have hcz11_3 : w10.cell? ⟨gb785, 3, none⟩ = some (.int .i64 a1_3) := (blk_cell BK785.out 3).trans rfl; have hcz11_4 : w10.cell? ⟨gb785, 4, none⟩ = some (.int .i64 a1_4) := (blk_cell BK785.out 4).trans rfl; have hcz11_5 : w10.cell? ⟨gb785, 5, none⟩ = some (.int .i64 a1_5) := (blk_cell BK785.out 5).trans rfl; have hfz11_0 := blk_frozen BK785.out 0; have hfz11_1 := blk_frozen BK785.out 1; have hfz11_2 := blk_frozen BK785.out 2; have hfz11_3 := blk_frozen BK785.out 3; have hfz11_4 := blk_frozen BK785.out 4; have hfz11_5 := blk_frozen BK785.out 5) | (go_at_call 91; (with_reducible refine (spec_l14Good.calls a1_0 a1_1 a1_2 a1_3 a1_4 a1_5 t790 _ A9.out).mono ?_); rintro e w12 ⟨rfl, hb⟩; have n0_ := Aside0.mk (Kd.R_below (zqR HO788.out) hb); have n1_ := Aside0.mk (blk_below (g := gb785) (o := .cells #[.int .i64 a1_0, .int .i64 a1_1, .int .i64 a1_2, .int .i64 a1_3, .int .i64 a1_4, .int .i64 a1_5] 31 (0, 0)) (zqK BK785.out) hb); have n2_ := Aside0.mk (below_step zq22 hb); clear HO788; clear BK785; clear HB; have HO788 := n0_; have BK785 := n1_; have HB := n2_; clear n0_ n1_ n2_; (try clear hb); (try clear hb2); (try clear hk); (try clear hi)))
   go_meet
   case rel => exact ⟨_, (!t790), (by first | rfl | (simp; done) | (simp [*]; done)), H', ⟨by first | omega | exact Nat.le_refl _⟩, ⟨by (with_reducible repeat (first | apply Kd.R_alloc | apply Kd.R_drewN | apply Kd.R_drew)); exact HO788.out⟩, ⟨by (with_reducible repeat (first | refine blk_drewN ?_ _ | refine blk_drew ?_ | refine blk_alloc ?_ _)); exact BK785.out⟩, ⟨by repeat (first | (with_reducible first | exact HB.out | apply below_alloc | apply pw_below_drewN | apply below_drew1 | refine below_set ?_ GE785.out) | exact HB.out)⟩⟩
  ·
   replace c8 := Bool.eq_false_iff.mpr c8
   subst c8
   have H1 : (spec_MeetingWarnings.j0 k l0 y786 true a1_0 a1_1 a1_2 a1_3 a1_4 a1_5) = some (r1, r2) := by rw [if_neg (show ¬ (false = true) by decide)] at H; exact H
   clear H
   have H := H1
   clear H1
   have H' := Aside0.mk H
   clear H
   go_wp2_with (first | ((with_reducible refine gate_callee (f := 63) rfl ?_); refine goesL_ (some 10) rfl rfl Try.func63 (by kernel_rfl) rfl #[.slice A0 l0.length c0] rfl zq1 ?_; (with_reducible refine (spec_l14List.calls k _ _ l0 false _ ?side1 ?side2 A7.out).mono ?_); (case side1 => repeat (first | exact (Kd.C_below HR0.out HB.out) | (with_reducible refine Kd.C_alloc ?_ _) | (with_reducible refine Kd.C_drewN ?_ _) | (with_reducible refine Kd.C_drew ?_))); (case side2 => exact HC0.out); rintro e w13 ⟨rfl, hb⟩; refine ⟨_, rfl, ?_⟩; have n0_ := Aside0.mk (Kd.R_below (zqR HO788.out) hb); have n1_ := Aside0.mk (blk_below (g := gb785) (o := .cells #[.int .i64 a1_0, .int .i64 a1_1, .int .i64 a1_2, .int .i64 a1_3, .int .i64 a1_4, .int .i64 a1_5] 31 (0, 0)) (zqK BK785.out) hb); have n2_ := Aside0.mk (below_step zq22 hb); clear HO788; clear BK785; clear HB; have HO788 := n0_; have BK785 := n1_; have HB := n2_; clear n0_ n1_ n2_; (try clear hb); (try clear hb2); (try clear hk); (try clear hi)))
   go_meet
   case rel => exact ⟨_, (true), (by first | rfl | (simp; done) | (simp [*]; done)), H', ⟨by first | omega | exact Nat.le_refl _⟩, ⟨by (with_reducible repeat (first | apply Kd.R_alloc | apply Kd.R_drewN | apply Kd.R_drew)); exact HO788.out⟩, ⟨by (with_reducible repeat (first | refine blk_drewN ?_ _ | refine blk_drew ?_ | refine blk_alloc ?_ _)); exact BK785.out⟩, ⟨by repeat (first | (with_reducible first | exact HB.out | apply below_alloc | apply pw_below_drewN | apply below_drew1 | refine below_set ?_ GE785.out) | exact HB.out)⟩⟩
 case rest =>
  clear HC3
  try clear p2
  try clear c3
  try clear c6
  try clear c8
  try clear hcz11_0
  try clear hcz11_1
  try clear hcz11_2
  try clear hcz11_3
  try clear hcz11_4
  try clear hcz11_5
  try clear hfz11_0
  try clear hfz11_1
  try clear hfz11_2
  try clear hfz11_3
  try clear hfz11_4
  try clear hfz11_5
  obtain ⟨kq, x16_2, rfl, HA, HJ2, HO_6, BK785, HB⟩ := hcut
  cases kq with
  | zero => exact absurd HA.out (by simp [spec_MeetingWarnings.j0])
  | succ kj2 =>
   have H := HA.out
   clear HA
   simp only [spec_MeetingWarnings.j0] at H
   by_cases c14 : x16_2 = true
   ·
    subst c14
    have H1 : (some (y786, false)) = some (r1, r2) := by rw [if_pos rfl] at H; exact H
    clear H
    have H := H1
    clear H1
    simp only [Option.some.injEq, Prod.mk.injEq] at H
    obtain ⟨rfl, rfl⟩ := H
    go_wp2
    go_ret2
    exact ⟨_, by first | rfl | (simp [errW_none, errW_some] <;> rfl) | (simp [*, errW_none, errW_some] <;> rfl), by (with_reducible repeat (first | apply Kd.R_alloc | apply Kd.R_drewN | apply Kd.R_drew)); exact HO_6.out, by repeat (first | (with_reducible first | exact HB.out | apply below_alloc | apply pw_below_drewN | apply below_drew1 | refine below_set ?_ GE785.out) | exact HB.out)⟩
   ·
    replace c14 := Bool.eq_false_iff.mpr c14
    subst c14
    have H1 : (spec_MeetingWarnings.l0 kj2 l0 y786 0 a1_0 a1_1 a1_2 a1_3 a1_4 a1_5) = some (r1, r2) := by rw [if_neg (show ¬ (false = true) by decide)] at H; exact H
    clear H
    have H := H1
    clear H1
    have H' := Aside0.mk H
    clear H
    go_wp2
    go_loopg [6, 7] kj2 (fun kq v6 v7 w' => ∃ (x6_2 : List Int) (x7_2 : Int), v7 = .int .i64 x7_2 ∧ Aside0 (spec_MeetingWarnings.l0 kq l0 x6_2 x7_2 a1_0 a1_1 a1_2 a1_3 a1_4 a1_5 = some (r1, r2)) ∧ Aside0 (kq ≤ kj2) ∧ Aside0 (Kd.R (Kd.int .i64) 3 w' w.heap.size (fun _ => True) v6 x6_2) ∧ Aside0 (w'.heap[gb785]? = some (.cells #[.int .i64 a1_0, .int .i64 a1_1, .int .i64 a1_2, .int .i64 a1_3, .int .i64 a1_4, .int .i64 a1_5] 31 (0, 0))) ∧ Aside0 (Below w.heap.size w w'))
    case atStart => exact ⟨(y786), (0), (by first | rfl | (simp; done) | (simp [*]; done)), H', ⟨Nat.le_refl _⟩, ⟨by (with_reducible repeat (first | apply Kd.R_alloc | apply Kd.R_drewN | apply Kd.R_drew)); exact HO_6.out⟩, ⟨by (with_reducible repeat (first | refine blk_drewN ?_ _ | refine blk_drew ?_ | refine blk_alloc ?_ _)); exact BK785.out⟩, ⟨by repeat (first | (with_reducible first | exact HB.out | apply below_alloc | apply pw_below_drewN | apply below_drew1 | refine below_set ?_ GE785.out) | exact HB.out)⟩⟩
    case round =>
     clear H'
     try clear c1
     try clear p2
     try clear c3
     try clear c6
     try clear c8
     try clear c14
     try clear hcz11_0
     try clear hcz11_1
     try clear hcz11_2
     try clear hcz11_3
     try clear hcz11_4
     try clear hcz11_5
     try clear hfz11_0
     try clear hfz11_1
     try clear hfz11_2
     try clear hfz11_3
     try clear hfz11_4
     try clear hfz11_5
     try clear p2
     obtain ⟨x6_2, x7_2, rfl, HA, HK2, HO_6, BK785, HB⟩ := hrel
     cases gk with
     | zero => exact absurd HA.out (by simp [spec_MeetingWarnings.l0])
     | succ k2 =>
      have H := HA.out
      clear HA
      simp only [spec_MeetingWarnings.l0] at H
      by_cases c15 : x7_2 < (l0.length : Int)
      ·
       rw [if_pos c15] at H
       have c15b0 : decide (x7_2 < (l0.length : Int)) = true := decide_eq_true c15
       clear c15
       by_cases c16 : 0 ≤ x7_2
       ·
        rw [if_pos c16] at H
        have c16b0 : decide (0 ≤ x7_2) = true := decide_eq_true c16
        clear c16
        by_cases c17 : ((rd_T31 l0 x7_2).f0) = a1_0
        ·
         rw [if_pos c17] at H
         have c17b0 : (((rd_T31 l0 x7_2).f0) == a1_0) = true := beq_iff_eq.mpr c17
         have c17b1 : (((rd_T31 l0 x7_2).f0) != a1_0) = false := bne_eq_false_iff_eq.mpr c17
         clear c17
         have H' := Aside0.mk H
         clear H
         try go_wp2
         have n0_ := Aside0.mk (Kd.R_drew HO_6.out)
         have n1_ := Aside0.mk (blk_drew BK785.out)
         have n2_ := Aside0.mk (below_drew1 HB.out)
         clear HO_6
         clear BK785
         clear HB
         have HO_6 := n0_
         have BK785 := n1_
         have HB := n2_
         clear n0_ n1_ n2_
         have p791 : 0 ≤ (x7_2 : Int) := of_decide_eq_true zq2
         have q791 : x7_2 < (l0.length : Int) := of_decide_eq_true zq2
         obtain ⟨ad791, e791, hx791_0, hx791_1, hx791_2, hx791_3, hx791_4, hx791_5⟩ := at_T31 HR0.out x7_2 p791 q791
         have hw791_5 := hx791_5
         have hw791_4 := hx791_4
         have hw791_3 := hx791_3
         have hw791_2 := hx791_2
         have hw791_1 := hx791_1
         have hw791_0 := hx791_0
         cases e791
         replace hx791_0 := (HB.out.cell (World.block_lt_of_cell? w _ hx791_0)).trans hx791_0
         replace hx791_1 := (HB.out.cell (World.block_lt_of_cell? w _ hx791_1)).trans hx791_1
         replace hx791_2 := (HB.out.cell (World.block_lt_of_cell? w _ hx791_2)).trans hx791_2
         replace hx791_3 := (HB.out.cell (World.block_lt_of_cell? w _ hx791_3)).trans hx791_3
         replace hx791_4 := (HB.out.cell (World.block_lt_of_cell? w _ hx791_4)).trans hx791_4
         replace hx791_5 := (HB.out.cell (World.block_lt_of_cell? w _ hx791_5)).trans hx791_5
         replace p791 := eq_true p791
         replace q791 := eq_true q791
         refine start_ (n := 16) (S := fun w' => w'.cell? ⟨gb785, 0, none⟩ = some (.int .i64 a1_0) ∧ w'.cell? ⟨gb785, 1, none⟩ = some (.int .i64 a1_1) ∧ w'.cell? ⟨gb785, 2, none⟩ = some (.int .i64 a1_2) ∧ w'.cell? ⟨gb785, 3, none⟩ = some (.int .i64 a1_3) ∧ w'.cell? ⟨gb785, 4, none⟩ = some (.int .i64 a1_4) ∧ w'.cell? ⟨gb785, 5, none⟩ = some (.int .i64 a1_5) ∧ w'.cell? (ad791.add ((x7_2).toNat * 6)) = some (.int .i64 ((rd_T31 l0 x7_2).f0)) ∧ w'.cell? ⟨(ad791.add ((x7_2).toNat * 6)).block, (ad791.add ((x7_2).toNat * 6)).off + 1, none⟩ = some (.int .i64 ((rd_T31 l0 x7_2).f1)) ∧ w'.cell? ⟨(ad791.add ((x7_2).toNat * 6)).block, (ad791.add ((x7_2).toNat * 6)).off + 2, none⟩ = some (.int .i64 ((rd_T31 l0 x7_2).f2)) ∧ w'.cell? ⟨(ad791.add ((x7_2).toNat * 6)).block, (ad791.add ((x7_2).toNat * 6)).off + 3, none⟩ = some (.int .i64 ((rd_T31 l0 x7_2).f3)) ∧ w'.cell? ⟨(ad791.add ((x7_2).toNat * 6)).block, (ad791.add ((x7_2).toNat * 6)).off + 4, none⟩ = some (.int .i64 ((rd_T31 l0 x7_2).f4)) ∧ w'.cell? ⟨(ad791.add ((x7_2).toNat * 6)).block, (ad791.add ((x7_2).toNat * 6)).off + 5, none⟩ = some (.int .i64 ((rd_T31 l0 x7_2).f5))) (ds := []) #[false, false, false, false, false, false, false, false, false, false, false, false, false, false, false, false] (by kernel_rfl) rfl rfl ⟨(blk_cell BK785.out 0).trans rfl, (blk_cell BK785.out 1).trans rfl, (blk_cell BK785.out 2).trans rfl, (blk_cell BK785.out 3).trans rfl, (blk_cell BK785.out 4).trans rfl, (blk_cell BK785.out 5).trans rfl, ((HB.out.cell (World.block_lt_of_cell? w _ hw791_0)).trans hw791_0), ((HB.out.cell (World.block_lt_of_cell? w _ hw791_1)).trans hw791_1), ((HB.out.cell (World.block_lt_of_cell? w _ hw791_2)).trans hw791_2), ((HB.out.cell (World.block_lt_of_cell? w _ hw791_3)).trans hw791_3), ((HB.out.cell (World.block_lt_of_cell? w _ hw791_4)).trans hw791_4), ((HB.out.cell (World.block_lt_of_cell? w _ hw791_5)).trans hw791_5)⟩ (fun hHeld => ?_); refine with_tabW spec_MeetingWarnings.tab7 spec_MeetingWarnings.bits7 (fun HT_ HW_ => ?_)
         generalize wr.drew = w18 at HO_6 BK785 HB hx791_0 hx791_1 hx791_2 hx791_3 hx791_4 hx791_5 hHeld ⊢
         refine pure_ (i := 0) (N := some 24) (v := ?_) (a' := ?_) #[true, false, false, false, false, false, false, false, false, false, false, false, false, false, false, false] rfl rfl (any_of HT_.out (by kernel_rfl)) (fun _ _ _ h => h) (Or.inl ⟨by rfl, ?_⟩) ?_ ?_
         rotate_left
         · exact zqB
         rotate_left
         · exact zqA
         refine pure_ (i := 1) (N := some 25) (v := ?_) (a' := ?_) #[true, true, false, false, false, false, false, false, false, false, false, false, false, false, false, false] rfl rfl (any_of HT_.out (by kernel_rfl)) (fun _ _ _ h => h) (Or.inl ⟨by rfl, ?_⟩) ?_ ?_
         rotate_left
         · exact zqB
         rotate_left
         · exact zqA
         refine pure_ (i := 2) (N := some 26) (v := ?_) (a' := ?_) #[true, true, true, false, false, false, false, false, false, false, false, false, false, false, false, false] rfl rfl (any_of HT_.out (by kernel_rfl)) (fun _ _ _ h => h) (Or.inl ⟨by rfl, ?_⟩) ?_ ?_
         rotate_left
         · exact zqB
         rotate_left
         · exact zqA
         refine pure_ (i := 3) (N := some 27) (v := ?_) (a' := ?_) #[true, true, true, true, false, false, false, false, false, false, false, false, false, false, false, false] rfl rfl (any_of HT_.out (by kernel_rfl)) (fun _ _ _ h => h) (Or.inl ⟨by rfl, ?_⟩) ?_ ?_
         rotate_left
         · exact zqB
         rotate_left
         · exact zqA
         refine pure_ (i := 5) (N := some 29) (v := ?_) (a' := ?_) #[true, true, true, true, false, true, false, false, false, false, false, false, false, false, false, false] rfl rfl (any_of HT_.out (by kernel_rfl)) (fun _ _ _ h => h) (Or.inl ⟨by rfl, ?_⟩) ?_ ?_
         rotate_left
         · exact zqB
         rotate_left
         · exact zqA
         refine take_ (i := 4) (N := some 28) (v := ?_) (a' := ?_) #[true, true, true, true, true, true, false, false, false, false, false, false, false, false, false, false] rfl rfl (take_ofW HT_.out HW_.out (by kernel_rfl)) (fun _ _ _ h => h) (Or.inl ⟨by rfl, ?_⟩) hHeld ?_ ?_
         rotate_left
         ·
          rintro w' ⟨s0, s1, s2, s3, s4, s5, s6, s7, s8, s9, s10, s11⟩
          go_simp
          with_reducible rfl
         rotate_left
         · exact zqA
         refine take_ (i := 6) (N := some 30) (v := ?_) (a' := ?_) #[true, true, true, true, true, true, true, false, false, false, false, false, false, false, false, false] rfl rfl (take_ofW HT_.out HW_.out (by kernel_rfl)) (fun _ _ _ h => h) (Or.inl ⟨by rfl, ?_⟩) hHeld ?_ ?_
         rotate_left
         ·
          rintro w' ⟨s0, s1, s2, s3, s4, s5, s6, s7, s8, s9, s10, s11⟩
          go_simp
          with_reducible rfl
         rotate_left
         · exact zqA
         refine pure_ (i := 7) (N := some 31) (v := ?_) (a' := ?_) #[true, true, true, true, true, true, true, true, false, false, false, false, false, false, false, false] rfl rfl (any_of HT_.out (by kernel_rfl)) (fun _ _ _ h => h) (Or.inl ⟨by rfl, ?_⟩) ?_ ?_
         rotate_left
         · exact zqB
         rotate_left
         · exact zqA
         refine pure_ (i := 8) (N := some 32) (v := ?_) (a' := ?_) #[true, true, true, true, true, true, true, true, true, false, false, false, false, false, false, false] rfl rfl (any_of HT_.out (by kernel_rfl)) (fun _ _ _ h => h) (Or.inl ⟨by rfl, ?_⟩) ?_ ?_
         rotate_left
         · exact zqB
         rotate_left
         · exact zqA
         refine pure_ (i := 9) (N := some 33) (v := undef) (a' := ?_) #[true, true, true, true, true, true, true, true, true, true, false, false, false, false, false, false] rfl rfl (any_of HT_.out (by kernel_rfl)) (fun _ _ _ h => h) (Or.inr ⟨by rfl, rfl⟩) ?_ ?_
         rotate_left
         · exact zqA
         refine pure_ (i := 10) (N := some 34) (v := undef) (a' := ?_) #[true, true, true, true, true, true, true, true, true, true, true, false, false, false, false, false] rfl rfl (any_of HT_.out (by kernel_rfl)) (fun _ _ _ h => h) (Or.inr ⟨by rfl, rfl⟩) ?_ ?_
         rotate_left
         · exact zqA
         refine pure_ (i := 11) (N := some 35) (v := undef) (a' := ?_) #[true, true, true, true, true, true, true, true, true, true, true, true, false, false, false, false] rfl rfl (any_of HT_.out (by kernel_rfl)) (fun _ _ _ h => h) (Or.inr ⟨by rfl, rfl⟩) ?_ ?_
         rotate_left
         · exact zqA
         refine pure_ (i := 12) (N := some 36) (v := undef) (a' := ?_) #[true, true, true, true, true, true, true, true, true, true, true, true, true, false, false, false] rfl rfl (any_of HT_.out (by kernel_rfl)) (fun _ _ _ h => h) (Or.inr ⟨by rfl, rfl⟩) ?_ ?_
         rotate_left
         · exact zqA
         refine pure_ (i := 13) (N := some 37) (v := undef) (a' := ?_) #[true, true, true, true, true, true, true, true, true, true, true, true, true, true, false, false] rfl rfl (any_of HT_.out (by kernel_rfl)) (fun _ _ _ h => h) (Or.inr ⟨by rfl, rfl⟩) ?_ ?_
         rotate_left
         · exact zqA
         refine pure_ (i := 14) (N := some 38) (v := undef) (a' := ?_) #[true, true, true, true, true, true, true, true, true, true, true, true, true, true, true, false] rfl rfl (any_of HT_.out (by kernel_rfl)) (fun _ _ _ h => h) (Or.inr ⟨by rfl, rfl⟩) ?_ ?_
         rotate_left
         · exact zqA
         refine pure_ (i := 15) (N := some 39) (v := ?_) (a' := ?_) #[true, true, true, true, true, true, true, true, true, true, true, true, true, true, true, true] rfl rfl (any_of HT_.out (by kernel_rfl)) (fun _ _ _ h => h) (Or.inl ⟨by rfl, ?_⟩) ?_ ?_
         rotate_left
         · exact zqB
         rotate_left
         · exact zqA
         refine done_ (done_of HT_.out (by kernel_rfl)) ?_
         try go_wp2
         go_roundg k2
         case measure => have := HJ2.out; have := HK2.out; omega
         case rel => exact ⟨(x6_2), (wrap64 (x7_2 + 1)), (by first | rfl | (simp; done) | (simp [*]; done)), H', ⟨by have := HJ2.out; have := HK2.out; omega⟩, ⟨by (with_reducible repeat (first | apply Kd.R_alloc | apply Kd.R_drewN | apply Kd.R_drew)); exact HO_6.out⟩, ⟨by (with_reducible repeat (first | refine blk_drewN ?_ _ | refine blk_drew ?_ | refine blk_alloc ?_ _)); exact BK785.out⟩, ⟨by repeat (first | (with_reducible first | exact HB.out | apply below_alloc | apply pw_below_drewN | apply below_drew1 | refine below_set ?_ GE785.out) | exact HB.out)⟩⟩
        ·
         rw [if_neg c17] at H
         have c17b0 : (((rd_T31 l0 x7_2).f0) == a1_0) = false := beq_eq_false_iff_ne.mpr c17
         have c17b1 : (((rd_T31 l0 x7_2).f0) != a1_0) = true := bne_iff_ne.mpr c17
         replace H := Option.bind_eq_some_iff.mp H
         obtain ⟨t793, A190, H⟩ := H
         replace H : (if t793 = true then (if x6_2.length < 17592186044416 then (spec_MeetingWarnings.l0 k2 l0 (x6_2 ++ [(rd_T31 l0 x7_2).f0]) (wrap64 (x7_2 + 1)) a1_0 a1_1 a1_2 a1_3 a1_4 a1_5) else (none)) else (spec_MeetingWarnings.l0 k2 l0 x6_2 (wrap64 (x7_2 + 1)) a1_0 a1_1 a1_2 a1_3 a1_4 a1_5)) = some (r1, r2) := H
         have A19 := Aside0.mk A190
         clear A190
         by_cases c20 : t793 = true
         ·
          subst c20
          have H1 : (if x6_2.length < 17592186044416 then (spec_MeetingWarnings.l0 k2 l0 (x6_2 ++ [(rd_T31 l0 x7_2).f0]) (wrap64 (x7_2 + 1)) a1_0 a1_1 a1_2 a1_3 a1_4 a1_5) else (none)) = some (r1, r2) := by rw [if_pos rfl] at H; exact H
          clear H
          have H := H1
          clear H1
          by_cases c21 : x6_2.length < 17592186044416
          ·
           rw [if_pos c21] at H
           have LMc21 := Aside0.mk c21
           clear c21
           obtain ⟨y795, hy795⟩ : ∃ y_ : List Int, y_ = (x6_2 ++ [(rd_T31 l0 x7_2).f0]) := ⟨_, rfl⟩
           replace H : (spec_MeetingWarnings.l0 k2 l0 y795 (wrap64 (x7_2 + 1)) a1_0 a1_1 a1_2 a1_3 a1_4 a1_5) = some (r1, r2) := by first | (rw [hy795]; with_reducible exact H) | (have H2_ := (Option.bind_some _ _).symm.trans H; rw [hy795]; with_reducible exact H2_) | (have H2_ := (Option.bind_some _ _).symm.trans H; with_reducible exact H2_) | with_reducible exact H | (rw [hy795]; exact H) | exact H
           have Ny795 := Aside0.mk hy795
           clear hy795
           have H' := Aside0.mk H
           clear H
           try go_wp2
           have n0_ := Aside0.mk (Kd.R_drew HO_6.out)
           have n1_ := Aside0.mk (blk_drew BK785.out)
           have n2_ := Aside0.mk (below_drew1 HB.out)
           clear HO_6
           clear BK785
           clear HB
           have HO_6 := n0_
           have BK785 := n1_
           have HB := n2_
           clear n0_ n1_ n2_
           have p791 : 0 ≤ (x7_2 : Int) := of_decide_eq_true zq2
           have q791 : x7_2 < (l0.length : Int) := of_decide_eq_true zq2
           obtain ⟨ad791, e791, hx791_0, hx791_1, hx791_2, hx791_3, hx791_4, hx791_5⟩ := at_T31 HR0.out x7_2 p791 q791
           have hw791_5 := hx791_5
           have hw791_4 := hx791_4
           have hw791_3 := hx791_3
           have hw791_2 := hx791_2
           have hw791_1 := hx791_1
           have hw791_0 := hx791_0
           cases e791
           replace hx791_0 := (HB.out.cell (World.block_lt_of_cell? w _ hx791_0)).trans hx791_0
           replace hx791_1 := (HB.out.cell (World.block_lt_of_cell? w _ hx791_1)).trans hx791_1
           replace hx791_2 := (HB.out.cell (World.block_lt_of_cell? w _ hx791_2)).trans hx791_2
           replace hx791_3 := (HB.out.cell (World.block_lt_of_cell? w _ hx791_3)).trans hx791_3
           replace hx791_4 := (HB.out.cell (World.block_lt_of_cell? w _ hx791_4)).trans hx791_4
           replace hx791_5 := (HB.out.cell (World.block_lt_of_cell? w _ hx791_5)).trans hx791_5
           replace p791 := eq_true p791
           replace q791 := eq_true q791
           have p792 : 0 ≤ (x7_2 : Int) := of_decide_eq_true zq2
           have q792 : x7_2 < (l0.length : Int) := of_decide_eq_true zq2
           obtain ⟨ad792, e792, hx792_0, hx792_1, hx792_2, hx792_3, hx792_4, hx792_5⟩ := at_T31 HR0.out x7_2 p792 q792
           have hw792_5 := hx792_5
           have hw792_4 := hx792_4
           have hw792_3 := hx792_3
           have hw792_2 := hx792_2
           have hw792_1 := hx792_1
           have hw792_0 := hx792_0
           obtain rfl : ad791 = ad792 := (by injection e792)
           replace hx792_0 := (HB.out.cell (World.block_lt_of_cell? w _ hx792_0)).trans hx792_0
           replace hx792_1 := (HB.out.cell (World.block_lt_of_cell? w _ hx792_1)).trans hx792_1
           replace hx792_2 := (HB.out.cell (World.block_lt_of_cell? w _ hx792_2)).trans hx792_2
           replace hx792_3 := (HB.out.cell (World.block_lt_of_cell? w _ hx792_3)).trans hx792_3
           replace hx792_4 := (HB.out.cell (World.block_lt_of_cell? w _ hx792_4)).trans hx792_4
           replace hx792_5 := (HB.out.cell (World.block_lt_of_cell? w _ hx792_5)).trans hx792_5
           replace p792 := eq_true p792
           replace q792 := eq_true q792
           refine start_ (n := 16) (S := fun w' => w'.cell? ⟨gb785, 0, none⟩ = some (.int .i64 a1_0) ∧ w'.cell? ⟨gb785, 1, none⟩ = some (.int .i64 a1_1) ∧ w'.cell? ⟨gb785, 2, none⟩ = some (.int .i64 a1_2) ∧ w'.cell? ⟨gb785, 3, none⟩ = some (.int .i64 a1_3) ∧ w'.cell? ⟨gb785, 4, none⟩ = some (.int .i64 a1_4) ∧ w'.cell? ⟨gb785, 5, none⟩ = some (.int .i64 a1_5) ∧ w'.cell? (ad791.add ((x7_2).toNat * 6)) = some (.int .i64 ((rd_T31 l0 x7_2).f0)) ∧ w'.cell? ⟨(ad791.add ((x7_2).toNat * 6)).block, (ad791.add ((x7_2).toNat * 6)).off + 1, none⟩ = some (.int .i64 ((rd_T31 l0 x7_2).f1)) ∧ w'.cell? ⟨(ad791.add ((x7_2).toNat * 6)).block, (ad791.add ((x7_2).toNat * 6)).off + 2, none⟩ = some (.int .i64 ((rd_T31 l0 x7_2).f2)) ∧ w'.cell? ⟨(ad791.add ((x7_2).toNat * 6)).block, (ad791.add ((x7_2).toNat * 6)).off + 3, none⟩ = some (.int .i64 ((rd_T31 l0 x7_2).f3)) ∧ w'.cell? ⟨(ad791.add ((x7_2).toNat * 6)).block, (ad791.add ((x7_2).toNat * 6)).off + 4, none⟩ = some (.int .i64 ((rd_T31 l0 x7_2).f4)) ∧ w'.cell? ⟨(ad791.add ((x7_2).toNat * 6)).block, (ad791.add ((x7_2).toNat * 6)).off + 5, none⟩ = some (.int .i64 ((rd_T31 l0 x7_2).f5)) ∧ w'.cell? (ad791.add ((x7_2).toNat * 6)) = some (.int .i64 ((rd_T31 l0 x7_2).f0)) ∧ w'.cell? ⟨(ad791.add ((x7_2).toNat * 6)).block, (ad791.add ((x7_2).toNat * 6)).off + 1, none⟩ = some (.int .i64 ((rd_T31 l0 x7_2).f1)) ∧ w'.cell? ⟨(ad791.add ((x7_2).toNat * 6)).block, (ad791.add ((x7_2).toNat * 6)).off + 2, none⟩ = some (.int .i64 ((rd_T31 l0 x7_2).f2)) ∧ w'.cell? ⟨(ad791.add ((x7_2).toNat * 6)).block, (ad791.add ((x7_2).toNat * 6)).off + 3, none⟩ = some (.int .i64 ((rd_T31 l0 x7_2).f3)) ∧ w'.cell? ⟨(ad791.add ((x7_2).toNat * 6)).block, (ad791.add ((x7_2).toNat * 6)).off + 4, none⟩ = some (.int .i64 ((rd_T31 l0 x7_2).f4)) ∧ w'.cell? ⟨(ad791.add ((x7_2).toNat * 6)).block, (ad791.add ((x7_2).toNat * 6)).off + 5, none⟩ = some (.int .i64 ((rd_T31 l0 x7_2).f5))) (ds := []) #[false, false, false, false, false, false, false, false, false, false, false, false, false, false, false, false] (by kernel_rfl) rfl rfl ⟨(blk_cell BK785.out 0).trans rfl, (blk_cell BK785.out 1).trans rfl, (blk_cell BK785.out 2).trans rfl, (blk_cell BK785.out 3).trans rfl, (blk_cell BK785.out 4).trans rfl, (blk_cell BK785.out 5).trans rfl, ((HB.out.cell (World.block_lt_of_cell? w _ hw791_0)).trans hw791_0), ((HB.out.cell (World.block_lt_of_cell? w _ hw791_1)).trans hw791_1), ((HB.out.cell (World.block_lt_of_cell? w _ hw791_2)).trans hw791_2), ((HB.out.cell (World.block_lt_of_cell? w _ hw791_3)).trans hw791_3), ((HB.out.cell (World.block_lt_of_cell? w _ hw791_4)).trans hw791_4), ((HB.out.cell (World.block_lt_of_cell? w _ hw791_5)).trans hw791_5), ((HB.out.cell (World.block_lt_of_cell? w _ hw792_0)).trans hw792_0), ((HB.out.cell (World.block_lt_of_cell? w _ hw792_1)).trans hw792_1), ((HB.out.cell (World.block_lt_of_cell? w _ hw792_2)).trans hw792_2), ((HB.out.cell (World.block_lt_of_cell? w _ hw792_3)).trans hw792_3), ((HB.out.cell (World.block_lt_of_cell? w _ hw792_4)).trans hw792_4), ((HB.out.cell (World.block_lt_of_cell? w _ hw792_5)).trans hw792_5)⟩ (fun hHeld => ?_); refine with_tabW spec_MeetingWarnings.tab7 spec_MeetingWarnings.bits7 (fun HT_ HW_ => ?_)
           generalize wr.drew = w22 at HO_6 BK785 HB hx791_0 hx791_1 hx791_2 hx791_3 hx791_4 hx791_5 hx792_0 hx792_1 hx792_2 hx792_3 hx792_4 hx792_5 hHeld ⊢
           refine pure_ (i := 0) (N := some 24) (v := ?_) (a' := ?_) #[true, false, false, false, false, false, false, false, false, false, false, false, false, false, false, false] rfl rfl (any_of HT_.out (by kernel_rfl)) (fun _ _ _ h => h) (Or.inl ⟨by rfl, ?_⟩) ?_ ?_
           rotate_left
           · exact zqB
           rotate_left
           · exact zqA
           refine pure_ (i := 1) (N := some 25) (v := ?_) (a' := ?_) #[true, true, false, false, false, false, false, false, false, false, false, false, false, false, false, false] rfl rfl (any_of HT_.out (by kernel_rfl)) (fun _ _ _ h => h) (Or.inl ⟨by rfl, ?_⟩) ?_ ?_
           rotate_left
           · exact zqB
           rotate_left
           · exact zqA
           refine pure_ (i := 2) (N := some 26) (v := ?_) (a' := ?_) #[true, true, true, false, false, false, false, false, false, false, false, false, false, false, false, false] rfl rfl (any_of HT_.out (by kernel_rfl)) (fun _ _ _ h => h) (Or.inl ⟨by rfl, ?_⟩) ?_ ?_
           rotate_left
           · exact zqB
           rotate_left
           · exact zqA
           refine pure_ (i := 3) (N := some 27) (v := ?_) (a' := ?_) #[true, true, true, true, false, false, false, false, false, false, false, false, false, false, false, false] rfl rfl (any_of HT_.out (by kernel_rfl)) (fun _ _ _ h => h) (Or.inl ⟨by rfl, ?_⟩) ?_ ?_
           rotate_left
           · exact zqB
           rotate_left
           · exact zqA
           refine pure_ (i := 5) (N := some 29) (v := ?_) (a' := ?_) #[true, true, true, true, false, true, false, false, false, false, false, false, false, false, false, false] rfl rfl (any_of HT_.out (by kernel_rfl)) (fun _ _ _ h => h) (Or.inl ⟨by rfl, ?_⟩) ?_ ?_
           rotate_left
           · exact zqB
           rotate_left
           · exact zqA
           refine take_ (i := 4) (N := some 28) (v := ?_) (a' := ?_) #[true, true, true, true, true, true, false, false, false, false, false, false, false, false, false, false] rfl rfl (take_ofW HT_.out HW_.out (by kernel_rfl)) (fun _ _ _ h => h) (Or.inl ⟨by rfl, ?_⟩) hHeld ?_ ?_
           rotate_left
           ·
            rintro w' ⟨s0, s1, s2, s3, s4, s5, s6, s7, s8, s9, s10, s11, s12, s13, s14, s15, s16, s17⟩
            go_simp
            with_reducible rfl
           rotate_left
           · exact zqA
           refine take_ (i := 6) (N := some 30) (v := ?_) (a' := ?_) #[true, true, true, true, true, true, true, false, false, false, false, false, false, false, false, false] rfl rfl (take_ofW HT_.out HW_.out (by kernel_rfl)) (fun _ _ _ h => h) (Or.inl ⟨by rfl, ?_⟩) hHeld ?_ ?_
           rotate_left
           ·
            rintro w' ⟨s0, s1, s2, s3, s4, s5, s6, s7, s8, s9, s10, s11, s12, s13, s14, s15, s16, s17⟩
            go_simp
            with_reducible rfl
           rotate_left
           · exact zqA
           refine pure_ (i := 7) (N := some 31) (v := ?_) (a' := ?_) #[true, true, true, true, true, true, true, true, false, false, false, false, false, false, false, false] rfl rfl (any_of HT_.out (by kernel_rfl)) (fun _ _ _ h => h) (Or.inl ⟨by rfl, ?_⟩) ?_ ?_
           rotate_left
           · exact zqB
           rotate_left
           · exact zqA
           refine pure_ (i := 8) (N := some 32) (v := ?_) (a' := ?_) #[true, true, true, true, true, true, true, true, true, false, false, false, false, false, false, false] rfl rfl (any_of HT_.out (by kernel_rfl)) (fun _ _ _ h => h) (Or.inl ⟨by rfl, ?_⟩) ?_ ?_
           rotate_left
           · exact zqB
           rotate_left
           · exact zqA
           refine pure_ (i := 9) (N := some 33) (v := ?_) (a' := ?_) #[true, true, true, true, true, true, true, true, true, true, false, false, false, false, false, false] rfl rfl (any_of HT_.out (by kernel_rfl)) (fun _ _ _ h => h) (Or.inl ⟨by rfl, ?_⟩) ?_ ?_
           rotate_left
           · exact zqB
           rotate_left
           · exact zqA
           refine pure_ (i := 10) (N := some 34) (v := ?_) (a' := ?_) #[true, true, true, true, true, true, true, true, true, true, true, false, false, false, false, false] rfl rfl (any_of HT_.out (by kernel_rfl)) (fun _ _ _ h => h) (Or.inl ⟨by rfl, ?_⟩) ?_ ?_
           rotate_left
           · exact zqB
           rotate_left
           · exact zqA
           refine pure_ (i := 11) (N := some 35) (v := ?_) (a' := ?_) #[true, true, true, true, true, true, true, true, true, true, true, true, false, false, false, false] rfl rfl (any_of HT_.out (by kernel_rfl)) (fun _ _ _ h => h) (Or.inl ⟨by rfl, ?_⟩) ?_ ?_
           rotate_left
           · exact zqB
           rotate_left
           · exact zqA
           refine take_ (i := 12) (N := some 36) (v := ?_) (a' := ?_) #[true, true, true, true, true, true, true, true, true, true, true, true, true, false, false, false] rfl rfl (take_ofW HT_.out HW_.out (by kernel_rfl)) (fun _ _ _ h => h) (Or.inl ⟨by rfl, ?_⟩) hHeld ?_ ?_
           rotate_left
           ·
            rintro w' ⟨s0, s1, s2, s3, s4, s5, s6, s7, s8, s9, s10, s11, s12, s13, s14, s15, s16, s17⟩
            go_simp
            with_reducible rfl
           rotate_left
           · exact zqA
           refine take_ (i := 13) (N := some 37) (v := ?_) (a' := ?_) #[true, true, true, true, true, true, true, true, true, true, true, true, true, true, false, false] rfl rfl (take_ofW HT_.out HW_.out (by kernel_rfl)) (fun _ _ _ h => h) (Or.inl ⟨by rfl, ?_⟩) hHeld ?_ ?_
           rotate_left
           ·
            rintro w' ⟨s0, s1, s2, s3, s4, s5, s6, s7, s8, s9, s10, s11, s12, s13, s14, s15, s16, s17⟩
            go_simp
            with_reducible rfl
           rotate_left
           · exact zqA
           refine one_ (i := 14) (N := some 38) #[true, true, true, true, true, true, true, true, true, true, true, true, true, true, true, false] rfl rfl (one_of HT_.out (by kernel_rfl)) (by decide) (fun K hK => ?_)
           refine goes_ Try.func92 (by kernel_rfl) rfl #[.agg #[.int .i64 ((rd_T31 l0 x7_2).f0), .int .i64 ((rd_T31 l0 x7_2).f1), .int .i64 ((rd_T31 l0 x7_2).f2), .int .i64 ((rd_T31 l0 x7_2).f3), .int .i64 ((rd_T31 l0 x7_2).f4), .int .i64 ((rd_T31 l0 x7_2).f5)], .agg #[.int .i64 a1_0, .int .i64 a1_1, .int .i64 a1_2, .int .i64 a1_3, .int .i64 a1_4, .int .i64 a1_5]] (by rfl) rfl rfl zq1 ?_
           with_reducible refine (spec_l14Meet.calls ((rd_T31 l0 x7_2).f0) ((rd_T31 l0 x7_2).f1) ((rd_T31 l0 x7_2).f2) ((rd_T31 l0 x7_2).f3) ((rd_T31 l0 x7_2).f4) ((rd_T31 l0 x7_2).f5) a1_0 a1_1 a1_2 a1_3 a1_4 a1_5 true _ A19.out).mono ?_
           rintro e w23 ⟨rfl, hb⟩
           refine ⟨_, rfl, ?_⟩
           have n0_ := Aside0.mk (Kd.R_below (zqR HO_6.out) hb)
           have n1_ := Aside0.mk (blk_below (g := gb785) (o := .cells #[.int .i64 a1_0, .int .i64 a1_1, .int .i64 a1_2, .int .i64 a1_3, .int .i64 a1_4, .int .i64 a1_5] 31 (0, 0)) (zqK BK785.out) hb)
           have n2_ := Aside0.mk (below_step zq22 hb)
           clear HO_6
           clear BK785
           clear HB
           have HO_6 := n0_
           have BK785 := n1_
           have HB := n2_
           clear n0_ n1_ n2_
           (try clear hb)
           (try clear hb2)
           (try clear hk)
           (try clear hi)
           refine hK.out _ _ ⟨(blk_cell BK785.out 0).trans rfl, (blk_cell BK785.out 1).trans rfl, (blk_cell BK785.out 2).trans rfl, (blk_cell BK785.out 3).trans rfl, (blk_cell BK785.out 4).trans rfl, (blk_cell BK785.out 5).trans rfl, ((HB.out.cell (World.block_lt_of_cell? w _ hw791_0)).trans hw791_0), ((HB.out.cell (World.block_lt_of_cell? w _ hw791_1)).trans hw791_1), ((HB.out.cell (World.block_lt_of_cell? w _ hw791_2)).trans hw791_2), ((HB.out.cell (World.block_lt_of_cell? w _ hw791_3)).trans hw791_3), ((HB.out.cell (World.block_lt_of_cell? w _ hw791_4)).trans hw791_4), ((HB.out.cell (World.block_lt_of_cell? w _ hw791_5)).trans hw791_5), ((HB.out.cell (World.block_lt_of_cell? w _ hw792_0)).trans hw792_0), ((HB.out.cell (World.block_lt_of_cell? w _ hw792_1)).trans hw792_1), ((HB.out.cell (World.block_lt_of_cell? w _ hw792_2)).trans hw792_2), ((HB.out.cell (World.block_lt_of_cell? w _ hw792_3)).trans hw792_3), ((HB.out.cell (World.block_lt_of_cell? w _ hw792_4)).trans hw792_4), ((HB.out.cell (World.block_lt_of_cell? w _ hw792_5)).trans hw792_5)⟩ (fun hHeld => ?_)
           clear hK K
           refine norm_ (a' := ?_) ?_ ?_
           rotate_left
           ·
            show Act.put _ (some 38) _ = _
            simp only [Act.put, List.setIfInBounds_toArray, List.set_cons_zero, List.set_cons_succ, i64_w, i32_w]
            rfl
           refine pure_ (i := 15) (N := some 39) (v := ?_) (a' := ?_) #[true, true, true, true, true, true, true, true, true, true, true, true, true, true, true, true] rfl rfl (any_of HT_.out (by kernel_rfl)) (fun _ _ _ h => h) (Or.inl ⟨by rfl, ?_⟩) ?_ ?_
           rotate_left
           · exact zqB
           rotate_left
           · exact zqA
           refine done_ (done_of HT_.out (by kernel_rfl)) ?_
           have p794 : 0 ≤ (x7_2 : Int) := of_decide_eq_true zq2
           have q794 : x7_2 < (l0.length : Int) := of_decide_eq_true zq2
           obtain ⟨ad794, e794, hx794_0, hx794_1, hx794_2, hx794_3, hx794_4, hx794_5⟩ := at_T31 HR0.out x7_2 p794 q794
           obtain rfl : ad791 = ad794 := (by injection e794)
           replace hx794_0 := (HB.out.cell (World.block_lt_of_cell? w _ hx794_0)).trans hx794_0
           replace hx794_1 := (HB.out.cell (World.block_lt_of_cell? w _ hx794_1)).trans hx794_1
           replace hx794_2 := (HB.out.cell (World.block_lt_of_cell? w _ hx794_2)).trans hx794_2
           replace hx794_3 := (HB.out.cell (World.block_lt_of_cell? w _ hx794_3)).trans hx794_3
           replace hx794_4 := (HB.out.cell (World.block_lt_of_cell? w _ hx794_4)).trans hx794_4
           replace hx794_5 := (HB.out.cell (World.block_lt_of_cell? w _ hx794_5)).trans hx794_5
           replace p794 := eq_true p794
           replace q794 := eq_true q794
           try go_wp2_with (first | ((with_reducible refine gate_builtin (b := .append) (xs := #[.tmp 40, .tmp 46]) rfl ?_); at_builtin; refine Kd.R_append (Kd.int .i64) (w0 := w) w.heap.size rfl (.tmp 40) (.tmp 46) 54 3 (.int .i64 0) 8 rfl Try.underlying54 info3 rfl (by decide) (by omega) u6 x6_2 ((rd_T31 l0 x7_2).f0) [.int .i64 ((rd_T31 l0 x7_2).f0)] (fun _ => True) (fun _ => False) rfl rfl ?aP (fun _ hk => hk.elim) ?aF ?aO ?aB ?aS ?aL ?_; (case aP => exact rfl); (case aB => exact zq22); (case aF => exact (fun _ _ => trivial)); (case aO => exact (zqR HO_6.out)); (case aS => exact (below_size zq22)); (case aL => have := LMc21.out; omega); intro v796 w24 ho hb hg hat; rw [← Ny795.out] at ho; have n0_ := Aside0.mk (blk_grown (g := gb785) (o := .cells #[.int .i64 a1_0, .int .i64 a1_1, .int .i64 a1_2, .int .i64 a1_3, .int .i64 a1_4, .int .i64 a1_5] 31 (0, 0)) (zqK BK785.out) hg (Kd.R_ne HO_6.out BK785.out (by decide))); have n1_ := Aside0.mk (hb); have n2_ := Aside0.mk (ho); clear BK785; clear HB; clear HO_6; have BK785 := n0_; have HB := n1_; have HO797 := n2_; clear n0_ n1_ n2_; clear ho hb hg hat))
           go_roundg k2
           case measure => have := HJ2.out; have := HK2.out; omega
           case rel => exact ⟨(y795), (wrap64 (x7_2 + 1)), (by first | rfl | (simp; done) | (simp [*]; done)), H', ⟨by have := HJ2.out; have := HK2.out; omega⟩, ⟨by (with_reducible repeat (first | apply Kd.R_alloc | apply Kd.R_drewN | apply Kd.R_drew)); exact HO797.out⟩, ⟨by (with_reducible repeat (first | refine blk_drewN ?_ _ | refine blk_drew ?_ | refine blk_alloc ?_ _)); exact BK785.out⟩, ⟨by repeat (first | (with_reducible first | exact HB.out | apply below_alloc | apply pw_below_drewN | apply below_drew1 | refine below_set ?_ GE785.out) | exact HB.out)⟩⟩
          ·
           rw [if_neg c21] at H
           exact absurd H (by simp)
         ·
          replace c20 := Bool.eq_false_iff.mpr c20
          subst c20
          have H1 : (spec_MeetingWarnings.l0 k2 l0 x6_2 (wrap64 (x7_2 + 1)) a1_0 a1_1 a1_2 a1_3 a1_4 a1_5) = some (r1, r2) := by rw [if_neg (show ¬ (false = true) by decide)] at H; exact H
          clear H
          have H := H1
          clear H1
          have H' := Aside0.mk H
          clear H
          try go_wp2
          have n0_ := Aside0.mk (Kd.R_drew HO_6.out)
          have n1_ := Aside0.mk (blk_drew BK785.out)
          have n2_ := Aside0.mk (below_drew1 HB.out)
          clear HO_6
          clear BK785
          clear HB
          have HO_6 := n0_
          have BK785 := n1_
          have HB := n2_
          clear n0_ n1_ n2_
          have p791 : 0 ≤ (x7_2 : Int) := of_decide_eq_true zq2
          have q791 : x7_2 < (l0.length : Int) := of_decide_eq_true zq2
          obtain ⟨ad791, e791, hx791_0, hx791_1, hx791_2, hx791_3, hx791_4, hx791_5⟩ := at_T31 HR0.out x7_2 p791 q791
          have hw791_5 := hx791_5
          have hw791_4 := hx791_4
          have hw791_3 := hx791_3
          have hw791_2 := hx791_2
          have hw791_1 := hx791_1
          have hw791_0 := hx791_0
          cases e791
          replace hx791_0 := (HB.out.cell (World.block_lt_of_cell? w _ hx791_0)).trans hx791_0
          replace hx791_1 := (HB.out.cell (World.block_lt_of_cell? w _ hx791_1)).trans hx791_1
          replace hx791_2 := (HB.out.cell (World.block_lt_of_cell? w _ hx791_2)).trans hx791_2
          replace hx791_3 := (HB.out.cell (World.block_lt_of_cell? w _ hx791_3)).trans hx791_3
          replace hx791_4 := (HB.out.cell (World.block_lt_of_cell? w _ hx791_4)).trans hx791_4
          replace hx791_5 := (HB.out.cell (World.block_lt_of_cell? w _ hx791_5)).trans hx791_5
          replace p791 := eq_true p791
          replace q791 := eq_true q791
          have p792 : 0 ≤ (x7_2 : Int) := of_decide_eq_true zq2
          have q792 : x7_2 < (l0.length : Int) := of_decide_eq_true zq2
          obtain ⟨ad792, e792, hx792_0, hx792_1, hx792_2, hx792_3, hx792_4, hx792_5⟩ := at_T31 HR0.out x7_2 p792 q792
          have hw792_5 := hx792_5
          have hw792_4 := hx792_4
          have hw792_3 := hx792_3
          have hw792_2 := hx792_2
          have hw792_1 := hx792_1
          have hw792_0 := hx792_0
          obtain rfl : ad791 = ad792 := (by injection e792)
          replace hx792_0 := (HB.out.cell (World.block_lt_of_cell? w _ hx792_0)).trans hx792_0
          replace hx792_1 := (HB.out.cell (World.block_lt_of_cell? w _ hx792_1)).trans hx792_1
          replace hx792_2 := (HB.out.cell (World.block_lt_of_cell? w _ hx792_2)).trans hx792_2
          replace hx792_3 := (HB.out.cell (World.block_lt_of_cell? w _ hx792_3)).trans hx792_3
          replace hx792_4 := (HB.out.cell (World.block_lt_of_cell? w _ hx792_4)).trans hx792_4
          replace hx792_5 := (HB.out.cell (World.block_lt_of_cell? w _ hx792_5)).trans hx792_5
          replace p792 := eq_true p792
          replace q792 := eq_true q792
          refine start_ (n := 16) (S := fun w' => w'.cell? ⟨gb785, 0, none⟩ = some (.int .i64 a1_0) ∧ w'.cell? ⟨gb785, 1, none⟩ = some (.int .i64 a1_1) ∧ w'.cell? ⟨gb785, 2, none⟩ = some (.int .i64 a1_2) ∧ w'.cell? ⟨gb785, 3, none⟩ = some (.int .i64 a1_3) ∧ w'.cell? ⟨gb785, 4, none⟩ = some (.int .i64 a1_4) ∧ w'.cell? ⟨gb785, 5, none⟩ = some (.int .i64 a1_5) ∧ w'.cell? (ad791.add ((x7_2).toNat * 6)) = some (.int .i64 ((rd_T31 l0 x7_2).f0)) ∧ w'.cell? ⟨(ad791.add ((x7_2).toNat * 6)).block, (ad791.add ((x7_2).toNat * 6)).off + 1, none⟩ = some (.int .i64 ((rd_T31 l0 x7_2).f1)) ∧ w'.cell? ⟨(ad791.add ((x7_2).toNat * 6)).block, (ad791.add ((x7_2).toNat * 6)).off + 2, none⟩ = some (.int .i64 ((rd_T31 l0 x7_2).f2)) ∧ w'.cell? ⟨(ad791.add ((x7_2).toNat * 6)).block, (ad791.add ((x7_2).toNat * 6)).off + 3, none⟩ = some (.int .i64 ((rd_T31 l0 x7_2).f3)) ∧ w'.cell? ⟨(ad791.add ((x7_2).toNat * 6)).block, (ad791.add ((x7_2).toNat * 6)).off + 4, none⟩ = some (.int .i64 ((rd_T31 l0 x7_2).f4)) ∧ w'.cell? ⟨(ad791.add ((x7_2).toNat * 6)).block, (ad791.add ((x7_2).toNat * 6)).off + 5, none⟩ = some (.int .i64 ((rd_T31 l0 x7_2).f5)) ∧ w'.cell? (ad791.add ((x7_2).toNat * 6)) = some (.int .i64 ((rd_T31 l0 x7_2).f0)) ∧ w'.cell? ⟨(ad791.add ((x7_2).toNat * 6)).block, (ad791.add ((x7_2).toNat * 6)).off + 1, none⟩ = some (.int .i64 ((rd_T31 l0 x7_2).f1)) ∧ w'.cell? ⟨(ad791.add ((x7_2).toNat * 6)).block, (ad791.add ((x7_2).toNat * 6)).off + 2, none⟩ = some (.int .i64 ((rd_T31 l0 x7_2).f2)) ∧ w'.cell? ⟨(ad791.add ((x7_2).toNat * 6)).block, (ad791.add ((x7_2).toNat * 6)).off + 3, none⟩ = some (.int .i64 ((rd_T31 l0 x7_2).f3)) ∧ w'.cell? ⟨(ad791.add ((x7_2).toNat * 6)).block, (ad791.add ((x7_2).toNat * 6)).off + 4, none⟩ = some (.int .i64 ((rd_T31 l0 x7_2).f4)) ∧ w'.cell? ⟨(ad791.add ((x7_2).toNat * 6)).block, (ad791.add ((x7_2).toNat * 6)).off + 5, none⟩ = some (.int .i64 ((rd_T31 l0 x7_2).f5))) (ds := []) #[false, false, false, false, false, false, false, false, false, false, false, false, false, false, false, false] (by kernel_rfl) rfl rfl ⟨(blk_cell BK785.out 0).trans rfl, (blk_cell BK785.out 1).trans rfl, (blk_cell BK785.out 2).trans rfl, (blk_cell BK785.out 3).trans rfl, (blk_cell BK785.out 4).trans rfl, (blk_cell BK785.out 5).trans rfl, ((HB.out.cell (World.block_lt_of_cell? w _ hw791_0)).trans hw791_0), ((HB.out.cell (World.block_lt_of_cell? w _ hw791_1)).trans hw791_1), ((HB.out.cell (World.block_lt_of_cell? w _ hw791_2)).trans hw791_2), ((HB.out.cell (World.block_lt_of_cell? w _ hw791_3)).trans hw791_3), ((HB.out.cell (World.block_lt_of_cell? w _ hw791_4)).trans hw791_4), ((HB.out.cell (World.block_lt_of_cell? w _ hw791_5)).trans hw791_5), ((HB.out.cell (World.block_lt_of_cell? w _ hw792_0)).trans hw792_0), ((HB.out.cell (World.block_lt_of_cell? w _ hw792_1)).trans hw792_1), ((HB.out.cell (World.block_lt_of_cell? w _ hw792_2)).trans hw792_2), ((HB.out.cell (World.block_lt_of_cell? w _ hw792_3)).trans hw792_3), ((HB.out.cell (World.block_lt_of_cell? w _ hw792_4)).trans hw792_4), ((HB.out.cell (World.block_lt_of_cell? w _ hw792_5)).trans hw792_5)⟩ (fun hHeld => ?_); refine with_tabW spec_MeetingWarnings.tab7 spec_MeetingWarnings.bits7 (fun HT_ HW_ => ?_)
          generalize wr.drew = w25 at HO_6 BK785 HB hx791_0 hx791_1 hx791_2 hx791_3 hx791_4 hx791_5 hx792_0 hx792_1 hx792_2 hx792_3 hx792_4 hx792_5 hHeld ⊢
          refine pure_ (i := 0) (N := some 24) (v := ?_) (a' := ?_) #[true, false, false, false, false, false, false, false, false, false, false, false, false, false, false, false] rfl rfl (any_of HT_.out (by kernel_rfl)) (fun _ _ _ h => h) (Or.inl ⟨by rfl, ?_⟩) ?_ ?_
          rotate_left
          · exact zqB
          rotate_left
          · exact zqA
          refine pure_ (i := 1) (N := some 25) (v := ?_) (a' := ?_) #[true, true, false, false, false, false, false, false, false, false, false, false, false, false, false, false] rfl rfl (any_of HT_.out (by kernel_rfl)) (fun _ _ _ h => h) (Or.inl ⟨by rfl, ?_⟩) ?_ ?_
          rotate_left
          · exact zqB
          rotate_left
          · exact zqA
          refine pure_ (i := 2) (N := some 26) (v := ?_) (a' := ?_) #[true, true, true, false, false, false, false, false, false, false, false, false, false, false, false, false] rfl rfl (any_of HT_.out (by kernel_rfl)) (fun _ _ _ h => h) (Or.inl ⟨by rfl, ?_⟩) ?_ ?_
          rotate_left
          · exact zqB
          rotate_left
          · exact zqA
          refine pure_ (i := 3) (N := some 27) (v := ?_) (a' := ?_) #[true, true, true, true, false, false, false, false, false, false, false, false, false, false, false, false] rfl rfl (any_of HT_.out (by kernel_rfl)) (fun _ _ _ h => h) (Or.inl ⟨by rfl, ?_⟩) ?_ ?_
          rotate_left
          · exact zqB
          rotate_left
          · exact zqA
          refine pure_ (i := 5) (N := some 29) (v := ?_) (a' := ?_) #[true, true, true, true, false, true, false, false, false, false, false, false, false, false, false, false] rfl rfl (any_of HT_.out (by kernel_rfl)) (fun _ _ _ h => h) (Or.inl ⟨by rfl, ?_⟩) ?_ ?_
          rotate_left
          · exact zqB
          rotate_left
          · exact zqA
          refine take_ (i := 4) (N := some 28) (v := ?_) (a' := ?_) #[true, true, true, true, true, true, false, false, false, false, false, false, false, false, false, false] rfl rfl (take_ofW HT_.out HW_.out (by kernel_rfl)) (fun _ _ _ h => h) (Or.inl ⟨by rfl, ?_⟩) hHeld ?_ ?_
          rotate_left
          ·
           rintro w' ⟨s0, s1, s2, s3, s4, s5, s6, s7, s8, s9, s10, s11, s12, s13, s14, s15, s16, s17⟩
           go_simp
           with_reducible rfl
          rotate_left
          · exact zqA
          refine take_ (i := 6) (N := some 30) (v := ?_) (a' := ?_) #[true, true, true, true, true, true, true, false, false, false, false, false, false, false, false, false] rfl rfl (take_ofW HT_.out HW_.out (by kernel_rfl)) (fun _ _ _ h => h) (Or.inl ⟨by rfl, ?_⟩) hHeld ?_ ?_
          rotate_left
          ·
           rintro w' ⟨s0, s1, s2, s3, s4, s5, s6, s7, s8, s9, s10, s11, s12, s13, s14, s15, s16, s17⟩
           go_simp
           with_reducible rfl
          rotate_left
          · exact zqA
          refine pure_ (i := 7) (N := some 31) (v := ?_) (a' := ?_) #[true, true, true, true, true, true, true, true, false, false, false, false, false, false, false, false] rfl rfl (any_of HT_.out (by kernel_rfl)) (fun _ _ _ h => h) (Or.inl ⟨by rfl, ?_⟩) ?_ ?_
          rotate_left
          · exact zqB
          rotate_left
          · exact zqA
          refine pure_ (i := 8) (N := some 32) (v := ?_) (a' := ?_) #[true, true, true, true, true, true, true, true, true, false, false, false, false, false, false, false] rfl rfl (any_of HT_.out (by kernel_rfl)) (fun _ _ _ h => h) (Or.inl ⟨by rfl, ?_⟩) ?_ ?_
          rotate_left
          · exact zqB
          rotate_left
          · exact zqA
          refine pure_ (i := 9) (N := some 33) (v := ?_) (a' := ?_) #[true, true, true, true, true, true, true, true, true, true, false, false, false, false, false, false] rfl rfl (any_of HT_.out (by kernel_rfl)) (fun _ _ _ h => h) (Or.inl ⟨by rfl, ?_⟩) ?_ ?_
          rotate_left
          · exact zqB
          rotate_left
          · exact zqA
          refine pure_ (i := 10) (N := some 34) (v := ?_) (a' := ?_) #[true, true, true, true, true, true, true, true, true, true, true, false, false, false, false, false] rfl rfl (any_of HT_.out (by kernel_rfl)) (fun _ _ _ h => h) (Or.inl ⟨by rfl, ?_⟩) ?_ ?_
          rotate_left
          · exact zqB
          rotate_left
          · exact zqA
          refine pure_ (i := 11) (N := some 35) (v := ?_) (a' := ?_) #[true, true, true, true, true, true, true, true, true, true, true, true, false, false, false, false] rfl rfl (any_of HT_.out (by kernel_rfl)) (fun _ _ _ h => h) (Or.inl ⟨by rfl, ?_⟩) ?_ ?_
          rotate_left
          · exact zqB
          rotate_left
          · exact zqA
          refine take_ (i := 12) (N := some 36) (v := ?_) (a' := ?_) #[true, true, true, true, true, true, true, true, true, true, true, true, true, false, false, false] rfl rfl (take_ofW HT_.out HW_.out (by kernel_rfl)) (fun _ _ _ h => h) (Or.inl ⟨by rfl, ?_⟩) hHeld ?_ ?_
          rotate_left
          ·
           rintro w' ⟨s0, s1, s2, s3, s4, s5, s6, s7, s8, s9, s10, s11, s12, s13, s14, s15, s16, s17⟩
           go_simp
           with_reducible rfl
          rotate_left
          · exact zqA
          refine take_ (i := 13) (N := some 37) (v := ?_) (a' := ?_) #[true, true, true, true, true, true, true, true, true, true, true, true, true, true, false, false] rfl rfl (take_ofW HT_.out HW_.out (by kernel_rfl)) (fun _ _ _ h => h) (Or.inl ⟨by rfl, ?_⟩) hHeld ?_ ?_
          rotate_left
          ·
           rintro w' ⟨s0, s1, s2, s3, s4, s5, s6, s7, s8, s9, s10, s11, s12, s13, s14, s15, s16, s17⟩
           go_simp
           with_reducible rfl
          rotate_left
          · exact zqA
          refine one_ (i := 14) (N := some 38) #[true, true, true, true, true, true, true, true, true, true, true, true, true, true, true, false] rfl rfl (one_of HT_.out (by kernel_rfl)) (by decide) (fun K hK => ?_)
          refine goes_ Try.func92 (by kernel_rfl) rfl #[.agg #[.int .i64 ((rd_T31 l0 x7_2).f0), .int .i64 ((rd_T31 l0 x7_2).f1), .int .i64 ((rd_T31 l0 x7_2).f2), .int .i64 ((rd_T31 l0 x7_2).f3), .int .i64 ((rd_T31 l0 x7_2).f4), .int .i64 ((rd_T31 l0 x7_2).f5)], .agg #[.int .i64 a1_0, .int .i64 a1_1, .int .i64 a1_2, .int .i64 a1_3, .int .i64 a1_4, .int .i64 a1_5]] (by rfl) rfl rfl zq1 ?_
          with_reducible refine (spec_l14Meet.calls ((rd_T31 l0 x7_2).f0) ((rd_T31 l0 x7_2).f1) ((rd_T31 l0 x7_2).f2) ((rd_T31 l0 x7_2).f3) ((rd_T31 l0 x7_2).f4) ((rd_T31 l0 x7_2).f5) a1_0 a1_1 a1_2 a1_3 a1_4 a1_5 false _ A19.out).mono ?_
          rintro e w26 ⟨rfl, hb⟩
          refine ⟨_, rfl, ?_⟩
          have n0_ := Aside0.mk (Kd.R_below (zqR HO_6.out) hb)
          have n1_ := Aside0.mk (blk_below (g := gb785) (o := .cells #[.int .i64 a1_0, .int .i64 a1_1, .int .i64 a1_2, .int .i64 a1_3, .int .i64 a1_4, .int .i64 a1_5] 31 (0, 0)) (zqK BK785.out) hb)
          have n2_ := Aside0.mk (below_step zq22 hb)
          clear HO_6
          clear BK785
          clear HB
          have HO_6 := n0_
          have BK785 := n1_
          have HB := n2_
          clear n0_ n1_ n2_
          (try clear hb)
          (try clear hb2)
          (try clear hk)
          (try clear hi)
          refine hK.out _ _ ⟨(blk_cell BK785.out 0).trans rfl, (blk_cell BK785.out 1).trans rfl, (blk_cell BK785.out 2).trans rfl, (blk_cell BK785.out 3).trans rfl, (blk_cell BK785.out 4).trans rfl, (blk_cell BK785.out 5).trans rfl, ((HB.out.cell (World.block_lt_of_cell? w _ hw791_0)).trans hw791_0), ((HB.out.cell (World.block_lt_of_cell? w _ hw791_1)).trans hw791_1), ((HB.out.cell (World.block_lt_of_cell? w _ hw791_2)).trans hw791_2), ((HB.out.cell (World.block_lt_of_cell? w _ hw791_3)).trans hw791_3), ((HB.out.cell (World.block_lt_of_cell? w _ hw791_4)).trans hw791_4), ((HB.out.cell (World.block_lt_of_cell? w _ hw791_5)).trans hw791_5), ((HB.out.cell (World.block_lt_of_cell? w _ hw792_0)).trans hw792_0), ((HB.out.cell (World.block_lt_of_cell? w _ hw792_1)).trans hw792_1), ((HB.out.cell (World.block_lt_of_cell? w _ hw792_2)).trans hw792_2), ((HB.out.cell (World.block_lt_of_cell? w _ hw792_3)).trans hw792_3), ((HB.out.cell (World.block_lt_of_cell? w _ hw792_4)).trans hw792_4), ((HB.out.cell (World.block_lt_of_cell? w _ hw792_5)).trans hw792_5)⟩ (fun hHeld => ?_)
          clear hK K
          refine norm_ (a' := ?_) ?_ ?_
          rotate_left
          ·
           show Act.put _ (some 38) _ = _
           simp only [Act.put, List.setIfInBounds_toArray, List.set_cons_zero, List.set_cons_succ, i64_w, i32_w]
           rfl
          refine pure_ (i := 15) (N := some 39) (v := ?_) (a' := ?_) #[true, true, true, true, true, true, true, true, true, true, true, true, true, true, true, true] rfl rfl (any_of HT_.out (by kernel_rfl)) (fun _ _ _ h => h) (Or.inl ⟨by rfl, ?_⟩) ?_ ?_
          rotate_left
          · exact zqB
          rotate_left
          · exact zqA
          refine done_ (done_of HT_.out (by kernel_rfl)) ?_
          try go_wp2
          go_roundg k2
          case measure => have := HJ2.out; have := HK2.out; omega
          case rel => exact ⟨(x6_2), (wrap64 (x7_2 + 1)), (by first | rfl | (simp; done) | (simp [*]; done)), H', ⟨by have := HJ2.out; have := HK2.out; omega⟩, ⟨by (with_reducible repeat (first | apply Kd.R_alloc | apply Kd.R_drewN | apply Kd.R_drew)); exact HO_6.out⟩, ⟨by (with_reducible repeat (first | refine blk_drewN ?_ _ | refine blk_drew ?_ | refine blk_alloc ?_ _)); exact BK785.out⟩, ⟨by repeat (first | (with_reducible first | exact HB.out | apply below_alloc | apply pw_below_drewN | apply below_drew1 | refine below_set ?_ GE785.out) | exact HB.out)⟩⟩
       ·
        rw [if_neg c16] at H
        exact absurd H (by simp)
      ·
       rw [if_neg c15] at H
       have c15b0 : decide (x7_2 < (l0.length : Int)) = false := decide_eq_false c15
       clear c15
       simp only [Option.some.injEq, Prod.mk.injEq] at H
       obtain ⟨rfl, rfl⟩ := H
       go_wp2
       go_ret2
       exact ⟨_, by first | rfl | (simp [errW_none, errW_some] <;> rfl) | (simp [*, errW_none, errW_some] <;> rfl), by (with_reducible repeat (first | apply Kd.R_alloc | apply Kd.R_drewN | apply Kd.R_drew)); exact HO_6.out, by repeat (first | (with_reducible first | exact HB.out | apply below_alloc | apply pw_below_drewN | apply below_drew1 | refine below_set ?_ GE785.out) | exact HB.out)⟩

end Go.Proofs.Ytklepiechbnenaa.Q
namespace Go.Proofs.Ytklepiechbnenaa.Q
open Go.RowKit Go.Proofs.YtklepiechbnenaaW.PrintWords Go.Proofs.YtklepiechbnenaaW.PrintLast Go.Proofs.YtklepiechbnenaaW.PrintMore
attribute [local go_sem] max2_int min2_int max_two min_two max_three min_three max_four min_four   -- for this text's walks alone
set_option linter.unusedVariables false
set_option linter.unusedSimpArgs false

/-! ### laws_vInts: function 38 -/
def laws_vInts.l0 : Nat → List Int → List Int → Int → Option (Bool)
 | 0, _, _, _ => none
 | k + 1, x0, x1, x5 => if x5 < (x0.length : Int) then (if 0 ≤ x5 then (if x5 < (x1.length : Int) then (if (rd x0 x5) = (rd x1 x5) then (laws_vInts.l0 k x0 x1 (wrap64 (x5 + 1))) else (some false)) else (none)) else (none)) else (some true)
def laws_vInts.f (k : Nat) (l0 : List Int) (l1 : List Int) : Option (Bool) := if (l0.length : Int) = (l1.length : Int) then (laws_vInts.l0 k l0 l1 0) else (some false)
theorem laws_vInts.mono_l : ∀ k, (∀ y0 y1 y2, LeO (laws_vInts.l0 k y0 y1 y2) (laws_vInts.l0 (k + 1) y0 y1 y2))
 | 0 => fun _ _ _ r h => by simp [laws_vInts.l0] at h
 | k + 1 => by
  have ih0 := laws_vInts.mono_l k
  ·
   intro y0 y1 y2
   unfold laws_vInts.l0
   repeat' first
   | (with_reducible exact ih0 _ _ _)
   | (with_reducible exact LeO.refl _)
   | (with_reducible exact LeO.none _)
   | (with_reducible refine LeO.ite ?_ ?_)
   | (with_reducible refine LeO.bind ?_ (fun _ => ?_))
   | exact ih0 _ _ _
   | exact LeO.none _
   | refine LeO.ite ?_ ?_
   | refine LeO.bind ?_ (fun _ => ?_)
theorem laws_vInts.mono : ∀ a0 a1 k, LeO (laws_vInts.f k a0 a1) (laws_vInts.f (k + 1) a0 a1) := by
 intro a0 a1 k
 have ih0 := laws_vInts.mono_l k
 unfold laws_vInts.f
 repeat' first
   | (with_reducible exact ih0 _ _ _)
   | (with_reducible exact LeO.refl _)
   | (with_reducible exact LeO.none _)
   | (with_reducible refine LeO.ite ?_ ?_)
   | (with_reducible refine LeO.bind ?_ (fun _ => ?_))
   | exact ih0 _ _ _
   | exact LeO.none _
   | refine LeO.ite ?_ ?_
   | refine LeO.bind ?_ (fun _ => ?_)
set_option maxHeartbeats 8000000 in
set_option maxRecDepth 100000 in
theorem laws_vInts.calls (k : Nat) (A0 : Option Addr) (c0 : Nat) (l0 : List Int) (A1 : Option Addr) (c1 : Nat) (l1 : List Int) (r : Bool) (w : World) (hr0 : Kd.C (Kd.int .i64) w A0 l0.length l0) (hc0 : l0.length ≤ c0) (hr1 : Kd.C (Kd.int .i64) w A1 l1.length l1) (hc1 : l1.length ≤ c1) (h : laws_vInts.f k l0 l1 = some r) :
  Calls Try.prog 38 #[.slice A0 l0.length c0, .slice A1 l1.length c1] w fun e w' => e = .returned (.bool r) ∧ Drawn0 w w' := by
 have HR0 := Aside0.mk hr0
 have HC0 := Aside0.mk hc0
 clear hr0 hc0
 have HR1 := Aside0.mk hr1
 have HC1 := Aside0.mk hc1
 clear hr1 hc1
 have H : (if (l0.length : Int) = (l1.length : Int) then (laws_vInts.l0 k l0 l1 0) else (some false)) = some r := h
 clear h
 by_cases c3 : (l0.length : Int) = (l1.length : Int)
 ·
  rw [if_pos c3] at H
  have c3b0 : ((l0.length : Int) == (l1.length : Int)) = true := beq_iff_eq.mpr c3
  have c3b1 : ((l0.length : Int) != (l1.length : Int)) = false := bne_eq_false_iff_eq.mpr c3
  have c3b2 : (l0.length == l1.length) = true := by first | simpa using c3 | (simp at c3 ⊢; omega)
  clear c3
  have H' := Aside0.mk H
  clear H
  go_enter Try.func38, Try.ntmps38
  go_wp2
  repeat (go_quiet (fail); try go_wp2)
  go_loopg [5] k (fun kq v5 w' => ∃ (x5_1 : Int), v5 = .int .i64 x5_1 ∧ Aside0 (laws_vInts.l0 kq l0 l1 x5_1 = some r) ∧ Aside0 (kq ≤ k) ∧ Drawn0 w w')
  case atStart => exact ⟨(0), (by first | rfl | (simp; done) | (simp [*]; done)), H', ⟨Nat.le_refl _⟩, by repeat (first | exact Drawn0.refl _ | apply Drawn0.step)⟩
  case round =>
   clear H'
   try clear c1
   try clear p2
   try clear c3
   try clear c3b0
   try clear c3b1
   try clear c3b2
   obtain ⟨x5_1, rfl, HA, HK1, ⟨m1, rfl⟩⟩ := hrel
   cases gk with
   | zero => exact absurd HA.out (by simp [laws_vInts.l0])
   | succ k1 =>
    have H := HA.out
    clear HA
    simp only [laws_vInts.l0] at H
    by_cases c4 : x5_1 < (l0.length : Int)
    ·
     rw [if_pos c4] at H
     have c4b0 : decide (x5_1 < (l0.length : Int)) = true := decide_eq_true c4
     clear c4
     by_cases c5 : 0 ≤ x5_1
     ·
      rw [if_pos c5] at H
      have c5b0 : decide (0 ≤ x5_1) = true := decide_eq_true c5
      clear c5
      by_cases c6 : x5_1 < (l1.length : Int)
      ·
       rw [if_pos c6] at H
       have c6b0 : decide (x5_1 < (l1.length : Int)) = true := decide_eq_true c6
       clear c6
       by_cases c7 : (rd l0 x5_1) = (rd l1 x5_1)
       ·
        rw [if_pos c7] at H
        have c7b0 : ((rd l0 x5_1) == (rd l1 x5_1)) = true := beq_iff_eq.mpr c7
        have c7b1 : ((rd l0 x5_1) != (rd l1 x5_1)) = false := bne_eq_false_iff_eq.mpr c7
        clear c7
        have H' := Aside0.mk H
        clear H
        have p798 : 0 ≤ (x5_1 : Int) := of_decide_eq_true zq2
        have q798 : x5_1 < (l0.length : Int) := of_decide_eq_true zq2
        obtain ⟨ad798, e798, hx798_0⟩ := Kd.at_int HR0.out x5_1 p798 q798
        cases e798
        replace p798 := eq_true p798
        replace q798 := eq_true q798
        have p799 : 0 ≤ (x5_1 : Int) := of_decide_eq_true zq2
        have q799 : x5_1 < (l1.length : Int) := of_decide_eq_true zq2
        obtain ⟨ad799, e799, hx799_0⟩ := Kd.at_int HR1.out x5_1 p799 q799
        cases e799
        replace p799 := eq_true p799
        replace q799 := eq_true q799
        go_wp2
        repeat (go_quiet (fail); try go_wp2)
        go_roundg k1
        case measure => have := HK1.out; omega
        case rel => exact ⟨(wrap64 (x5_1 + 1)), (by first | rfl | (simp; done) | (simp [*]; done)), H', ⟨by have := HK1.out; omega⟩, by repeat (first | exact Drawn0.refl _ | apply Drawn0.step)⟩
       ·
        rw [if_neg c7] at H
        have c7b0 : ((rd l0 x5_1) == (rd l1 x5_1)) = false := beq_eq_false_iff_ne.mpr c7
        have c7b1 : ((rd l0 x5_1) != (rd l1 x5_1)) = true := bne_iff_ne.mpr c7
        obtain rfl := Option.some.inj H
        have p798 : 0 ≤ (x5_1 : Int) := of_decide_eq_true zq2
        have q798 : x5_1 < (l0.length : Int) := of_decide_eq_true zq2
        obtain ⟨ad798, e798, hx798_0⟩ := Kd.at_int HR0.out x5_1 p798 q798
        cases e798
        replace p798 := eq_true p798
        replace q798 := eq_true q798
        have p799 : 0 ≤ (x5_1 : Int) := of_decide_eq_true zq2
        have q799 : x5_1 < (l1.length : Int) := of_decide_eq_true zq2
        obtain ⟨ad799, e799, hx799_0⟩ := Kd.at_int HR1.out x5_1 p799 q799
        cases e799
        replace p799 := eq_true p799
        replace q799 := eq_true q799
        go_wp2
        repeat (go_quiet (fail); try go_wp2)
        go_ret
        exact ⟨by first | rfl | (simp; done) | (simp [*]; done), by repeat (first | exact Drawn0.refl _ | apply Drawn0.step)⟩
      ·
       rw [if_neg c6] at H
       exact absurd H (by simp)
     ·
      rw [if_neg c5] at H
      exact absurd H (by simp)
    ·
     rw [if_neg c4] at H
     have c4b0 : decide (x5_1 < (l0.length : Int)) = false := decide_eq_false c4
     clear c4
     obtain rfl := Option.some.inj H
     go_wp2
     repeat (go_quiet (fail); try go_wp2)
     go_ret
     exact ⟨by first | rfl | (simp; done) | (simp [*]; done), by repeat (first | exact Drawn0.refl _ | apply Drawn0.step)⟩
 ·
  rw [if_neg c3] at H
  have c3b0 : ((l0.length : Int) == (l1.length : Int)) = false := beq_eq_false_iff_ne.mpr c3
  have c3b1 : ((l0.length : Int) != (l1.length : Int)) = true := bne_iff_ne.mpr c3
  have c3b2 : (l0.length == l1.length) = false := by first | simpa using c3 | (simp at c3 ⊢; omega)
  obtain rfl := Option.some.inj H
  go_enter Try.func38, Try.ntmps38
  go_wp2
  repeat (go_quiet (fail); try go_wp2)
  go_ret
  exact ⟨by first | rfl | (simp; done) | (simp [*]; done), by repeat (first | exact Drawn0.refl _ | apply Drawn0.step)⟩

end Go.Proofs.Ytklepiechbnenaa.Q
namespace Go.Proofs.Ytklepiechbnenaa.Q
open Go.RowKit Go.Proofs.YtklepiechbnenaaW.PrintWords Go.Proofs.YtklepiechbnenaaW.PrintLast Go.Proofs.YtklepiechbnenaaW.PrintMore
attribute [local go_sem] max2_int min2_int max_two min_two max_three min_three max_four min_four   -- for this text's walks alone
set_option linter.unusedVariables false
set_option linter.unusedSimpArgs false

/-! ### spec_l1Cur_one: function 99 -/
def spec_l1Cur_one.f (s0_0 : List Int) (s0_1 : Int) (s0_2 : Int) (a1 : Int) : Option (Bool × Int × Int) := (spec_l1Cur_pick.f s0_0 s0_1 s0_2 a1).bind fun bt238 => (some ((bt238.1 == 0), bt238.2.1, bt238.2.2))
set_option maxHeartbeats 8000000 in
set_option maxRecDepth 100000 in
theorem spec_l1Cur_one.calls (g : Nat) (s0_0 : List Int) (s0_1 : Int) (s0_2 : Int) (a1 : Int) (r1 : Bool) (r2 : Int) (r3 : Int) (w0 w : World) (hI : IsS72 w0 w g s0_0 s0_1 s0_2) (hB : Below w0.heap.size w0 w) (h : spec_l1Cur_one.f s0_0 s0_1 s0_2 a1 = some (r1, r2, r3)) :
  Calls Try.prog 99 #[.pointer (some ⟨g, 0, none⟩), .int .i64 a1] w fun e w' => e = .returned (.bool r1) ∧ IsS72 w0 w' g s0_0 r2 r3 ∧ Below w0.heap.size w0 w' ∧ KeepBut w w' g none := by
 have HI0 := Aside0.mk hI
 have HK := Aside0.mk (KeepBut.refl w g none)
 have HL := Aside0.mk hB.size
 clear hI
 have HW0 := Aside0.mk hB.size
 have HB := Aside0.mk hB
 clear hB
 have H : ((spec_l1Cur_pick.f s0_0 s0_1 s0_2 a1).bind fun bt238 => (some ((bt238.1 == 0), bt238.2.1, bt238.2.2))) = some (r1, r2, r3) := h
 clear h
 replace H := Option.bind_eq_some_iff.mp H
 obtain ⟨⟨t238, t239, t240⟩, A30, H⟩ := H
 replace H : (some ((t238 == 0), t239, t240)) = some (r1, r2, r3) := H
 have A3 := Aside0.mk A30
 clear A30
 simp only [Option.some.injEq, Prod.mk.injEq] at H
 obtain ⟨rfl, rfl, rfl⟩ := H
 go_enter Try.func99, Try.ntmps99
 go_wp2_with (first | ((with_reducible refine gate_callee (f := 56) rfl ?_); refine goesL_ (some 7) rfl rfl Try.func56 (by kernel_rfl) rfl #[.pointer (some ⟨g, 0, none⟩), .int .i64 a1] rfl zq1 ?_; (with_reducible refine (spec_l1Cur_pick.calls g s0_0 s0_1 s0_2 a1 t238 t239 t240 w0 _ ?side1 ?side2 A3.out).mono ?_); (case side1 => repeat (first | (with_reducible first | exact HI0.out | apply IsS72.alloc | apply IsS72.drewN | apply IsS72.drew | apply IsS72.set_1 | apply IsS72.set_2) | exact HI0.out)); (case side2 => repeat (first | (with_reducible first | exact HB.out | apply below_alloc | apply pw_below_drewN | apply below_drew1 | refine below_set ?_ (IsS72.ge HI0.out)) | exact HB.out)); rintro e w4 ⟨rfl, hi, hb, hk⟩; refine ⟨_, rfl, ?_⟩; have n0_ := Aside0.mk (KeepBut.trans zq3 hk (.inl rfl)); have n1_ := Aside0.mk (hb); have n2_ := Aside0.mk (hi); clear HK; clear HB; clear HI0; have HK := n0_; have HB := n1_; have HI0 := n2_; clear n0_ n1_ n2_; (try clear hb); (try clear hb2); (try clear hk); (try clear hi)))
 go_ret
 exact ⟨by first | rfl | (simp [errW_none, errW_some] <;> rfl) | (simp [*, errW_none, errW_some] <;> rfl), by repeat (first | (with_reducible first | exact HI0.out | apply IsS72.alloc | apply IsS72.drewN | apply IsS72.drew | apply IsS72.set_1 | apply IsS72.set_2) | exact HI0.out), by repeat (first | (with_reducible first | exact HB.out | apply below_alloc | apply pw_below_drewN | apply below_drew1 | refine below_set ?_ (IsS72.ge HI0.out)) | exact HB.out), by repeat (first | (with_reducible first | exact HK.out | apply KeepBut.set_ | apply keep_drewN | apply keep_drew | apply keep_alloc) | exact HK.out)⟩

/-! ### spec_l1Cur_idOf: function 55 -/
def spec_l1Cur_idOf.j0 : Nat → List (S31) → Bool → List Int → Int → Int → Option (Int × Int × Int)
 | 0, _, _, _, _, _ => none
 | k + 1, x1, x11, x1000, x1001, x1002 => if x11 = true then ((spec_l1Cur_pick.f x1000 x1001 x1002 12).bind fun bt244 => (some (bt244.1, bt244.2.1, bt244.2.2))) else ((spec_l1Cur_pick.f x1000 x1001 x1002 (x1.length : Int)).bind fun bt247 => (if 0 ≤ bt247.1 then (if bt247.1 < (x1.length : Int) then (some ((rd_T31 x1 bt247.1).f0, bt247.2.1, bt247.2.2)) else (none)) else (none)))
def spec_l1Cur_idOf.f (k : Nat) (s0_0 : List Int) (s0_1 : Int) (s0_2 : Int) (l1 : List (S31)) : Option (Int × Int × Int) := if (l1.length : Int) = 0 then (spec_l1Cur_idOf.j0 k l1 true s0_0 s0_1 s0_2) else ((spec_l1Cur_one.f s0_0 s0_1 s0_2 10).bind fun bt241 => (spec_l1Cur_idOf.j0 k l1 bt241.1 s0_0 bt241.2.1 bt241.2.2))
theorem spec_l1Cur_idOf.mono_l : ∀ k, (∀ y0 y1 y2 y3 y4, LeO (spec_l1Cur_idOf.j0 k y0 y1 y2 y3 y4) (spec_l1Cur_idOf.j0 (k + 1) y0 y1 y2 y3 y4))
 | 0 => fun _ _ _ _ _ r h => by simp [spec_l1Cur_idOf.j0] at h
 | k + 1 => by
  have ih0 := spec_l1Cur_idOf.mono_l k
  ·
   intro y0 y1 y2 y3 y4
   unfold spec_l1Cur_idOf.j0
   repeat' first
   | (with_reducible exact ih0 _ _ _ _ _)
   | (with_reducible exact LeO.refl _)
   | (with_reducible exact LeO.none _)
   | (with_reducible refine LeO.ite ?_ ?_)
   | (with_reducible refine LeO.bind ?_ (fun _ => ?_))
   | exact ih0 _ _ _ _ _
   | exact LeO.none _
   | refine LeO.ite ?_ ?_
   | refine LeO.bind ?_ (fun _ => ?_)
theorem spec_l1Cur_idOf.mono : ∀ a0 a1 a2 a3 k, LeO (spec_l1Cur_idOf.f k a0 a1 a2 a3) (spec_l1Cur_idOf.f (k + 1) a0 a1 a2 a3) := by
 intro a0 a1 a2 a3 k
 have ih0 := spec_l1Cur_idOf.mono_l k
 unfold spec_l1Cur_idOf.f
 repeat' first
   | (with_reducible exact ih0 _ _ _ _ _)
   | (with_reducible exact LeO.refl _)
   | (with_reducible exact LeO.none _)
   | (with_reducible refine LeO.ite ?_ ?_)
   | (with_reducible refine LeO.bind ?_ (fun _ => ?_))
   | exact ih0 _ _ _ _ _
   | exact LeO.none _
   | refine LeO.ite ?_ ?_
   | refine LeO.bind ?_ (fun _ => ?_)
set_option maxHeartbeats 8000000 in
set_option maxRecDepth 100000 in
theorem spec_l1Cur_idOf.calls (k : Nat) (g : Nat) (s0_0 : List Int) (s0_1 : Int) (s0_2 : Int) (A1 : Option Addr) (c1 : Nat) (l1 : List (S31)) (r1 : Int) (r2 : Int) (r3 : Int) (w0 w : World) (hI : IsS72 w0 w g s0_0 s0_1 s0_2) (hB : Below w0.heap.size w0 w) (hr1 : ∀ W_, KeepBut w W_ g none → Kd.C k31 W_ A1 l1.length l1) (hc1 : l1.length ≤ c1) (h : spec_l1Cur_idOf.f k s0_0 s0_1 s0_2 l1 = some (r1, r2, r3)) :
  Calls Try.prog 55 #[.pointer (some ⟨g, 0, none⟩), .slice A1 l1.length c1] w fun e w' => e = .returned (.int .i64 r1) ∧ IsS72 w0 w' g s0_0 r2 r3 ∧ Below w0.heap.size w0 w' ∧ KeepBut w w' g none := by
 have HR1 := Aside0.mk hr1
 have HC1 := Aside0.mk hc1
 clear hr1 hc1
 have HI0 := Aside0.mk hI
 have HK := Aside0.mk (KeepBut.refl w g none)
 have HL := Aside0.mk hB.size
 clear hI
 have HW0 := Aside0.mk hB.size
 have HB := Aside0.mk hB
 clear hB
 have H : (if (l1.length : Int) = 0 then (spec_l1Cur_idOf.j0 k l1 true s0_0 s0_1 s0_2) else ((spec_l1Cur_one.f s0_0 s0_1 s0_2 10).bind fun bt241 => (spec_l1Cur_idOf.j0 k l1 bt241.1 s0_0 bt241.2.1 bt241.2.2))) = some (r1, r2, r3) := h
 clear h
 have HC3 := Aside0.mk H
 clear H
 go_enter Try.func55, Try.ntmps55
 go_upto_region 1 with (fail)
 go_cut [11] (fun v11 wc => ∃ (kq : Nat) (x11_2 : Bool) (x1001_2 : Int) (x1002_2 : Int), v11 = .bool x11_2 ∧ Aside0 (spec_l1Cur_idOf.j0 kq l1 x11_2 s0_0 x1001_2 x1002_2 = some (r1, r2, r3)) ∧ Aside0 (kq ≤ k) ∧ Aside0 (IsS72 w0 wc g s0_0 x1001_2 x1002_2) ∧ Aside0 (KeepBut w wc g none) ∧ Aside0 (Below w0.heap.size w0 wc))
 case first =>
  have H := HC3.out
  clear HC3
  by_cases c4 : (l1.length : Int) = 0
  ·
   rw [if_pos c4] at H
   have c4b0 : ((l1.length : Int) == 0) = true := beq_iff_eq.mpr c4
   have c4b1 : ((l1.length : Int) != 0) = false := bne_eq_false_iff_eq.mpr c4
   clear c4
   (first | rw [c4b0] | (simp only [i64_w, i32_w]; rw [c4b0]) | rw [c4b1] | skip)
   have H' := Aside0.mk H
   clear H
   go_wp2
   go_meet
   case rel => exact ⟨_, (true), (s0_1), (s0_2), (by first | rfl | (simp; done) | (simp [*]; done)), H', ⟨by first | omega | exact Nat.le_refl _⟩, ⟨by repeat (first | (with_reducible first | exact HI0.out | apply IsS72.alloc | apply IsS72.drewN | apply IsS72.drew | apply IsS72.set_1 | apply IsS72.set_2) | exact HI0.out)⟩, ⟨by repeat (first | (with_reducible first | exact HK.out | apply KeepBut.set_ | apply keep_drewN | apply keep_drew | apply keep_alloc) | exact HK.out)⟩, ⟨by repeat (first | (with_reducible first | exact HB.out | apply below_alloc | apply pw_below_drewN | apply below_drew1 | refine below_set ?_ (IsS72.ge HI0.out)) | exact HB.out)⟩⟩
  ·
   rw [if_neg c4] at H
   have c4b0 : ((l1.length : Int) == 0) = false := beq_eq_false_iff_ne.mpr c4
   have c4b1 : ((l1.length : Int) != 0) = true := bne_iff_ne.mpr c4
   have c4b2 : ¬ (l1 = []) := fun h_ => c4 (by rw [h_]; rfl)
   (first | rw [c4b0] | (simp only [i64_w, i32_w]; rw [c4b0]) | rw [c4b1] | skip)
   replace H := Option.bind_eq_some_iff.mp H
   obtain ⟨⟨t241, t242, t243⟩, A50, H⟩ := H
   replace H : (spec_l1Cur_idOf.j0 k l1 t241 s0_0 t242 t243) = some (r1, r2, r3) := H
   have A5 := Aside0.mk A50
   clear A50
   have H' := Aside0.mk H
   clear H
   go_wp2_with (first | (go_at_call 99; (with_reducible refine (spec_l1Cur_one.calls g s0_0 s0_1 s0_2 10 t241 t242 t243 w0 _ ?side1 ?side2 A5.out).mono ?_); (case side1 => repeat (first | (with_reducible first | exact HI0.out | apply IsS72.alloc | apply IsS72.drewN | apply IsS72.drew | apply IsS72.set_1 | apply IsS72.set_2) | exact HI0.out)); (case side2 => repeat (first | (with_reducible first | exact HB.out | apply below_alloc | apply pw_below_drewN | apply below_drew1 | refine below_set ?_ (IsS72.ge HI0.out)) | exact HB.out)); rintro e w6 ⟨rfl, hi, hb, hk⟩; have n0_ := Aside0.mk (KeepBut.trans zq3 hk (.inl rfl)); have n1_ := Aside0.mk (hb); have n2_ := Aside0.mk (hi); clear HK; clear HB; clear HI0; have HK := n0_; have HB := n1_; have HI0 := n2_; clear n0_ n1_ n2_; (try clear hb); (try clear hb2); (try clear hk); (try clear hi)))
   go_meet
   case rel => exact ⟨_, (t241), (t242), (t243), (by first | rfl | (simp; done) | (simp [*]; done)), H', ⟨by first | omega | exact Nat.le_refl _⟩, ⟨by repeat (first | (with_reducible first | exact HI0.out | apply IsS72.alloc | apply IsS72.drewN | apply IsS72.drew | apply IsS72.set_1 | apply IsS72.set_2) | exact HI0.out)⟩, ⟨by repeat (first | (with_reducible first | exact HK.out | apply KeepBut.set_ | apply keep_drewN | apply keep_drew | apply keep_alloc) | exact HK.out)⟩, ⟨by repeat (first | (with_reducible first | exact HB.out | apply below_alloc | apply pw_below_drewN | apply below_drew1 | refine below_set ?_ (IsS72.ge HI0.out)) | exact HB.out)⟩⟩
 case rest =>
  clear HC3
  try clear c1
  try clear p2
  try clear c4
  try clear c4b0
  try clear c4b1
  try clear c4b2
  try clear c5
  obtain ⟨kq, x11_2, x1001_2, x1002_2, rfl, HA, HJ2, HI0, HK, HB⟩ := hcut
  cases kq with
  | zero => exact absurd HA.out (by simp [spec_l1Cur_idOf.j0])
  | succ kj2 =>
   have H := HA.out
   clear HA
   simp only [spec_l1Cur_idOf.j0] at H
   by_cases c7 : x11_2 = true
   ·
    subst c7
    have H1 : ((spec_l1Cur_pick.f s0_0 x1001_2 x1002_2 12).bind fun bt244 => (some (bt244.1, bt244.2.1, bt244.2.2))) = some (r1, r2, r3) := by rw [if_pos rfl] at H; exact H
    clear H
    have H := H1
    clear H1
    replace H := Option.bind_eq_some_iff.mp H
    obtain ⟨⟨t244, t245, t246⟩, A80, H⟩ := H
    replace H : (some (t244, t245, t246)) = some (r1, r2, r3) := H
    have A8 := Aside0.mk A80
    clear A80
    simp only [Option.some.injEq, Prod.mk.injEq] at H
    obtain ⟨rfl, rfl, rfl⟩ := H
    go_wp2_with (first | ((with_reducible refine gate_callee (f := 56) rfl ?_); refine goesL_ (some 13) rfl rfl Try.func56 (by kernel_rfl) rfl #[.pointer (some ⟨g, 0, none⟩), .int .i64 12] rfl zq1 ?_; (with_reducible refine (spec_l1Cur_pick.calls g s0_0 x1001_2 x1002_2 12 t244 t245 t246 w0 _ ?side1 ?side2 A8.out).mono ?_); (case side1 => repeat (first | (with_reducible first | exact HI0.out | apply IsS72.alloc | apply IsS72.drewN | apply IsS72.drew | apply IsS72.set_1 | apply IsS72.set_2) | exact HI0.out)); (case side2 => repeat (first | (with_reducible first | exact HB.out | apply below_alloc | apply pw_below_drewN | apply below_drew1 | refine below_set ?_ (IsS72.ge HI0.out)) | exact HB.out)); rintro e w9 ⟨rfl, hi, hb, hk⟩; refine ⟨_, rfl, ?_⟩; have n0_ := Aside0.mk (KeepBut.trans zq3 hk (.inl rfl)); have n1_ := Aside0.mk (hb); have n2_ := Aside0.mk (hi); clear HK; clear HB; clear HI0; have HK := n0_; have HB := n1_; have HI0 := n2_; clear n0_ n1_ n2_; (try clear hb); (try clear hb2); (try clear hk); (try clear hi)))
    go_ret
    exact ⟨by first | rfl | (simp [errW_none, errW_some] <;> rfl) | (simp [*, errW_none, errW_some] <;> rfl), by repeat (first | (with_reducible first | exact HI0.out | apply IsS72.alloc | apply IsS72.drewN | apply IsS72.drew | apply IsS72.set_1 | apply IsS72.set_2) | exact HI0.out), by repeat (first | (with_reducible first | exact HB.out | apply below_alloc | apply pw_below_drewN | apply below_drew1 | refine below_set ?_ (IsS72.ge HI0.out)) | exact HB.out), by repeat (first | (with_reducible first | exact HK.out | apply KeepBut.set_ | apply keep_drewN | apply keep_drew | apply keep_alloc) | exact HK.out)⟩
   ·
    replace c7 := Bool.eq_false_iff.mpr c7
    subst c7
    have H1 : ((spec_l1Cur_pick.f s0_0 x1001_2 x1002_2 (l1.length : Int)).bind fun bt247 => (if 0 ≤ bt247.1 then (if bt247.1 < (l1.length : Int) then (some ((rd_T31 l1 bt247.1).f0, bt247.2.1, bt247.2.2)) else (none)) else (none))) = some (r1, r2, r3) := by rw [if_neg (show ¬ (false = true) by decide)] at H; exact H
    clear H
    have H := H1
    clear H1
    replace H := Option.bind_eq_some_iff.mp H
    obtain ⟨⟨t247, t248, t249⟩, A100, H⟩ := H
    replace H : (if 0 ≤ t247 then (if t247 < (l1.length : Int) then (some ((rd_T31 l1 t247).f0, t248, t249)) else (none)) else (none)) = some (r1, r2, r3) := H
    have A10 := Aside0.mk A100
    clear A100
    by_cases c11 : 0 ≤ t247
    ·
     rw [if_pos c11] at H
     have c11b0 : decide (0 ≤ t247) = true := decide_eq_true c11
     clear c11
     by_cases c12 : t247 < (l1.length : Int)
     ·
      rw [if_pos c12] at H
      have c12b0 : decide (t247 < (l1.length : Int)) = true := decide_eq_true c12
      clear c12
      simp only [Option.some.injEq, Prod.mk.injEq] at H
      obtain ⟨rfl, rfl, rfl⟩ := H
      go_wp2_with (first | ((with_reducible refine gate_callee (f := 56) rfl ?_); refine goesL_ (some 18) rfl rfl Try.func56 (by kernel_rfl) rfl #[.pointer (some ⟨g, 0, none⟩), .int .i64 (l1.length : Int)] rfl zq1 ?_; (with_reducible refine (spec_l1Cur_pick.calls g s0_0 x1001_2 x1002_2 (l1.length : Int) t247 t248 t249 w0 _ ?side1 ?side2 A10.out).mono ?_); (case side1 => repeat (first | (with_reducible first | exact HI0.out | apply IsS72.alloc | apply IsS72.drewN | apply IsS72.drew | apply IsS72.set_1 | apply IsS72.set_2) | exact HI0.out)); (case side2 => repeat (first | (with_reducible first | exact HB.out | apply below_alloc | apply pw_below_drewN | apply below_drew1 | refine below_set ?_ (IsS72.ge HI0.out)) | exact HB.out)); rintro e w13 ⟨rfl, hi, hb, hk⟩; refine ⟨_, rfl, ?_⟩; have n0_ := Aside0.mk (KeepBut.trans zq3 hk (.inl rfl)); have n1_ := Aside0.mk (hb); have n2_ := Aside0.mk (hi); clear HK; clear HB; clear HI0; have HK := n0_; have HB := n1_; have HI0 := n2_; clear n0_ n1_ n2_; (try clear hb); (try clear hb2); (try clear hk); (try clear hi); have p250 : 0 ≤ (t247 : Int) := of_decide_eq_true zq2; have q250 : t247 < (l1.length : Int) := of_decide_eq_true zq2; obtain ⟨ad250, e250, hx250_0, hx250_1, hx250_2, hx250_3, hx250_4, hx250_5⟩ := at_T31 (Kd.C_foot_now HR1.out HK.out) t247 p250 q250; cases e250; replace p250 := eq_true p250; replace q250 := eq_true q250))
      go_ret
      exact ⟨by first | rfl | (simp [errW_none, errW_some] <;> rfl) | (simp [*, errW_none, errW_some] <;> rfl), by repeat (first | (with_reducible first | exact HI0.out | apply IsS72.alloc | apply IsS72.drewN | apply IsS72.drew | apply IsS72.set_1 | apply IsS72.set_2) | exact HI0.out), by repeat (first | (with_reducible first | exact HB.out | apply below_alloc | apply pw_below_drewN | apply below_drew1 | refine below_set ?_ (IsS72.ge HI0.out)) | exact HB.out), by repeat (first | (with_reducible first | exact HK.out | apply KeepBut.set_ | apply keep_drewN | apply keep_drew | apply keep_alloc) | exact HK.out)⟩
     ·
      rw [if_neg c12] at H
      exact absurd H (by simp)
    ·
     rw [if_neg c11] at H
     exact absurd H (by simp)

end Go.Proofs.Ytklepiechbnenaa.Q
namespace Go.Proofs.Ytklepiechbnenaa.Q
open Go.RowKit Go.Proofs.YtklepiechbnenaaW.PrintWords Go.Proofs.YtklepiechbnenaaW.PrintLast Go.Proofs.YtklepiechbnenaaW.PrintMore
attribute [local go_sem] max2_int min2_int max_two min_two max_three min_three max_four min_four   -- for this text's walks alone
set_option linter.unusedVariables false
set_option linter.unusedSimpArgs false

/-! ### spec_l14Find: function 57 -/
def spec_l14Find.l0 : Nat → List (S31) → Int → Int → Option (Int)
 | 0, _, _, _ => none
 | k + 1, x0, x1, x5 => if x5 < (x0.length : Int) then (if 0 ≤ x5 then (if ((rd_T31 x0 x5).f0) = x1 then (some x5) else (spec_l14Find.l0 k x0 x1 (wrap64 (x5 + 1)))) else (none)) else (some (-1))
def spec_l14Find.f (k : Nat) (l0 : List (S31)) (a1 : Int) : Option (Int) := spec_l14Find.l0 k l0 a1 0
theorem spec_l14Find.mono_l : ∀ k, (∀ y0 y1 y2, LeO (spec_l14Find.l0 k y0 y1 y2) (spec_l14Find.l0 (k + 1) y0 y1 y2))
 | 0 => fun _ _ _ r h => by simp [spec_l14Find.l0] at h
 | k + 1 => by
  have ih0 := spec_l14Find.mono_l k
  ·
   intro y0 y1 y2
   unfold spec_l14Find.l0
   repeat' first
   | (with_reducible exact ih0 _ _ _)
   | (with_reducible exact LeO.refl _)
   | (with_reducible exact LeO.none _)
   | (with_reducible refine LeO.ite ?_ ?_)
   | (with_reducible refine LeO.bind ?_ (fun _ => ?_))
   | exact ih0 _ _ _
   | exact LeO.none _
   | refine LeO.ite ?_ ?_
   | refine LeO.bind ?_ (fun _ => ?_)
theorem spec_l14Find.mono : ∀ a0 a1 k, LeO (spec_l14Find.f k a0 a1) (spec_l14Find.f (k + 1) a0 a1) := by
 intro a0 a1 k
 have ih0 := spec_l14Find.mono_l k
 unfold spec_l14Find.f
 repeat' first
   | (with_reducible exact ih0 _ _ _)
   | (with_reducible exact LeO.refl _)
   | (with_reducible exact LeO.none _)
   | (with_reducible refine LeO.ite ?_ ?_)
   | (with_reducible refine LeO.bind ?_ (fun _ => ?_))
   | exact ih0 _ _ _
   | exact LeO.none _
   | refine LeO.ite ?_ ?_
   | refine LeO.bind ?_ (fun _ => ?_)
set_option maxHeartbeats 8000000 in
set_option maxRecDepth 100000 in
theorem spec_l14Find.calls (k : Nat) (A0 : Option Addr) (c0 : Nat) (l0 : List (S31)) (a1 : Int) (r : Int) (w : World) (hr0 : Kd.C k31 w A0 l0.length l0) (hc0 : l0.length ≤ c0) (h : spec_l14Find.f k l0 a1 = some r) :
  Calls Try.prog 57 #[.slice A0 l0.length c0, .int .i64 a1] w fun e w' => e = .returned (.int .i64 r) ∧ Drawn0 w w' := by
 have HR0 := Aside0.mk hr0
 have HC0 := Aside0.mk hc0
 clear hr0 hc0
 have H : (spec_l14Find.l0 k l0 a1 0) = some r := h
 clear h
 have H' := Aside0.mk H
 clear H
 go_enter Try.func57, Try.ntmps57
 go_wp2
 go_loopg [5] k (fun kq v5 w' => ∃ (x5_1 : Int), v5 = .int .i64 x5_1 ∧ Aside0 (spec_l14Find.l0 kq l0 a1 x5_1 = some r) ∧ Aside0 (kq ≤ k) ∧ Drawn0 w w')
 case atStart => exact ⟨(0), (by first | rfl | (simp; done) | (simp [*]; done)), H', ⟨Nat.le_refl _⟩, by repeat (first | exact Drawn0.refl _ | apply Drawn0.step)⟩
 case round =>
  clear H'
  try clear p2
  obtain ⟨x5_1, rfl, HA, HK1, ⟨m1, rfl⟩⟩ := hrel
  cases gk with
  | zero => exact absurd HA.out (by simp [spec_l14Find.l0])
  | succ k1 =>
   have H := HA.out
   clear HA
   simp only [spec_l14Find.l0] at H
   by_cases c3 : x5_1 < (l0.length : Int)
   ·
    rw [if_pos c3] at H
    have c3b0 : decide (x5_1 < (l0.length : Int)) = true := decide_eq_true c3
    clear c3
    by_cases c4 : 0 ≤ x5_1
    ·
     rw [if_pos c4] at H
     have c4b0 : decide (0 ≤ x5_1) = true := decide_eq_true c4
     clear c4
     by_cases c5 : ((rd_T31 l0 x5_1).f0) = a1
     ·
      rw [if_pos c5] at H
      have c5b0 : (((rd_T31 l0 x5_1).f0) == a1) = true := beq_iff_eq.mpr c5
      have c5b1 : (((rd_T31 l0 x5_1).f0) != a1) = false := bne_eq_false_iff_eq.mpr c5
      clear c5
      obtain rfl := Option.some.inj H
      have p251 : 0 ≤ (x5_1 : Int) := of_decide_eq_true zq2
      have q251 : x5_1 < (l0.length : Int) := of_decide_eq_true zq2
      obtain ⟨ad251, e251, hx251_0, hx251_1, hx251_2, hx251_3, hx251_4, hx251_5⟩ := at_T31 HR0.out x5_1 p251 q251
      cases e251
      replace p251 := eq_true p251
      replace q251 := eq_true q251
      go_wp2
      go_ret
      exact ⟨by first | rfl | (simp; done) | (simp [*]; done), by repeat (first | exact Drawn0.refl _ | apply Drawn0.step)⟩
     ·
      rw [if_neg c5] at H
      have c5b0 : (((rd_T31 l0 x5_1).f0) == a1) = false := beq_eq_false_iff_ne.mpr c5
      have c5b1 : (((rd_T31 l0 x5_1).f0) != a1) = true := bne_iff_ne.mpr c5
      have H' := Aside0.mk H
      clear H
      have p251 : 0 ≤ (x5_1 : Int) := of_decide_eq_true zq2
      have q251 : x5_1 < (l0.length : Int) := of_decide_eq_true zq2
      obtain ⟨ad251, e251, hx251_0, hx251_1, hx251_2, hx251_3, hx251_4, hx251_5⟩ := at_T31 HR0.out x5_1 p251 q251
      cases e251
      replace p251 := eq_true p251
      replace q251 := eq_true q251
      go_wp2
      go_roundg k1
      case measure => have := HK1.out; omega
      case rel => exact ⟨(wrap64 (x5_1 + 1)), (by first | rfl | (simp; done) | (simp [*]; done)), H', ⟨by have := HK1.out; omega⟩, by repeat (first | exact Drawn0.refl _ | apply Drawn0.step)⟩
    ·
     rw [if_neg c4] at H
     exact absurd H (by simp)
   ·
    rw [if_neg c3] at H
    have c3b0 : decide (x5_1 < (l0.length : Int)) = false := decide_eq_false c3
    clear c3
    obtain rfl := Option.some.inj H
    go_wp2
    go_ret
    exact ⟨by first | rfl | (simp; done) | (simp [*]; done), by repeat (first | exact Drawn0.refl _ | apply Drawn0.step)⟩

end Go.Proofs.Ytklepiechbnenaa.Q
namespace Go.Proofs.Ytklepiechbnenaa.Q
open Go.RowKit Go.Proofs.YtklepiechbnenaaW.PrintWords Go.Proofs.YtklepiechbnenaaW.PrintLast Go.Proofs.YtklepiechbnenaaW.PrintMore
attribute [local go_sem] max2_int min2_int max_two min_two max_three min_three max_four min_four   -- for this text's walks alone
set_option linter.unusedVariables false
set_option linter.unusedSimpArgs false

/-! ### spec_DrawExtendWarning: function 40 -/
def spec_DrawExtendWarning.f (k : Nat) (l0 : List Int) : Option ((List (S31)) × Int × Int) := (spec_l1Cur_warnings.f k l0 0 0).bind fun bt801 => ((spec_l1Cur_idOf.f k l0 bt801.2.1 bt801.2.2 bt801.1).bind fun bt806 => ((spec_l1Cur_pick.f l0 bt806.2.1 bt806.2.2 60).bind fun bt809 => ((spec_l14Find.f k bt801.1 bt806.1).bind fun t812 => (if t812 ≥ 0 then (if 0 ≤ t812 then (if t812 < (bt801.1.length : Int) then ((spec_l1Cur_among.f l0 bt809.2.1 bt809.2.2 (([1, 2, 5, 0, 100, 230] : List Int))).bind fun bt817 => (some (bt801.1, bt806.1, wrap64 (((rd_T31 bt801.1 t812).f5) + bt817.1)))) else (none)) else (none)) else (some (bt801.1, bt806.1, bt809.1))))))
theorem spec_DrawExtendWarning.mono : ∀ a0 k, LeO (spec_DrawExtendWarning.f k a0) (spec_DrawExtendWarning.f (k + 1) a0) := by
 intro a0 k
 unfold spec_DrawExtendWarning.f
 repeat' first
   | (with_reducible exact spec_l14Find.mono _ _ _)
   | (with_reducible exact spec_l1Cur_idOf.mono _ _ _ _ _)
   | (with_reducible exact spec_l1Cur_warnings.mono _ _ _ _)
   | (with_reducible exact LeO.refl _)
   | (with_reducible exact LeO.none _)
   | (with_reducible refine LeO.ite ?_ ?_)
   | (with_reducible refine LeO.bind ?_ (fun _ => ?_))
   | exact spec_l14Find.mono _ _ _
   | exact spec_l1Cur_idOf.mono _ _ _ _ _
   | exact spec_l1Cur_warnings.mono _ _ _ _
   | exact LeO.none _
   | refine LeO.ite ?_ ?_
   | refine LeO.bind ?_ (fun _ => ?_)
def spec_DrawExtendWarning.T7 : Bool × List (List Nat × List Nat) := (true, [([], []), ([], []), ([0, 1], [0, 1]), ([2], [2]), ([3], [3]), ([], []), ([], []), ([5, 6], [5, 6]), ([4, 7], [4, 7]), ([8, 7, 0, 1, 2, 3, 4, 5, 6, 7, 8], [8])])
def spec_DrawExtendWarning.B7 : List Nat := [0, 0, 3, 7, 15, 0, 0, 96, 255, 511]
theorem spec_DrawExtendWarning.tab7 : rtab .any (opsOf Try.f40 7) = spec_DrawExtendWarning.T7 := by kernel_rfl
theorem spec_DrawExtendWarning.bits7 : waitsOk spec_DrawExtendWarning.T7.2 spec_DrawExtendWarning.B7 = true := by kernel_rfl
set_option maxHeartbeats 8000000 in
set_option maxRecDepth 100000 in
theorem spec_DrawExtendWarning.calls (k : Nat) (A0 : Option Addr) (c0 : Nat) (l0 : List Int) (r1 : List (S31)) (r2 : Int) (r3 : Int) (w : World) (hr0 : Kd.C (Kd.int .u8) w A0 l0.length l0) (hc0 : l0.length ≤ c0) (h : spec_DrawExtendWarning.f k l0 = some (r1, r2, r3)) :
  Calls Try.prog 40 #[.slice A0 l0.length c0] w fun e w' => ∃ v0_ : Value, e = .returned (.tuple #[v0_, .int .i64 r2, .int .i64 r3]) ∧ Kd.R k31 31 w' w.heap.size (fun _ => True) v0_ r1 ∧ Below w.heap.size w w' := by
 have hu72 := Try.underlying72
 have HR0 := Aside0.mk hr0
 have HC0 := Aside0.mk hc0
 clear hr0 hc0
 have HB := Aside0.mk (Below.refl w.heap.size w)
 have H : ((spec_l1Cur_warnings.f k l0 0 0).bind fun bt801 => ((spec_l1Cur_idOf.f k l0 bt801.2.1 bt801.2.2 bt801.1).bind fun bt806 => ((spec_l1Cur_pick.f l0 bt806.2.1 bt806.2.2 60).bind fun bt809 => ((spec_l14Find.f k bt801.1 bt806.1).bind fun t812 => (if t812 ≥ 0 then (if 0 ≤ t812 then (if t812 < (bt801.1.length : Int) then ((spec_l1Cur_among.f l0 bt809.2.1 bt809.2.2 (([1, 2, 5, 0, 100, 230] : List Int))).bind fun bt817 => (some (bt801.1, bt806.1, wrap64 (((rd_T31 bt801.1 t812).f5) + bt817.1)))) else (none)) else (none)) else (some (bt801.1, bt806.1, bt809.1))))))) = some (r1, r2, r3) := h
 clear h
 replace H := Option.bind_eq_some_iff.mp H
 obtain ⟨⟨t801, t804, t805⟩, A20, H⟩ := H
 replace H : ((spec_l1Cur_idOf.f k l0 t804 t805 t801).bind fun bt806 => ((spec_l1Cur_pick.f l0 bt806.2.1 bt806.2.2 60).bind fun bt809 => ((spec_l14Find.f k t801 bt806.1).bind fun t812 => (if t812 ≥ 0 then (if 0 ≤ t812 then (if t812 < (t801.length : Int) then ((spec_l1Cur_among.f l0 bt809.2.1 bt809.2.2 (([1, 2, 5, 0, 100, 230] : List Int))).bind fun bt817 => (some (t801, bt806.1, wrap64 (((rd_T31 t801 t812).f5) + bt817.1)))) else (none)) else (none)) else (some (t801, bt806.1, bt809.1)))))) = some (r1, r2, r3) := H
 have A2 := Aside0.mk A20
 clear A20
 replace H := Option.bind_eq_some_iff.mp H
 obtain ⟨⟨t806, t807, t808⟩, A30, H⟩ := H
 replace H : ((spec_l1Cur_pick.f l0 t807 t808 60).bind fun bt809 => ((spec_l14Find.f k t801 t806).bind fun t812 => (if t812 ≥ 0 then (if 0 ≤ t812 then (if t812 < (t801.length : Int) then ((spec_l1Cur_among.f l0 bt809.2.1 bt809.2.2 (([1, 2, 5, 0, 100, 230] : List Int))).bind fun bt817 => (some (t801, t806, wrap64 (((rd_T31 t801 t812).f5) + bt817.1)))) else (none)) else (none)) else (some (t801, t806, bt809.1))))) = some (r1, r2, r3) := H
 have A3 := Aside0.mk A30
 clear A30
 replace H := Option.bind_eq_some_iff.mp H
 obtain ⟨⟨t809, t810, t811⟩, A40, H⟩ := H
 replace H : ((spec_l14Find.f k t801 t806).bind fun t812 => (if t812 ≥ 0 then (if 0 ≤ t812 then (if t812 < (t801.length : Int) then ((spec_l1Cur_among.f l0 t810 t811 (([1, 2, 5, 0, 100, 230] : List Int))).bind fun bt817 => (some (t801, t806, wrap64 (((rd_T31 t801 t812).f5) + bt817.1)))) else (none)) else (none)) else (some (t801, t806, t809)))) = some (r1, r2, r3) := H
 have A4 := Aside0.mk A40
 clear A40
 replace H := Option.bind_eq_some_iff.mp H
 obtain ⟨t812, A50, H⟩ := H
 replace H : (if t812 ≥ 0 then (if 0 ≤ t812 then (if t812 < (t801.length : Int) then ((spec_l1Cur_among.f l0 t810 t811 (([1, 2, 5, 0, 100, 230] : List Int))).bind fun bt817 => (some (t801, t806, wrap64 (((rd_T31 t801 t812).f5) + bt817.1)))) else (none)) else (none)) else (some (t801, t806, t809))) = some (r1, r2, r3) := H
 have A5 := Aside0.mk A50
 clear A50
 by_cases c6 : t812 ≥ 0
 ·
  rw [if_pos c6] at H
  have c6b0 : decide (0 ≤ t812) = true := decide_eq_true c6
  clear c6
  by_cases c7 : 0 ≤ t812
  ·
   rw [if_pos c7] at H
   have c7b0 : decide (0 ≤ t812) = true := decide_eq_true c7
   clear c7
   by_cases c8 : t812 < (t801.length : Int)
   ·
    rw [if_pos c8] at H
    have c8b0 : decide (t812 < (t801.length : Int)) = true := decide_eq_true c8
    clear c8
    obtain ⟨y814, hy814⟩ : ∃ y_ : List Int, y_ = (([1, 2, 5, 0, 100, 230] : List Int)) := ⟨_, rfl⟩
    replace H : ((spec_l1Cur_among.f l0 t810 t811 y814).bind fun bt817 => (some (t801, t806, wrap64 (((rd_T31 t801 t812).f5) + bt817.1)))) = some (r1, r2, r3) := by first | (rw [hy814]; with_reducible exact H) | (have H2_ := (Option.bind_some _ _).symm.trans H; rw [hy814]; with_reducible exact H2_) | (have H2_ := (Option.bind_some _ _).symm.trans H; with_reducible exact H2_) | with_reducible exact H | (rw [hy814]; exact H) | exact H
    have Ny814 := Aside0.mk hy814
    clear hy814
    replace H := Option.bind_eq_some_iff.mp H
    obtain ⟨⟨t817, t818, t819⟩, A90, H⟩ := H
    replace H : (some (t801, t806, wrap64 (((rd_T31 t801 t812).f5) + t817))) = some (r1, r2, r3) := H
    have A9 := Aside0.mk A90
    clear A90
    simp only [Option.some.injEq, Prod.mk.injEq] at H
    obtain ⟨rfl, rfl, rfl⟩ := H
    go_enter Try.func40, Try.ntmps40
    try go_wp2_with (first | ((with_reducible refine gate_dst (N := 12) rfl ?_); refine box_event ?hg (N := 12) ?hd (cs := #[.slice A0 l0.length c0, .int .i64 0, .int .u64 0]) (t := 72) ?hr ?_; (case hd => rfl); (case hg => rfl); (case hr => first | (go_simp; done) | (go_simp; rfl)); intro gb800 hg w10 hbox hb; have n0_ := Aside0.mk (below_step zq0 hb); have n1_ := Aside0.mk ((show IsS72 w w10 gb800 l0 0 0 from ⟨_, _, hbox, (by rw [hg]; exact (below_size zq0) : w.heap.size ≤ gb800), HR0.out⟩)); have n2_ := Aside0.mk ((by rw [hg]; exact (below_size zq0) : w.heap.size ≤ gb800)); have n3_ := Aside0.mk ((by rw [hg]; exact (below_size zq0) : w.heap.size ≤ gb800)); clear HB; have HB := n0_; have HI800 := n1_; have GW800 := n2_; have GE800 := n3_; clear n0_ n1_ n2_ n3_; clear hb hbox hg) | ((with_reducible refine gate_callee (f := 54) rfl ?_); refine goesL_ (some 14) rfl rfl Try.func54 (by kernel_rfl) rfl #[.pointer (some ⟨gb800, 0, none⟩)] rfl zq1 ?_; (with_reducible refine (spec_l1Cur_warnings.calls k gb800 l0 0 0 t801 t804 t805 w _ ?side1 ?side2 A2.out).mono ?_); (case side1 => repeat (first | (with_reducible first | exact HI800.out | apply IsS72.alloc | apply IsS72.drewN | apply IsS72.drew | apply IsS72.set_1 | apply IsS72.set_2) | exact HI800.out)); (case side2 => repeat (first | (with_reducible first | exact HB.out | apply below_alloc | apply pw_below_drewN | apply below_drew1 | refine below_set ?_ (IsS72.ge HI800.out)) | exact HB.out)); rintro e w11 ⟨v802, rfl, ho0, hi, hb, hk⟩; refine ⟨_, rfl, ?_⟩; have n0_ := Aside0.mk (Kd.R_lower ho0 (below_size zq30)); have n1_ := Aside0.mk (hb); have n2_ := Aside0.mk (hi); clear HB; clear HI800; have HO803 := n0_; have HB := n1_; have HI800 := n2_; clear n0_ n1_ n2_; (try clear hb); (try clear hb2); (try clear hk); (try clear hi); (try clear ho0); obtain ⟨Ao12, co12, eo12⟩ := Kd.R_slice HO803.out; subst eo12) | ((with_reducible refine gate_callee (f := 55) rfl ?_); refine goesL_ (some 17) rfl rfl Try.func55 (by kernel_rfl) rfl #[.pointer (some ⟨gb800, 0, none⟩), .slice Ao12 t801.length co12] rfl zq1 ?_; (with_reducible refine (spec_l1Cur_idOf.calls k gb800 l0 t804 t805 _ _ t801 t806 t807 t808 w _ ?side1 ?side2 ?side3 ?side4 A3.out).mono ?_); (case side1 => repeat (first | (with_reducible first | exact HI800.out | apply IsS72.alloc | apply IsS72.drewN | apply IsS72.drew | apply IsS72.set_1 | apply IsS72.set_2) | exact HI800.out)); (case side2 => repeat (first | (with_reducible first | exact HB.out | apply below_alloc | apply pw_below_drewN | apply below_drew1 | refine below_set ?_ (IsS72.ge HI800.out)) | exact HB.out)); (case side3 => exact Kd.C_foot_own (IsS72.apart (show IsS72 w _ gb800 l0 t804 t805 from by repeat (first | (with_reducible first | exact HI800.out | apply IsS72.alloc | apply IsS72.drewN | apply IsS72.drew | apply IsS72.set_1 | apply IsS72.set_2) | exact HI800.out)) (zqR HO803.out) (by decide)) (fun _ h_ => h_.2)); (case side4 => exact (Kd.R_reads' HO803.out).2.1); rintro e w13 ⟨rfl, hi, hb, hk⟩; refine ⟨_, rfl, ?_⟩; have n0_ := Aside0.mk (Kd.R_mono (Kd.R_keep (IsS72.apart (show IsS72 w _ gb800 l0 t804 t805 from by repeat (first | (with_reducible first | exact HI800.out | apply IsS72.alloc | apply IsS72.drewN | apply IsS72.drew | apply IsS72.set_1 | apply IsS72.set_2) | exact HI800.out)) (zqR HO803.out) (by decide)) hk (fun _ h => h.2)) (fun _ h => h.1)); have n1_ := Aside0.mk (hb); have n2_ := Aside0.mk (hi); clear HO803; clear HB; clear HI800; have HO803 := n0_; have HB := n1_; have HI800 := n2_; clear n0_ n1_ n2_; (try clear hb); (try clear hb2); (try clear hk); (try clear hi)) | ((with_reducible refine gate_callee (f := 56) rfl ?_); refine goesL_ (some 19) rfl rfl Try.func56 (by kernel_rfl) rfl #[.pointer (some ⟨gb800, 0, none⟩), .int .i64 60] rfl zq1 ?_; (with_reducible refine (spec_l1Cur_pick.calls gb800 l0 t807 t808 60 t809 t810 t811 w _ ?side1 ?side2 A4.out).mono ?_); (case side1 => repeat (first | (with_reducible first | exact HI800.out | apply IsS72.alloc | apply IsS72.drewN | apply IsS72.drew | apply IsS72.set_1 | apply IsS72.set_2) | exact HI800.out)); (case side2 => repeat (first | (with_reducible first | exact HB.out | apply below_alloc | apply pw_below_drewN | apply below_drew1 | refine below_set ?_ (IsS72.ge HI800.out)) | exact HB.out)); rintro e w14 ⟨rfl, hi, hb, hk⟩; refine ⟨_, rfl, ?_⟩; have n0_ := Aside0.mk (Kd.R_mono (Kd.R_keep (IsS72.apart (show IsS72 w _ gb800 l0 t807 t808 from by repeat (first | (with_reducible first | exact HI800.out | apply IsS72.alloc | apply IsS72.drewN | apply IsS72.drew | apply IsS72.set_1 | apply IsS72.set_2) | exact HI800.out)) (zqR HO803.out) (by decide)) hk (fun _ h => h.2)) (fun _ h => h.1)); have n1_ := Aside0.mk (hb); have n2_ := Aside0.mk (hi); clear HO803; clear HB; clear HI800; have HO803 := n0_; have HB := n1_; have HI800 := n2_; clear n0_ n1_ n2_; (try clear hb); (try clear hb2); (try clear hk); (try clear hi)) | ((with_reducible refine gate_callee (f := 57) rfl ?_); refine goesL_ (some 22) rfl rfl Try.func57 (by kernel_rfl) rfl #[.slice Ao12 t801.length co12, .int .i64 t806] rfl zq1 ?_; (with_reducible refine (spec_l14Find.calls k _ _ t801 t806 t812 _ ?side1 ?side2 A5.out).mono ?_); (case side1 => repeat (first | exact (Kd.R_reads' HO803.out).2.2 | (with_reducible refine Kd.C_alloc ?_ _) | (with_reducible refine Kd.C_drewN ?_ _) | (with_reducible refine Kd.C_drew ?_))); (case side2 => exact (Kd.R_reads' HO803.out).2.1); rintro e w' ⟨rfl, ⟨nd, rfl⟩⟩; refine ⟨_, rfl, ?_⟩))
    (try (rw [drewN_self w14]; generalize hq_ : World.drewN w14 _ = w14; have n0_ : Aside0 (Kd.R k31 31 w14 w.heap.size (fun _ => True) (.slice Ao12 t801.length co12) t801) := ⟨by rw [← hq_]; exact (zqR HO803.out)⟩; have n1_ : Aside0 (IsS72 w w14 gb800 l0 t810 t811) := ⟨by rw [← hq_]; exact (by repeat (first | (with_reducible first | exact HI800.out | apply IsS72.alloc | apply IsS72.drewN | apply IsS72.drew | apply IsS72.set_1 | apply IsS72.set_2) | exact HI800.out))⟩; have n2_ : Aside0 (Below w.heap.size w w14) := ⟨by rw [← hq_]; exact zq30⟩; clear HO803 HI800 HB hq_; have HO803 := n0_; have HI800 := n1_; have HB := n2_; clear n0_ n1_ n2_))
    have n0_ := Aside0.mk (Kd.R_drew HO803.out)
    have n1_ := Aside0.mk (IsS72.drew HI800.out)
    have n2_ := Aside0.mk (below_drew1 HB.out)
    clear HO803
    clear HI800
    clear HB
    have HO803 := n0_
    have HI800 := n1_
    have HB := n2_
    clear n0_ n1_ n2_
    have p813 : 0 ≤ (t812 : Int) := of_decide_eq_true zq2
    have q813 : t812 < (t801.length : Int) := of_decide_eq_true zq2
    obtain ⟨ad813, e813, hx813_0, hx813_1, hx813_2, hx813_3, hx813_4, hx813_5⟩ := at_T31 (Kd.R_reads' HO803.out).2.2 t812 p813 q813
    cases e813
    replace p813 := eq_true p813
    replace q813 := eq_true q813
    refine start_ (n := 10) (S := fun w' => w'.cell? (ad813.add ((t812).toNat * 6)) = some (.int .i64 ((rd_T31 t801 t812).f0)) ∧ w'.cell? ⟨(ad813.add ((t812).toNat * 6)).block, (ad813.add ((t812).toNat * 6)).off + 1, none⟩ = some (.int .i64 ((rd_T31 t801 t812).f1)) ∧ w'.cell? ⟨(ad813.add ((t812).toNat * 6)).block, (ad813.add ((t812).toNat * 6)).off + 2, none⟩ = some (.int .i64 ((rd_T31 t801 t812).f2)) ∧ w'.cell? ⟨(ad813.add ((t812).toNat * 6)).block, (ad813.add ((t812).toNat * 6)).off + 3, none⟩ = some (.int .i64 ((rd_T31 t801 t812).f3)) ∧ w'.cell? ⟨(ad813.add ((t812).toNat * 6)).block, (ad813.add ((t812).toNat * 6)).off + 4, none⟩ = some (.int .i64 ((rd_T31 t801 t812).f4)) ∧ w'.cell? ⟨(ad813.add ((t812).toNat * 6)).block, (ad813.add ((t812).toNat * 6)).off + 5, none⟩ = some (.int .i64 ((rd_T31 t801 t812).f5))) (ds := []) #[false, false, false, false, false, false, false, false, false, false] (by kernel_rfl) rfl rfl ⟨hx813_0, hx813_1, hx813_2, hx813_3, hx813_4, hx813_5⟩ (fun hHeld => ?_); refine with_tabW spec_DrawExtendWarning.tab7 spec_DrawExtendWarning.bits7 (fun HT_ HW_ => ?_)
    generalize w14.drew = w15 at HO803 HI800 HB hx813_0 hx813_1 hx813_2 hx813_3 hx813_4 hx813_5 hHeld ⊢
    refine pure_ (i := 0) (N := some 25) (v := ?_) (a' := ?_) #[true, false, false, false, false, false, false, false, false, false] rfl rfl (any_of HT_.out (by kernel_rfl)) (fun _ _ _ h => h) (Or.inl ⟨by rfl, ?_⟩) ?_ ?_
    rotate_left
    · exact zqB
    rotate_left
    · exact zqA
    refine pure_ (i := 1) (N := some 26) (v := ?_) (a' := ?_) #[true, true, false, false, false, false, false, false, false, false] rfl rfl (any_of HT_.out (by kernel_rfl)) (fun _ _ _ h => h) (Or.inl ⟨by rfl, ?_⟩) ?_ ?_
    rotate_left
    · exact zqB
    rotate_left
    · exact zqA
    refine pure_ (i := 2) (N := some 27) (v := ?_) (a' := ?_) #[true, true, true, false, false, false, false, false, false, false] rfl rfl (any_of HT_.out (by kernel_rfl)) (fun _ _ _ h => h) (Or.inl ⟨by rfl, ?_⟩) ?_ ?_
    rotate_left
    · exact zqB
    rotate_left
    · exact zqA
    refine pure_ (i := 3) (N := some 28) (v := ?_) (a' := ?_) #[true, true, true, true, false, false, false, false, false, false] rfl rfl (any_of HT_.out (by kernel_rfl)) (fun _ _ _ h => h) (Or.inl ⟨by rfl, ?_⟩) ?_ ?_
    rotate_left
    · exact zqB
    rotate_left
    · exact zqA
    refine pure_ (i := 5) (N := some 30) (v := ?_) (a' := ?_) #[true, true, true, true, false, true, false, false, false, false] rfl rfl (any_of HT_.out (by kernel_rfl)) (fun _ _ _ h => h) (Or.inl ⟨by rfl, ?_⟩) ?_ ?_
    rotate_left
    · exact zqB
    rotate_left
    · exact zqA
    refine take_ (i := 4) (N := some 29) (v := ?_) (a' := ?_) #[true, true, true, true, true, true, false, false, false, false] rfl rfl (take_ofW HT_.out HW_.out (by kernel_rfl)) (fun _ _ _ h => h) (Or.inl ⟨by rfl, ?_⟩) hHeld ?_ ?_
    rotate_left
    ·
     rintro w' ⟨s0, s1, s2, s3, s4, s5⟩
     go_simp
     with_reducible rfl
    rotate_left
    · exact zqA
    refine one_ (i := 6) (N := some 31) #[true, true, true, true, true, true, true, false, false, false] rfl rfl (one_of HT_.out (by kernel_rfl)) (by decide) (fun K hK => ?_)
    refine Kd.R_lit_step (Kd.int .i64) _ 3 ?hg (N := 31) ?hd (xs := ([1, 2, 5, 0, 100, 230] : List Int)) (inner := [.int .i64 1, .int .i64 2, .int .i64 5, .int .i64 0, .int .i64 100, .int .i64 230]) (ok := fun _ => True) (okp := fun _ => True) ?hr ?hp (fun _ hk => hk) trivial (Below.refl _ _) (Nat.le_refl _) (by simp) ?_; (case hd => rfl); (case hg => rfl); (case hr => first | (go_simp; done) | (go_simp; rfl)); (case hp => exact (Reps.one (show Kd.M (Kd.int .i64) _ _ _ 1 [.int .i64 1] from rfl) (Reps.one (show Kd.M (Kd.int .i64) _ _ _ 2 [.int .i64 2] from rfl) (Reps.one (show Kd.M (Kd.int .i64) _ _ _ 5 [.int .i64 5] from rfl) (Reps.one (show Kd.M (Kd.int .i64) _ _ _ 0 [.int .i64 0] from rfl) (Reps.one (show Kd.M (Kd.int .i64) _ _ _ 100 [.int .i64 100] from rfl) (Reps.one (show Kd.M (Kd.int .i64) _ _ _ 230 [.int .i64 230] from rfl) (Reps.none _ _))))))))
    intro v815 w16 ho17 hb hg_ hnew_
    have HS0_ := (hb.cell (World.block_lt_of_cell? _ _ (hHeld.1))).trans (hHeld.1)
    have HS1_ := (hb.cell (World.block_lt_of_cell? _ _ (hHeld.2.1))).trans (hHeld.2.1)
    have HS2_ := (hb.cell (World.block_lt_of_cell? _ _ (hHeld.2.2.1))).trans (hHeld.2.2.1)
    have HS3_ := (hb.cell (World.block_lt_of_cell? _ _ (hHeld.2.2.2.1))).trans (hHeld.2.2.2.1)
    have HS4_ := (hb.cell (World.block_lt_of_cell? _ _ (hHeld.2.2.2.2.1))).trans (hHeld.2.2.2.2.1)
    have HS5_ := (hb.cell (World.block_lt_of_cell? _ _ (hHeld.2.2.2.2.2))).trans (hHeld.2.2.2.2.2)
    clear hg_ hnew_
    (first | rw [← Ny814.out] at ho17 | (simp only [Int.reduceToNat] at ho17; rw [← Ny814.out] at ho17))
    have n0_ := Aside0.mk (Kd.R_below (zqR HO803.out) hb)
    have n1_ := Aside0.mk (Kd.R_lower ho17 (below_size zq30))
    have n2_ := Aside0.mk (IsS72.below (by repeat (first | (with_reducible first | exact HI800.out | apply IsS72.alloc | apply IsS72.drewN | apply IsS72.drew | apply IsS72.set_1 | apply IsS72.set_2) | exact HI800.out)) hb)
    have n3_ := Aside0.mk (below_step zq30 hb)
    clear HO803
    clear HI800
    clear HB
    have HO803 := n0_
    have HO816 := n1_
    have HI800 := n2_
    have HB := n3_
    clear n0_ n1_ n2_ n3_
    clear hb ho17
    obtain ⟨Ao18, co18, eo18⟩ := Kd.R_slice HO816.out
    (first | subst eo18 | (injection eo18 with f1_ f2_ f3_; have f4_ := f1_.symm; have f5_ := f3_.symm; clear f1_ f2_ f3_; subst f4_; subst f5_))
    refine hK.out _ _ ⟨HS0_, HS1_, HS2_, HS3_, HS4_, HS5_⟩ (fun hHeld => ?_)
    clear hK K
    refine norm_ (a' := ?_) ?_ ?_
    rotate_left
    ·
     show Act.put _ (some 31) _ = _
     simp only [Act.put, List.setIfInBounds_toArray, List.set_cons_zero, List.set_cons_succ, i64_w, i32_w]
     rfl
    refine one_ (i := 7) (N := some 32) #[true, true, true, true, true, true, true, true, false, false] rfl rfl (one_of HT_.out (by kernel_rfl)) (by decide) (fun K hK => ?_)
    refine goes_ Try.func58 (by kernel_rfl) rfl #[.pointer (some ⟨gb800, 0, none⟩), .slice Ao18 y814.length co18] (by rfl) rfl rfl zq1 ?_
    with_reducible refine (spec_l1Cur_among.calls gb800 l0 t810 t811 _ _ y814 t817 t818 t819 w _ ?side1 ?side2 ?side3 ?side4 ?side5 A9.out).mono ?_
    (case side1 => repeat (first | (with_reducible first | exact HI800.out | apply IsS72.alloc | apply IsS72.drewN | apply IsS72.drew | apply IsS72.set_1 | apply IsS72.set_2) | exact HI800.out))
    (case side2 => repeat (first | (with_reducible first | exact HB.out | apply below_alloc | apply pw_below_drewN | apply below_drew1 | refine below_set ?_ (IsS72.ge HI800.out)) | exact HB.out))
    (case side3 => repeat (first | exact (Kd.R_reads' HO816.out).2.2 | (with_reducible refine Kd.C_alloc ?_ _) | (with_reducible refine Kd.C_drewN ?_ _) | (with_reducible refine Kd.C_drew ?_)))
    (case side4 => exact (Kd.R_reads' HO816.out).2.1)
    (case side5 => exact far_slice (IsS72.own_ne HI800.out HO816.out (by decide)))
    rintro e w19 ⟨rfl, hi, hb, hk⟩
    have HS0_ := keep_cell hk (hHeld.1) (by first | (rw [add_block]; exact Kd.own_blk (IsS72.own_ne HI800.out HO803.out (by decide))) | (show (Addr.add _ _).block ≠ _; rw [add_block]; exact Kd.own_blk (IsS72.own_ne HI800.out HO803.out (by decide))) | exact Kd.own_blk (IsS72.own_ne HI800.out HO803.out (by decide)))
    have HS1_ := keep_cell hk (hHeld.2.1) (by first | (rw [add_block]; exact Kd.own_blk (IsS72.own_ne HI800.out HO803.out (by decide))) | (show (Addr.add _ _).block ≠ _; rw [add_block]; exact Kd.own_blk (IsS72.own_ne HI800.out HO803.out (by decide))) | exact Kd.own_blk (IsS72.own_ne HI800.out HO803.out (by decide)))
    have HS2_ := keep_cell hk (hHeld.2.2.1) (by first | (rw [add_block]; exact Kd.own_blk (IsS72.own_ne HI800.out HO803.out (by decide))) | (show (Addr.add _ _).block ≠ _; rw [add_block]; exact Kd.own_blk (IsS72.own_ne HI800.out HO803.out (by decide))) | exact Kd.own_blk (IsS72.own_ne HI800.out HO803.out (by decide)))
    have HS3_ := keep_cell hk (hHeld.2.2.2.1) (by first | (rw [add_block]; exact Kd.own_blk (IsS72.own_ne HI800.out HO803.out (by decide))) | (show (Addr.add _ _).block ≠ _; rw [add_block]; exact Kd.own_blk (IsS72.own_ne HI800.out HO803.out (by decide))) | exact Kd.own_blk (IsS72.own_ne HI800.out HO803.out (by decide)))
    have HS4_ := keep_cell hk (hHeld.2.2.2.2.1) (by first | (rw [add_block]; exact Kd.own_blk (IsS72.own_ne HI800.out HO803.out (by decide))) | (show (Addr.add _ _).block ≠ _; rw [add_block]; exact Kd.own_blk (IsS72.own_ne HI800.out HO803.out (by decide))) | exact Kd.own_blk (IsS72.own_ne HI800.out HO803.out (by decide)))
    have HS5_ := keep_cell hk (hHeld.2.2.2.2.2) (by first | (rw [add_block]; exact Kd.own_blk (IsS72.own_ne HI800.out HO803.out (by decide))) | (show (Addr.add _ _).block ≠ _; rw [add_block]; exact Kd.own_blk (IsS72.own_ne HI800.out HO803.out (by decide))) | exact Kd.own_blk (IsS72.own_ne HI800.out HO803.out (by decide)))
    refine ⟨_, rfl, ?_⟩
    have n0_ := Aside0.mk (Kd.R_mono (Kd.R_keep (IsS72.apart (show IsS72 w _ gb800 l0 t810 t811 from by repeat (first | (with_reducible first | exact HI800.out | apply IsS72.alloc | apply IsS72.drewN | apply IsS72.drew | apply IsS72.set_1 | apply IsS72.set_2) | exact HI800.out)) (zqR HO803.out) (by decide)) hk (fun _ h => h.2)) (fun _ h => h.1))
    have n1_ := Aside0.mk (Kd.R_mono (Kd.R_keep (IsS72.apart (show IsS72 w _ gb800 l0 t810 t811 from by repeat (first | (with_reducible first | exact HI800.out | apply IsS72.alloc | apply IsS72.drewN | apply IsS72.drew | apply IsS72.set_1 | apply IsS72.set_2) | exact HI800.out)) (zqR HO816.out) (by decide)) hk (fun _ h => h.2)) (fun _ h => h.1))
    have n2_ := Aside0.mk (hb)
    have n3_ := Aside0.mk (hi)
    clear HO803
    clear HO816
    clear HB
    clear HI800
    have HO803 := n0_
    have HO816 := n1_
    have HB := n2_
    have HI800 := n3_
    clear n0_ n1_ n2_ n3_
    (try clear hb)
    (try clear hb2)
    (try clear hk)
    (try clear hi)
    refine hK.out _ _ ⟨HS0_, HS1_, HS2_, HS3_, HS4_, HS5_⟩ (fun hHeld => ?_)
    clear hK K
    refine norm_ (a' := ?_) ?_ ?_
    rotate_left
    ·
     show Act.put _ (some 32) _ = _
     simp only [Act.put, List.setIfInBounds_toArray, List.set_cons_zero, List.set_cons_succ, i64_w, i32_w]
     rfl
    refine pure_ (i := 8) (N := some 33) (v := ?_) (a' := ?_) #[true, true, true, true, true, true, true, true, true, false] rfl rfl (any_of HT_.out (by kernel_rfl)) (fun _ _ _ h => h) (Or.inl ⟨by rfl, ?_⟩) ?_ ?_
    rotate_left
    · exact zqB
    rotate_left
    · exact zqA
    refine pure_ (i := 9) (N := some 8) (v := ?_) (a' := ?_) #[true, true, true, true, true, true, true, true, true, true] rfl rfl (any_of HT_.out (by kernel_rfl)) (fun _ _ _ h => h) (Or.inl ⟨by rfl, ?_⟩) ?_ ?_
    rotate_left
    · exact zqB
    rotate_left
    · exact zqA
    refine done_ (done_of HT_.out (by kernel_rfl)) ?_
    try go_wp2
    go_ret3
    exact ⟨_, by first | rfl | (simp [errW_none, errW_some] <;> rfl) | (simp [*, errW_none, errW_some] <;> rfl), by (with_reducible repeat (first | apply Kd.R_alloc | apply Kd.R_drewN | apply Kd.R_drew)); exact HO803.out, by repeat (first | (with_reducible first | exact HB.out | apply below_alloc | apply pw_below_drewN | apply below_drew1 | refine below_set ?_ (IsS72.ge HI800.out)) | exact HB.out)⟩
   ·
    rw [if_neg c8] at H
    exact absurd H (by simp)
  ·
   rw [if_neg c7] at H
   exact absurd H (by simp)
 ·
  rw [if_neg c6] at H
  have c6b0 : decide (0 ≤ t812) = false := decide_eq_false c6
  clear c6
  simp only [Option.some.injEq, Prod.mk.injEq] at H
  obtain ⟨rfl, rfl, rfl⟩ := H
  go_enter Try.func40, Try.ntmps40
  go_wp2_with (first | ((with_reducible refine gate_dst (N := 12) rfl ?_); refine box_event ?hg (N := 12) ?hd (cs := #[.slice A0 l0.length c0, .int .i64 0, .int .u64 0]) (t := 72) ?hr ?_; (case hd => rfl); (case hg => rfl); (case hr => first | (go_simp; done) | (go_simp; rfl)); intro gb800 hg w20 hbox hb; have n0_ := Aside0.mk (below_step zq0 hb); have n1_ := Aside0.mk ((show IsS72 w w20 gb800 l0 0 0 from ⟨_, _, hbox, (by rw [hg]; exact (below_size zq0) : w.heap.size ≤ gb800), HR0.out⟩)); have n2_ := Aside0.mk ((by rw [hg]; exact (below_size zq0) : w.heap.size ≤ gb800)); have n3_ := Aside0.mk ((by rw [hg]; exact (below_size zq0) : w.heap.size ≤ gb800)); clear HB; have HB := n0_; have HI800 := n1_; have GW800 := n2_; have GE800 := n3_; clear n0_ n1_ n2_ n3_; clear hb hbox hg) | ((with_reducible refine gate_callee (f := 54) rfl ?_); refine goesL_ (some 14) rfl rfl Try.func54 (by kernel_rfl) rfl #[.pointer (some ⟨gb800, 0, none⟩)] rfl zq1 ?_; (with_reducible refine (spec_l1Cur_warnings.calls k gb800 l0 0 0 t801 t804 t805 w _ ?side1 ?side2 A2.out).mono ?_); (case side1 => repeat (first | (with_reducible first | exact HI800.out | apply IsS72.alloc | apply IsS72.drewN | apply IsS72.drew | apply IsS72.set_1 | apply IsS72.set_2) | exact HI800.out)); (case side2 => repeat (first | (with_reducible first | exact HB.out | apply below_alloc | apply pw_below_drewN | apply below_drew1 | refine below_set ?_ (IsS72.ge HI800.out)) | exact HB.out)); rintro e w21 ⟨v802, rfl, ho0, hi, hb, hk⟩; refine ⟨_, rfl, ?_⟩; have n0_ := Aside0.mk (Kd.R_lower ho0 (below_size zq30)); have n1_ := Aside0.mk (hb); have n2_ := Aside0.mk (hi); clear HB; clear HI800; have HO803 := n0_; have HB := n1_; have HI800 := n2_; clear n0_ n1_ n2_; (try clear hb); (try clear hb2); (try clear hk); (try clear hi); (try clear ho0); obtain ⟨Ao22, co22, eo22⟩ := Kd.R_slice HO803.out; subst eo22) | ((with_reducible refine gate_callee (f := 55) rfl ?_); refine goesL_ (some 17) rfl rfl Try.func55 (by kernel_rfl) rfl #[.pointer (some ⟨gb800, 0, none⟩), .slice Ao22 t801.length co22] rfl zq1 ?_; (with_reducible refine (spec_l1Cur_idOf.calls k gb800 l0 t804 t805 _ _ t801 t806 t807 t808 w _ ?side1 ?side2 ?side3 ?side4 A3.out).mono ?_); (case side1 => repeat (first | (with_reducible first | exact HI800.out | apply IsS72.alloc | apply IsS72.drewN | apply IsS72.drew | apply IsS72.set_1 | apply IsS72.set_2) | exact HI800.out)); (case side2 => repeat (first | (with_reducible first | exact HB.out | apply below_alloc | apply pw_below_drewN | apply below_drew1 | refine below_set ?_ (IsS72.ge HI800.out)) | exact HB.out)); (case side3 => exact Kd.C_foot_own (IsS72.apart (show IsS72 w _ gb800 l0 t804 t805 from by repeat (first | (with_reducible first | exact HI800.out | apply IsS72.alloc | apply IsS72.drewN | apply IsS72.drew | apply IsS72.set_1 | apply IsS72.set_2) | exact HI800.out)) (zqR HO803.out) (by decide)) (fun _ h_ => h_.2)); (case side4 => exact (Kd.R_reads' HO803.out).2.1); rintro e w23 ⟨rfl, hi, hb, hk⟩; refine ⟨_, rfl, ?_⟩; have n0_ := Aside0.mk (Kd.R_mono (Kd.R_keep (IsS72.apart (show IsS72 w _ gb800 l0 t804 t805 from by repeat (first | (with_reducible first | exact HI800.out | apply IsS72.alloc | apply IsS72.drewN | apply IsS72.drew | apply IsS72.set_1 | apply IsS72.set_2) | exact HI800.out)) (zqR HO803.out) (by decide)) hk (fun _ h => h.2)) (fun _ h => h.1)); have n1_ := Aside0.mk (hb); have n2_ := Aside0.mk (hi); clear HO803; clear HB; clear HI800; have HO803 := n0_; have HB := n1_; have HI800 := n2_; clear n0_ n1_ n2_; (try clear hb); (try clear hb2); (try clear hk); (try clear hi)) | ((with_reducible refine gate_callee (f := 56) rfl ?_); refine goesL_ (some 19) rfl rfl Try.func56 (by kernel_rfl) rfl #[.pointer (some ⟨gb800, 0, none⟩), .int .i64 60] rfl zq1 ?_; (with_reducible refine (spec_l1Cur_pick.calls gb800 l0 t807 t808 60 t809 t810 t811 w _ ?side1 ?side2 A4.out).mono ?_); (case side1 => repeat (first | (with_reducible first | exact HI800.out | apply IsS72.alloc | apply IsS72.drewN | apply IsS72.drew | apply IsS72.set_1 | apply IsS72.set_2) | exact HI800.out)); (case side2 => repeat (first | (with_reducible first | exact HB.out | apply below_alloc | apply pw_below_drewN | apply below_drew1 | refine below_set ?_ (IsS72.ge HI800.out)) | exact HB.out)); rintro e w24 ⟨rfl, hi, hb, hk⟩; refine ⟨_, rfl, ?_⟩; have n0_ := Aside0.mk (Kd.R_mono (Kd.R_keep (IsS72.apart (show IsS72 w _ gb800 l0 t807 t808 from by repeat (first | (with_reducible first | exact HI800.out | apply IsS72.alloc | apply IsS72.drewN | apply IsS72.drew | apply IsS72.set_1 | apply IsS72.set_2) | exact HI800.out)) (zqR HO803.out) (by decide)) hk (fun _ h => h.2)) (fun _ h => h.1)); have n1_ := Aside0.mk (hb); have n2_ := Aside0.mk (hi); clear HO803; clear HB; clear HI800; have HO803 := n0_; have HB := n1_; have HI800 := n2_; clear n0_ n1_ n2_; (try clear hb); (try clear hb2); (try clear hk); (try clear hi)) | ((with_reducible refine gate_callee (f := 57) rfl ?_); refine goesL_ (some 22) rfl rfl Try.func57 (by kernel_rfl) rfl #[.slice Ao22 t801.length co22, .int .i64 t806] rfl zq1 ?_; (with_reducible refine (spec_l14Find.calls k _ _ t801 t806 t812 _ ?side1 ?side2 A5.out).mono ?_); (case side1 => repeat (first | exact (Kd.R_reads' HO803.out).2.2 | (with_reducible refine Kd.C_alloc ?_ _) | (with_reducible refine Kd.C_drewN ?_ _) | (with_reducible refine Kd.C_drew ?_))); (case side2 => exact (Kd.R_reads' HO803.out).2.1); rintro e w' ⟨rfl, ⟨nd, rfl⟩⟩; refine ⟨_, rfl, ?_⟩))
  go_ret3
  exact ⟨_, by first | rfl | (simp [errW_none, errW_some] <;> rfl) | (simp [*, errW_none, errW_some] <;> rfl), by (with_reducible repeat (first | apply Kd.R_alloc | apply Kd.R_drewN | apply Kd.R_drew)); exact HO803.out, by repeat (first | (with_reducible first | exact HB.out | apply below_alloc | apply pw_below_drewN | apply below_drew1 | refine below_set ?_ (IsS72.ge HI800.out)) | exact HB.out)⟩

end Go.Proofs.Ytklepiechbnenaa.Q
