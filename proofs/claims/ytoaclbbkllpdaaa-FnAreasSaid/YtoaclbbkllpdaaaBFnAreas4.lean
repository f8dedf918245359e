/- Texts of this seat, put together: Qf7, Qf18, Qf8, Qf56, Qf43, Qf26, Qf9. -/
import Derived.Test.YtoaclbbkllpdaaaZFnAreas
import Derived.Test.YtoaclbbkllpdaaaBFnAreas0
import Derived.Test.YtoaclbbkllpdaaaBFnAreas2
import Derived.Test.YtoaclbbkllpdaaaBFnAreas3
namespace Go.Proofs.Ytoaclbbkllpdaaa.Q
open Go.RowKit Go.Proofs.YtoaclbbkllpdaaaW.PrintWords Go.Proofs.YtoaclbbkllpdaaaW.PrintLast Go.Proofs.YtoaclbbkllpdaaaW.PrintMore
attribute [local go_sem] max2_int min2_int max_two min_two max_three min_three max_four min_four   -- for this text's walks alone
set_option linter.unusedVariables false
set_option linter.unusedSimpArgs false

/-! ### spec_MergeAreas: function 7 -/
mutual
def spec_MergeAreas.j0 : Nat → Int → Int → Bool → Int → Int → List Int → Option (Int × Int × List Int × Bool)
 | 0, _, _, _, _, _, _ => none
 | k + 1, x1, x2, x24, x263000, x263001, x263002 => if x24 = true then (some (0, 0, ([] : List Int), false)) else ((spec_l1Own.f x263002).bind fun t266 => (spec_MergeAreas.l0 k x1 x2 0 x263000 x263001 t266))
def spec_MergeAreas.l0 : Nat → Int → Int → Int → Int → Int → List Int → Option (Int × Int × List Int × Bool)
 | 0, _, _, _, _, _, _ => none
 | k + 1, x1, x2, x9, x270000, x270001, x270002 => if x9 < (x270002.length : Int) then (if 0 ≤ x9 then (if (rd x270002 x9) = x2 then (spec_MergeAreas.l0 k x1 x2 (wrap64 (x9 + 1)) x270000 x270001 (x270002.set (x9 : Int).toNat x1)) else (spec_MergeAreas.l0 k x1 x2 (wrap64 (x9 + 1)) x270000 x270001 x270002)) else (none)) else (some (x270000, x270001, x270002, true))
end
def spec_MergeAreas.f (k : Nat) (a0_0 : Int) (a0_1 : Int) (l0_2 : List Int) (a1 : Int) (a2 : Int) : Option (Int × Int × List Int × Bool) := (spec_l13There.f k a0_0 a0_1 l0_2 a1).bind fun t264 => (if t264 = true then ((spec_l13There.f k a0_0 a0_1 l0_2 a2).bind fun t265 => (if t265 = true then (spec_MergeAreas.j0 k a1 a2 (a1 == a2) a0_0 a0_1 l0_2) else (spec_MergeAreas.j0 k a1 a2 true a0_0 a0_1 l0_2))) else (spec_MergeAreas.j0 k a1 a2 true a0_0 a0_1 l0_2))
def spec_MergeAreas.T3 : Bool × List (List Nat × List Nat) := (true, [([], []), ([0], [0]), ([], []), ([2], [2]), ([], []), ([4], [4]), ([5], [5]), ([1, 3, 6], [1, 3, 6]), ([], []), ([8, 7, 6, 0, 1, 2, 3, 4, 5, 6, 7, 8], [7, 8])])
def spec_MergeAreas.B3 : List Nat := [0, 1, 0, 4, 0, 16, 48, 127, 0, 511]
theorem spec_MergeAreas.tab3 : rtab .any (opsOf Try.f7 3) = spec_MergeAreas.T3 := by kernel_rfl
theorem spec_MergeAreas.bits3 : waitsOk spec_MergeAreas.T3.2 spec_MergeAreas.B3 = true := by kernel_rfl
set_option maxHeartbeats 8000000 in
set_option maxRecDepth 100000 in
theorem spec_MergeAreas.calls (k : Nat) (a0_0 : Int) (a0_1 : Int) (A0_2 : Option Addr) (c0_2 : Nat) (l0_2 : List Int) (a1 : Int) (a2 : Int) (r1 : Int) (r2 : Int) (r3 : List Int) (r4 : Bool) (w : World) (hr0_2 : Kd.C (Kd.int .i64) w A0_2 l0_2.length l0_2) (hc0_2 : l0_2.length ≤ c0_2) (h : spec_MergeAreas.f k a0_0 a0_1 l0_2 a1 a2 = some (r1, r2, r3, r4)) :
  Calls Try.prog 7 #[.agg #[.int .i64 a0_0, .int .i64 a0_1, .slice A0_2 l0_2.length c0_2], .int .i64 a1, .int .i64 a2] w fun e w' => ∃ v2_ : Value, e = .returned (.tuple #[.agg #[.int .i64 r1, .int .i64 r2, v2_], .bool r4]) ∧ Kd.R (Kd.int .i64) 3 w' w.heap.size (fun _ => True) v2_ r3 ∧ Below w.heap.size w w' := by
 have hu26 := Try.underlying26
 have HR0_2 := Aside0.mk hr0_2
 have HC0_2 := Aside0.mk hc0_2
 clear hr0_2 hc0_2
 have HB := Aside0.mk (Below.refl w.heap.size w)
 have H : ((spec_l13There.f k a0_0 a0_1 l0_2 a1).bind fun t264 => (if t264 = true then ((spec_l13There.f k a0_0 a0_1 l0_2 a2).bind fun t265 => (if t265 = true then (spec_MergeAreas.j0 k a1 a2 (a1 == a2) a0_0 a0_1 l0_2) else (spec_MergeAreas.j0 k a1 a2 true a0_0 a0_1 l0_2))) else (spec_MergeAreas.j0 k a1 a2 true a0_0 a0_1 l0_2))) = some (r1, r2, r3, r4) := h
 clear h
 have HC4 := Aside0.mk H
 clear H
 go_enter Try.func7, Try.ntmps7
 go_upto_region 1 with (first | ((with_reducible refine gate_dst (N := 3) rfl ?_); refine box_event ?hg (N := 3) ?hd (cs := #[.int .i64 a0_0, .int .i64 a0_1, .slice A0_2 l0_2.length c0_2]) (t := 26) ?hr ?_; (case hd => rfl); (case hg => rfl); (case hr => exact zqS); intro gb262 hg w5 hbox hb; have BK262 := Aside0.mk (hbox); have GW262 := Aside0.mk ((by rw [hg]; exact (below_size zq0) : w.heap.size ≤ gb262)); replace HB := Aside0.mk (below_step zq0 hb); have GE262 := GW262; clear hb hbox hg) | ((with_reducible refine gate_dst (N := 6) rfl ?_); refine box_event ?hg (N := 6) ?hd (cs := #[.int .i64 0, .int .i64 0, .slice none 0 0]) (t := 26) ?hr ?_; (case hd => rfl); (case hg => rfl); (case hr => exact zqS); intro gb263 hg w6 hbox hb; have BK263 := Aside0.mk (hbox); have GW263 := Aside0.mk ((by rw [hg]; exact (below_size zq48) : w.heap.size ≤ gb263)); replace HB := Aside0.mk (below_step zq48 hb); have GE263 := GW263; have NB262_263 := Aside0.mk ((by rw [hg]; exact Nat.ne_of_lt (blk_lt (g := gb262) (o := .cells #[.int .i64 a0_0, .int .i64 a0_1, .slice A0_2 l0_2.length c0_2] 26 (0, 0)) (zqK BK262.out)) : gb262 ≠ gb263)); have NB263_262 := Aside0.mk ((by rw [hg]; exact Nat.ne_of_gt (blk_lt (g := gb262) (o := .cells #[.int .i64 a0_0, .int .i64 a0_1, .slice A0_2 l0_2.length c0_2] 26 (0, 0)) (zqK BK262.out)) : gb263 ≠ gb262)); replace BK262 := Aside0.mk (blk_below (g := gb262) (o := .cells #[.int .i64 a0_0, .int .i64 a0_1, .slice A0_2 l0_2.length c0_2] 26 (0, 0)) (zqK BK262.out) hb); clear hb hbox hg))
 (try simp only [Act.put, List.setIfInBounds_toArray, List.set_cons_zero, List.set_cons_succ])
 go_cut [24] (fun v24 wc => ∃ (kq : Nat) (x24_3 : Bool), v24 = .bool x24_3 ∧ Aside0 (spec_MergeAreas.j0 kq a1 a2 x24_3 a0_0 a0_1 l0_2 = some (r1, r2, r3, r4)) ∧ Aside0 (kq ≤ k) ∧ Aside0 (wc.heap[gb262]? = some (.cells #[.int .i64 a0_0, .int .i64 a0_1, (.slice A0_2 l0_2.length c0_2)] 26 (0, 0))) ∧ Aside0 (wc.heap[gb263]? = some (.cells #[.int .i64 0, .int .i64 0, (.slice none 0 0)] 26 (0, 0))) ∧ Aside0 (Below w.heap.size w wc))
 case first =>
  have H := HC4.out
  clear HC4
  replace H := Option.bind_eq_some_iff.mp H
  obtain ⟨t264, A70, H⟩ := H
  replace H : (if t264 = true then ((spec_l13There.f k a0_0 a0_1 l0_2 a2).bind fun t265 => (if t265 = true then (spec_MergeAreas.j0 k a1 a2 (a1 == a2) a0_0 a0_1 l0_2) else (spec_MergeAreas.j0 k a1 a2 true a0_0 a0_1 l0_2))) else (spec_MergeAreas.j0 k a1 a2 true a0_0 a0_1 l0_2)) = some (r1, r2, r3, r4) := H
  have A7 := Aside0.mk A70
  clear A70
  by_cases c8 : t264 = true
  case neg =>
   replace c8 := Bool.eq_false_iff.mpr c8
   subst c8
   have H1 : (spec_MergeAreas.j0 k a1 a2 true a0_0 a0_1 l0_2) = some (r1, r2, r3, r4) := by rw [if_neg (show ¬ (false = true) by decide)] at H; exact H
   clear H
   have H := H1
   clear H1
   have H' := Aside0.mk H
   clear H
   have hnb21 := NB262_263.out
   have hnc21 := NB263_262.out
   have hcz22_0 := bz BK262.out 0 (.int .i64 a0_0)
   have hcz22_1 := bz BK262.out 1 (.int .i64 a0_1)
   have hcz22_2 := bz BK262.out 2 (.slice A0_2 l0_2.length c0_2)
   have hfz22_0 := blk_frozen BK262.out 0
   have hfz22_1 := blk_frozen BK262.out 1
   have hfz22_2 := blk_frozen BK262.out 2
   go_wp2_with (first | ((with_reducible refine gate_callee (f := 24) rfl ?_); refine goesL_ (some 12) rfl rfl Try.func24 (by kernel_rfl) rfl #[.agg #[.int .i64 a0_0, .int .i64 a0_1, .slice A0_2 l0_2.length c0_2], .int .i64 a1] rfl zq1 ?_; (with_reducible refine (spec_l13There.calls k a0_0 a0_1 _ _ l0_2 a1 false _ ?side1 ?side2 A7.out).mono ?_); (case side1 => exact zqC (Kd.C_below HR0_2.out HB.out)); (case side2 => exact HC0_2.out); rintro e w23 ⟨rfl, hb⟩; refine ⟨_, rfl, ?_⟩; replace BK262 := Aside0.mk (blk_below (g := gb262) (o := .cells #[.int .i64 a0_0, .int .i64 a0_1, .slice A0_2 l0_2.length c0_2] 26 (0, 0)) (zqK BK262.out) hb); replace BK263 := Aside0.mk (blk_below (g := gb263) (o := .cells #[.int .i64 0, .int .i64 0, .slice none 0 0] 26 (0, 0)) (zqK BK263.out) hb); replace HB := Aside0.mk (below_step zq9 hb); (try clear hb); (try clear hb2); (try clear hk); (try clear hi)))
   go_meet
   case rel => exact ⟨_, (true), (by first | rfl | (simp; done) | (simp [*]; done)), H', ⟨by first | omega | exact Nat.le_refl _⟩, ⟨by (with_reducible repeat (first | refine blk_drewN ?_ _ | refine blk_drew ?_ | refine blk_alloc ?_ _)); exact BK262.out⟩, ⟨by (with_reducible repeat (first | refine blk_drewN ?_ _ | refine blk_drew ?_ | refine blk_alloc ?_ _)); exact BK263.out⟩, ⟨zq9⟩⟩
  subst c8
  have H1 : ((spec_l13There.f k a0_0 a0_1 l0_2 a2).bind fun t265 => (if t265 = true then (spec_MergeAreas.j0 k a1 a2 (a1 == a2) a0_0 a0_1 l0_2) else (spec_MergeAreas.j0 k a1 a2 true a0_0 a0_1 l0_2))) = some (r1, r2, r3, r4) := by rw [if_pos rfl] at H; exact H
  clear H
  have H := H1
  clear H1
  replace H := Option.bind_eq_some_iff.mp H
  obtain ⟨t265, A90, H⟩ := H
  replace H : (if t265 = true then (spec_MergeAreas.j0 k a1 a2 (a1 == a2) a0_0 a0_1 l0_2) else (spec_MergeAreas.j0 k a1 a2 true a0_0 a0_1 l0_2)) = some (r1, r2, r3, r4) := H
  have A9 := Aside0.mk A90
  clear A90
  by_cases c10 : t265 = true
  case pos =>
   subst c10
   have H1 : (spec_MergeAreas.j0 k a1 a2 (a1 == a2) a0_0 a0_1 l0_2) = some (r1, r2, r3, r4) := by rw [if_pos rfl] at H; exact H
   clear H
   have H := H1
   clear H1
   have H' := Aside0.mk H
   clear H
   have hnb11 := NB262_263.out
   have hnc11 := NB263_262.out
   have hcz12_0 := bz BK262.out 0 (.int .i64 a0_0)
   have hcz12_1 := bz BK262.out 1 (.int .i64 a0_1)
   have hcz12_2 := bz BK262.out 2 (.slice A0_2 l0_2.length c0_2)
   have hfz12_0 := blk_frozen BK262.out 0
   have hfz12_1 := blk_frozen BK262.out 1
   have hfz12_2 := blk_frozen BK262.out 2
   go_wp2_with (first | ((with_reducible refine gate_callee (f := 24) rfl ?_); refine goesL_ (some 12) rfl rfl Try.func24 (by kernel_rfl) rfl #[.agg #[.int .i64 a0_0, .int .i64 a0_1, .slice A0_2 l0_2.length c0_2], .int .i64 a1] rfl zq1 ?_; (with_reducible refine (spec_l13There.calls k a0_0 a0_1 _ _ l0_2 a1 true _ ?side1 ?side2 A7.out).mono ?_); (case side1 => exact zqC (Kd.C_below HR0_2.out HB.out)); (case side2 => exact HC0_2.out); rintro e w13 ⟨rfl, hb⟩; refine ⟨_, rfl, ?_⟩; replace BK262 := Aside0.mk (blk_below (g := gb262) (o := .cells #[.int .i64 a0_0, .int .i64 a0_1, .slice A0_2 l0_2.length c0_2] 26 (0, 0)) (zqK BK262.out) hb); replace BK263 := Aside0.mk (blk_below (g := gb263) (o := .cells #[.int .i64 0, .int .i64 0, .slice none 0 0] 26 (0, 0)) (zqK BK263.out) hb); replace HB := Aside0.mk (below_step zq9 hb); (try clear hb); (try clear hb2); (try clear hk); (try clear hi); have hcz14_0 := bz BK262.out 0 (.int .i64 a0_0); have hcz14_1 := bz BK262.out 1 (.int .i64 a0_1); have hcz14_2 := bz BK262.out 2 (.slice A0_2 l0_2.length c0_2); have hfz14_0 := blk_frozen BK262.out 0; have hfz14_1 := blk_frozen BK262.out 1; have hfz14_2 := blk_frozen BK262.out 2) | (go_at_call 24; (with_reducible refine (spec_l13There.calls k a0_0 a0_1 _ _ l0_2 a2 true _ ?side1 ?side2 A9.out).mono ?_); (case side1 => exact zqC (Kd.C_below HR0_2.out HB.out)); (case side2 => exact HC0_2.out); rintro e w15 ⟨rfl, hb⟩; replace BK262 := Aside0.mk (blk_below (g := gb262) (o := .cells #[.int .i64 a0_0, .int .i64 a0_1, .slice A0_2 l0_2.length c0_2] 26 (0, 0)) (zqK BK262.out) hb); replace BK263 := Aside0.mk (blk_below (g := gb263) (o := .cells #[.int .i64 0, .int .i64 0, .slice none 0 0] 26 (0, 0)) (zqK BK263.out) hb); replace HB := Aside0.mk (below_step zq9 hb); (try clear hb); (try clear hb2); (try clear hk); (try clear hi)))
   go_meet
   case rel => exact ⟨_, ((a1 == a2)), (by first | rfl | (simp; done) | (simp [*]; done)), H', ⟨by first | omega | exact Nat.le_refl _⟩, ⟨by (with_reducible repeat (first | refine blk_drewN ?_ _ | refine blk_drew ?_ | refine blk_alloc ?_ _)); exact BK262.out⟩, ⟨by (with_reducible repeat (first | refine blk_drewN ?_ _ | refine blk_drew ?_ | refine blk_alloc ?_ _)); exact BK263.out⟩, ⟨zq9⟩⟩
  replace c10 := Bool.eq_false_iff.mpr c10
  subst c10
  have H1 : (spec_MergeAreas.j0 k a1 a2 true a0_0 a0_1 l0_2) = some (r1, r2, r3, r4) := by rw [if_neg (show ¬ (false = true) by decide)] at H; exact H
  clear H
  have H := H1
  clear H1
  have H' := Aside0.mk H
  clear H
  have hnb16 := NB262_263.out
  have hnc16 := NB263_262.out
  have hcz17_0 := bz BK262.out 0 (.int .i64 a0_0)
  have hcz17_1 := bz BK262.out 1 (.int .i64 a0_1)
  have hcz17_2 := bz BK262.out 2 (.slice A0_2 l0_2.length c0_2)
  have hfz17_0 := blk_frozen BK262.out 0
  have hfz17_1 := blk_frozen BK262.out 1
  have hfz17_2 := blk_frozen BK262.out 2
  go_wp2_with (first | ((with_reducible refine gate_callee (f := 24) rfl ?_); refine goesL_ (some 12) rfl rfl Try.func24 (by kernel_rfl) rfl #[.agg #[.int .i64 a0_0, .int .i64 a0_1, .slice A0_2 l0_2.length c0_2], .int .i64 a1] rfl zq1 ?_; (with_reducible refine (spec_l13There.calls k a0_0 a0_1 _ _ l0_2 a1 true _ ?side1 ?side2 A7.out).mono ?_); (case side1 => exact zqC (Kd.C_below HR0_2.out HB.out)); (case side2 => exact HC0_2.out); rintro e w18 ⟨rfl, hb⟩; refine ⟨_, rfl, ?_⟩; replace BK262 := Aside0.mk (blk_below (g := gb262) (o := .cells #[.int .i64 a0_0, .int .i64 a0_1, .slice A0_2 l0_2.length c0_2] 26 (0, 0)) (zqK BK262.out) hb); replace BK263 := Aside0.mk (blk_below (g := gb263) (o := .cells #[.int .i64 0, .int .i64 0, .slice none 0 0] 26 (0, 0)) (zqK BK263.out) hb); replace HB := Aside0.mk (below_step zq9 hb); (try clear hb); (try clear hb2); (try clear hk); (try clear hi); have hcz19_0 := bz BK262.out 0 (.int .i64 a0_0); have hcz19_1 := bz BK262.out 1 (.int .i64 a0_1); have hcz19_2 := bz BK262.out 2 (.slice A0_2 l0_2.length c0_2); have hfz19_0 := blk_frozen BK262.out 0; have hfz19_1 := blk_frozen BK262.out 1; have hfz19_2 := blk_frozen BK262.out 2) | (go_at_call 24; (with_reducible refine (spec_l13There.calls k a0_0 a0_1 _ _ l0_2 a2 false _ ?side1 ?side2 A9.out).mono ?_); (case side1 => exact zqC (Kd.C_below HR0_2.out HB.out)); (case side2 => exact HC0_2.out); rintro e w20 ⟨rfl, hb⟩; replace BK262 := Aside0.mk (blk_below (g := gb262) (o := .cells #[.int .i64 a0_0, .int .i64 a0_1, .slice A0_2 l0_2.length c0_2] 26 (0, 0)) (zqK BK262.out) hb); replace BK263 := Aside0.mk (blk_below (g := gb263) (o := .cells #[.int .i64 0, .int .i64 0, .slice none 0 0] 26 (0, 0)) (zqK BK263.out) hb); replace HB := Aside0.mk (below_step zq9 hb); (try clear hb); (try clear hb2); (try clear hk); (try clear hi)))
  go_meet
  case rel => exact ⟨_, (true), (by first | rfl | (simp; done) | (simp [*]; done)), H', ⟨by first | omega | exact Nat.le_refl _⟩, ⟨by (with_reducible repeat (first | refine blk_drewN ?_ _ | refine blk_drew ?_ | refine blk_alloc ?_ _)); exact BK262.out⟩, ⟨by (with_reducible repeat (first | refine blk_drewN ?_ _ | refine blk_drew ?_ | refine blk_alloc ?_ _)); exact BK263.out⟩, ⟨zq9⟩⟩
 clear HC4
 try clear c1
 try clear c2
 try clear p2
 try clear c7
 try clear c8
 try clear c10
 try clear c11
 try clear c16
 try clear c21
 try clear hcz12_0
 try clear hcz12_1
 try clear hcz12_2
 try clear hcz14_0
 try clear hcz14_1
 try clear hcz14_2
 try clear hcz17_0
 try clear hcz17_1
 try clear hcz17_2
 try clear hcz19_0
 try clear hcz19_1
 try clear hcz19_2
 try clear hcz22_0
 try clear hcz22_1
 try clear hcz22_2
 try clear hfz12_0
 try clear hfz12_1
 try clear hfz12_2
 try clear hfz14_0
 try clear hfz14_1
 try clear hfz14_2
 try clear hfz17_0
 try clear hfz17_1
 try clear hfz17_2
 try clear hfz19_0
 try clear hfz19_1
 try clear hfz19_2
 try clear hfz22_0
 try clear hfz22_1
 try clear hfz22_2
 obtain ⟨kq, x24_3, rfl, HA, HJ3, BK262, BK263, HB⟩ := hcut
 cases kq with
 | zero => exact absurd HA.out (by simp [spec_MergeAreas.j0])
 | succ kj3 =>
  have H := HA.out
  clear HA
  simp only [spec_MergeAreas.j0] at H
  by_cases c24 : x24_3 = true
  case pos =>
   subst c24
   have H1 : (some (0, 0, ([] : List Int), false)) = some (r1, r2, r3, r4) := by rw [if_pos rfl] at H; exact H
   clear H
   have H := H1
   clear H1
   simp only [Option.some.injEq, Prod.mk.injEq] at H
   obtain ⟨rfl, rfl, rfl, rfl⟩ := H
   have hnb25 := NB263_262.out
   have hnc25 := NB262_263.out
   have hcz26_0 := bz BK263.out 0 (.int .i64 0)
   have hcz26_1 := bz BK263.out 1 (.int .i64 0)
   have hcz26_2 := bz BK263.out 2 (.slice none 0 0)
   have hfz26_0 := blk_frozen BK263.out 0
   have hfz26_1 := blk_frozen BK263.out 1
   have hfz26_2 := blk_frozen BK263.out 2
   go_wp2
   refine bodyPost_ret (results_ct rfl _ _ gb263 26 #[.int .i64 0, .int .i64 0, .slice none 0 0] (0, 0) _ rfl (by (with_reducible repeat (first | refine blk_drewN ?_ _ | refine blk_drew ?_ | refine blk_alloc ?_ _)); refine blk_put (cs := #[.int .i64 0, .int .i64 0, .slice none 0 0]) ?_ 2 _ rfl; (with_reducible repeat (first | refine blk_drewN ?_ _ | refine blk_drew ?_ | refine blk_alloc ?_ _)); refine blk_put (cs := #[.int .i64 0, .int .i64 0, .slice none 0 0]) ?_ 1 _ rfl; (with_reducible repeat (first | refine blk_drewN ?_ _ | refine blk_drew ?_ | refine blk_alloc ?_ _)); refine blk_put (cs := #[.int .i64 0, .int .i64 0, .slice none 0 0]) ?_ 0 _ rfl; (with_reducible repeat (first | refine blk_drewN ?_ _ | refine blk_drew ?_ | refine blk_alloc ?_ _)); exact BK263.out) Try.underlying26 rfl (by kernel_rfl)) rfl ?_
   exact ⟨_, by first | rfl | (simp [errW_none, errW_some] <;> rfl) | (simp [*, errW_none, errW_some] <;> rfl), by first | exact Kd.R_nil _ _ _ _ _ | exact Kd.N_nil _ _ _ _ _ | exact Kd.V_nil _ _ _ _ _ | exact Kd.Q_nil _ _ _ _ _ | exact Kd.S_nil _ _ _ _ _, zq9⟩
  replace c24 := Bool.eq_false_iff.mpr c24
  subst c24
  have H1 : ((spec_l1Own.f l0_2).bind fun t266 => (spec_MergeAreas.l0 kj3 a1 a2 0 a0_0 a0_1 t266)) = some (r1, r2, r3, r4) := by rw [if_neg (show ¬ (false = true) by decide)] at H; exact H
  clear H
  have H := H1
  clear H1
  replace H := Option.bind_eq_some_iff.mp H
  obtain ⟨t266, A270, H⟩ := H
  replace H : (spec_MergeAreas.l0 kj3 a1 a2 0 a0_0 a0_1 t266) = some (r1, r2, r3, r4) := H
  have A27 := Aside0.mk A270
  clear A270
  have H' := Aside0.mk H
  clear H
  try go_wp2
  have n0_ := Aside0.mk (blk_drew BK262.out)
  have n1_ := Aside0.mk (blk_drew BK263.out)
  have n2_ := Aside0.mk (below_drew1 HB.out)
  clear BK262
  clear BK263
  clear HB
  have BK262 := n0_
  have BK263 := n1_
  have HB := n2_
  clear n0_ n1_ n2_
  refine start_ (n := 10) (S := fun w' => w'.cell? ⟨gb262, 0, none⟩ = some (.int .i64 a0_0) ∧ w'.cell? ⟨gb262, 1, none⟩ = some (.int .i64 a0_1) ∧ w'.cell? ⟨gb262, 2, none⟩ = some (.slice A0_2 l0_2.length c0_2)) (ds := []) #[false, false, false, false, false, false, false, false, false, false] (by kernel_rfl) rfl rfl ⟨(blk_cell BK262.out 0).trans rfl, (blk_cell BK262.out 1).trans rfl, (blk_cell BK262.out 2).trans rfl⟩ (fun hHeld => ?_); refine with_tabW spec_MergeAreas.tab3 spec_MergeAreas.bits3 (fun HT_ HW_ => ?_)
  generalize wc.drew = w28 at BK262 BK263 HB hHeld ⊢
  refine pure_ (i := 0) (N := some 26) (v := ?_) (a' := ?_) #[true, false, false, false, false, false, false, false, false, false] rfl rfl (any_of HT_.out (by kernel_rfl)) (fun _ _ _ h => h) (Or.inl ⟨by rfl, ?_⟩) ?_ ?_
  rotate_left; · exact zqB
  rotate_left; · exact zqA
  refine pure_ (i := 2) (N := some 28) (v := ?_) (a' := ?_) #[true, false, true, false, false, false, false, false, false, false] rfl rfl (any_of HT_.out (by kernel_rfl)) (fun _ _ _ h => h) (Or.inl ⟨by rfl, ?_⟩) ?_ ?_
  rotate_left; · exact zqB
  rotate_left; · exact zqA
  refine pure_ (i := 4) (N := some 30) (v := ?_) (a' := ?_) #[true, false, true, false, true, false, false, false, false, false] rfl rfl (any_of HT_.out (by kernel_rfl)) (fun _ _ _ h => h) (Or.inl ⟨by rfl, ?_⟩) ?_ ?_
  rotate_left; · exact zqB
  rotate_left; · exact zqA
  refine take_ (i := 1) (N := some 27) (v := ?_) (a' := ?_) #[true, true, true, false, true, false, false, false, false, false] rfl rfl (take_ofW HT_.out HW_.out (by kernel_rfl)) (fun _ _ _ h => h) (Or.inl ⟨by rfl, ?_⟩) hHeld ?_ ?_
  rotate_left
  ·
   rintro w' ⟨s0, s1, s2⟩
   go_simp
   with_reducible rfl
  rotate_left; · exact zqA
  refine take_ (i := 3) (N := some 29) (v := ?_) (a' := ?_) #[true, true, true, true, true, false, false, false, false, false] rfl rfl (take_ofW HT_.out HW_.out (by kernel_rfl)) (fun _ _ _ h => h) (Or.inl ⟨by rfl, ?_⟩) hHeld ?_ ?_
  rotate_left
  ·
   rintro w' ⟨s0, s1, s2⟩
   go_simp
   with_reducible rfl
  rotate_left; · exact zqA
  refine take_ (i := 5) (N := some 31) (v := ?_) (a' := ?_) #[true, true, true, true, true, true, false, false, false, false] rfl rfl (take_ofW HT_.out HW_.out (by kernel_rfl)) (fun _ _ _ h => h) (Or.inl ⟨by rfl, ?_⟩) hHeld ?_ ?_
  rotate_left
  ·
   rintro w' ⟨s0, s1, s2⟩
   go_simp
   with_reducible rfl
  rotate_left; · exact zqA
  refine join_ (σ := Value × Nat) 1 #[true, true, true, true, true, true, true, true, true, false] (fun s_ => [(32, s_.1), (8, .pointer (some ⟨s_.2, 0, none⟩)), (33, .agg #[.int .i64 a0_0, .int .i64 a0_1, s_.1])]) (fun s_ w' => (w'.cell? ⟨gb262, 0, none⟩ = some (.int .i64 a0_0) ∧ w'.cell? ⟨gb262, 1, none⟩ = some (.int .i64 a0_1) ∧ w'.cell? ⟨gb262, 2, none⟩ = some (.slice A0_2 l0_2.length c0_2)) ∧ (Kd.R (Kd.int .i64) 3 w' w.heap.size (fun _ => True) s_.1 t266) ∧ (w'.heap[gb262]? = some (.cells #[.int .i64 a0_0, .int .i64 a0_1, .slice A0_2 l0_2.length c0_2] 26 (0, 0))) ∧ (w'.heap[gb263]? = some (.cells #[.int .i64 0, .int .i64 0, .slice none 0 0] 26 (0, 0))) ∧ (w'.heap[s_.2]? = some (.cells #[.int .i64 0, .int .i64 0, .slice none 0 0] 26 (0, 0))) ∧ (w.heap.size ≤ s_.2) ∧ (w.heap.size ≤ s_.2) ∧ (gb262 ≠ s_.2) ∧ (s_.2 ≠ gb262) ∧ (gb263 ≠ s_.2) ∧ (s_.2 ≠ gb263) ∧ (Below w.heap.size w w')) ?_ ?_
  rotate_left
  ·
   intro hCont
   refine two_ (i := 6) (j := 8) (Ni := some 32) (Nj := some 8) #[true, true, true, true, true, true, true, false, false, false] #[true, true, true, true, true, true, false, false, true, false] rfl rfl rfl rfl (two_of HT_.out (by kernel_rfl)) (by decide) (by decide) (fun K hK => ?_) (fun K hK => ?_)
   ·
    skip
    refine goes_ Try.func25 (by kernel_rfl) rfl #[.slice A0_2 l0_2.length c0_2] (by rfl) rfl rfl zq1 ?_
    with_reducible refine (spec_l1Own.calls _ _ l0_2 t266 _ ?side1 ?side2 A27.out).mono ?_
    (case side1 => exact zqC (Kd.C_below HR0_2.out HB.out))
    (case side2 => exact HC0_2.out)
    rintro e w29 ⟨v267, rfl, ho0, hb⟩
    refine ⟨_, rfl, ?_⟩
    have n0_ := Aside0.mk (Kd.R_lower ho0 (below_size zq9))
    have n1_ := Aside0.mk (blk_below (g := gb262) (o := .cells #[.int .i64 a0_0, .int .i64 a0_1, .slice A0_2 l0_2.length c0_2] 26 (0, 0)) (zqK BK262.out) hb)
    have n2_ := Aside0.mk (blk_below (g := gb263) (o := .cells #[.int .i64 0, .int .i64 0, .slice none 0 0] 26 (0, 0)) (zqK BK263.out) hb)
    have n3_ := Aside0.mk (below_step zq9 hb)
    clear BK262
    clear BK263
    clear HB
    have HO268 := n0_
    have BK262 := n1_
    have BK263 := n2_
    have HB := n3_
    clear n0_ n1_ n2_ n3_
    (try clear hb)
    (try clear hb2)
    (try clear hk)
    (try clear hi)
    (try clear ho0)
    obtain ⟨Ao30, co30, eo30⟩ := Kd.R_slice HO268.out
    (first | subst eo30 | (injection eo30 with f1_ f2_ f3_; have f4_ := f1_.symm; have f5_ := f3_.symm; clear f1_ f2_ f3_; subst f4_; subst f5_))
    refine hK.out _ _ ⟨(blk_cell BK262.out 0).trans rfl, (blk_cell BK262.out 1).trans rfl, (blk_cell BK262.out 2).trans rfl⟩ (fun hHeld => ?_)
    clear hK K
    refine norm_ (a' := ?_) ?_ ?_
    rotate_left
    ·
     show Act.put _ (some 32) _ = _
     simp only [Act.put, List.setIfInBounds_toArray, List.set_cons_zero, List.set_cons_succ, i64_w, i32_w]
     rfl
    refine pure_ (i := 7) (N := some 33) (v := ?_) (a' := ?_) #[true, true, true, true, true, true, true, true, false, false] rfl rfl (any_of HT_.out (by kernel_rfl)) (fun _ _ _ h => h) (Or.inl ⟨by rfl, ?_⟩) ?_ ?_
    rotate_left; · exact zqB
    rotate_left; · exact zqA
    refine one_ (i := 8) (N := some 8) #[true, true, true, true, true, true, true, true, true, false] rfl rfl (one_of HT_.out (by kernel_rfl)) (by decide) (fun K hK => ?_)
    refine box_step ?hg (N := 8) ?hd (cs := #[.int .i64 0, .int .i64 0, .slice none 0 0]) (t := 26) ?hr ?_; (case hd => rfl); (case hg => rfl); (case hr => exact zqS)
    intro gb269 hg w31 hbox hb
    have n0_ := Aside0.mk (Kd.R_below (zqR HO268.out) hb)
    have n1_ := Aside0.mk (blk_below (g := gb262) (o := .cells #[.int .i64 a0_0, .int .i64 a0_1, .slice A0_2 l0_2.length c0_2] 26 (0, 0)) (zqK BK262.out) hb)
    have n2_ := Aside0.mk (blk_below (g := gb263) (o := .cells #[.int .i64 0, .int .i64 0, .slice none 0 0] 26 (0, 0)) (zqK BK263.out) hb)
    have n3_ := Aside0.mk (below_step zq9 hb)
    have n4_ := Aside0.mk (hbox)
    have n5_ := Aside0.mk ((by rw [hg]; exact (below_size zq9) : w.heap.size ≤ gb269))
    have n6_ := Aside0.mk ((by rw [hg]; exact (below_size zq9) : w.heap.size ≤ gb269))
    have n7_ := Aside0.mk ((by rw [hg]; exact Nat.ne_of_lt (blk_lt (g := gb262) (o := .cells #[.int .i64 a0_0, .int .i64 a0_1, .slice A0_2 l0_2.length c0_2] 26 (0, 0)) (zqK BK262.out)) : gb262 ≠ gb269))
    have n8_ := Aside0.mk ((by rw [hg]; exact Nat.ne_of_gt (blk_lt (g := gb262) (o := .cells #[.int .i64 a0_0, .int .i64 a0_1, .slice A0_2 l0_2.length c0_2] 26 (0, 0)) (zqK BK262.out)) : gb269 ≠ gb262))
    have n9_ := Aside0.mk ((by rw [hg]; exact Nat.ne_of_lt (blk_lt (g := gb263) (o := .cells #[.int .i64 0, .int .i64 0, .slice none 0 0] 26 (0, 0)) (zqK BK263.out)) : gb263 ≠ gb269))
    have n10_ := Aside0.mk ((by rw [hg]; exact Nat.ne_of_gt (blk_lt (g := gb263) (o := .cells #[.int .i64 0, .int .i64 0, .slice none 0 0] 26 (0, 0)) (zqK BK263.out)) : gb269 ≠ gb263))
    clear HO268
    clear BK262
    clear BK263
    clear HB
    have HO268 := n0_
    have BK262 := n1_
    have BK263 := n2_
    have HB := n3_
    have BK269 := n4_
    have GW269 := n5_
    have GE269 := n6_
    have NB262_269 := n7_
    have NB269_262 := n8_
    have NB263_269 := n9_
    have NB269_263 := n10_
    clear n0_ n1_ n2_ n3_ n4_ n5_ n6_ n7_ n8_ n9_ n10_
    clear hb hbox hg
    refine hK.out _ _ ⟨(blk_cell BK262.out 0).trans rfl, (blk_cell BK262.out 1).trans rfl, (blk_cell BK262.out 2).trans rfl⟩ (fun hHeld => ?_)
    clear hK K
    refine norm_ (a' := ?_) ?_ ?_
    rotate_left
    ·
     show Act.put _ (some 8) _ = _
     simp only [Act.put, List.setIfInBounds_toArray, List.set_cons_zero, List.set_cons_succ, i64_w, i32_w]
     rfl
    exact norm_ (by simp only [putAll, Act.put, List.setIfInBounds_toArray, List.set_cons_zero, List.set_cons_succ]) (hCont (.slice Ao30 t266.length co30, gb269) _ ⟨hHeld, (zqR HO268.out), (zqK BK262.out), (zqK BK263.out), (zqK BK269.out), GW269.out, GE269.out, NB262_269.out, NB269_262.out, NB263_269.out, NB269_263.out, zq25⟩)
   ·
    skip
    refine box_step ?hg (N := 8) ?hd (cs := #[.int .i64 0, .int .i64 0, .slice none 0 0]) (t := 26) ?hr ?_; (case hd => rfl); (case hg => rfl); (case hr => exact zqS)
    intro gb269 hg w29 hbox hb
    have n0_ := Aside0.mk (blk_below (g := gb262) (o := .cells #[.int .i64 a0_0, .int .i64 a0_1, .slice A0_2 l0_2.length c0_2] 26 (0, 0)) (zqK BK262.out) hb)
    have n1_ := Aside0.mk (blk_below (g := gb263) (o := .cells #[.int .i64 0, .int .i64 0, .slice none 0 0] 26 (0, 0)) (zqK BK263.out) hb)
    have n2_ := Aside0.mk (below_step zq9 hb)
    have n3_ := Aside0.mk (hbox)
    have n4_ := Aside0.mk ((by rw [hg]; exact (below_size zq9) : w.heap.size ≤ gb269))
    have n5_ := Aside0.mk ((by rw [hg]; exact (below_size zq9) : w.heap.size ≤ gb269))
    have n6_ := Aside0.mk ((by rw [hg]; exact Nat.ne_of_lt (blk_lt (g := gb262) (o := .cells #[.int .i64 a0_0, .int .i64 a0_1, .slice A0_2 l0_2.length c0_2] 26 (0, 0)) (zqK BK262.out)) : gb262 ≠ gb269))
    have n7_ := Aside0.mk ((by rw [hg]; exact Nat.ne_of_gt (blk_lt (g := gb262) (o := .cells #[.int .i64 a0_0, .int .i64 a0_1, .slice A0_2 l0_2.length c0_2] 26 (0, 0)) (zqK BK262.out)) : gb269 ≠ gb262))
    have n8_ := Aside0.mk ((by rw [hg]; exact Nat.ne_of_lt (blk_lt (g := gb263) (o := .cells #[.int .i64 0, .int .i64 0, .slice none 0 0] 26 (0, 0)) (zqK BK263.out)) : gb263 ≠ gb269))
    have n9_ := Aside0.mk ((by rw [hg]; exact Nat.ne_of_gt (blk_lt (g := gb263) (o := .cells #[.int .i64 0, .int .i64 0, .slice none 0 0] 26 (0, 0)) (zqK BK263.out)) : gb269 ≠ gb263))
    clear BK262
    clear BK263
    clear HB
    have BK262 := n0_
    have BK263 := n1_
    have HB := n2_
    have BK269 := n3_
    have GW269 := n4_
    have GE269 := n5_
    have NB262_269 := n6_
    have NB269_262 := n7_
    have NB263_269 := n8_
    have NB269_263 := n9_
    clear n0_ n1_ n2_ n3_ n4_ n5_ n6_ n7_ n8_ n9_
    clear hb hbox hg
    refine hK.out _ _ ⟨(blk_cell BK262.out 0).trans rfl, (blk_cell BK262.out 1).trans rfl, (blk_cell BK262.out 2).trans rfl⟩ (fun hHeld => ?_)
    clear hK K
    refine norm_ (a' := ?_) ?_ ?_
    rotate_left
    ·
     show Act.put _ (some 8) _ = _
     simp only [Act.put, List.setIfInBounds_toArray, List.set_cons_zero, List.set_cons_succ, i64_w, i32_w]
     rfl
    refine one_ (i := 6) (N := some 32) #[true, true, true, true, true, true, true, false, true, false] rfl rfl (one_of HT_.out (by kernel_rfl)) (by decide) (fun K hK => ?_)
    refine goes_ Try.func25 (by kernel_rfl) rfl #[.slice A0_2 l0_2.length c0_2] (by rfl) rfl rfl zq1 ?_
    with_reducible refine (spec_l1Own.calls _ _ l0_2 t266 _ ?side1 ?side2 A27.out).mono ?_
    (case side1 => exact zqC (Kd.C_below HR0_2.out HB.out))
    (case side2 => exact HC0_2.out)
    rintro e w30 ⟨v267, rfl, ho0, hb⟩
    refine ⟨_, rfl, ?_⟩
    have n0_ := Aside0.mk (Kd.R_lower ho0 (below_size zq25))
    have n1_ := Aside0.mk (blk_below (g := gb262) (o := .cells #[.int .i64 a0_0, .int .i64 a0_1, .slice A0_2 l0_2.length c0_2] 26 (0, 0)) (zqK BK262.out) hb)
    have n2_ := Aside0.mk (blk_below (g := gb263) (o := .cells #[.int .i64 0, .int .i64 0, .slice none 0 0] 26 (0, 0)) (zqK BK263.out) hb)
    have n3_ := Aside0.mk (blk_below (g := gb269) (o := .cells #[.int .i64 0, .int .i64 0, .slice none 0 0] 26 (0, 0)) (zqK BK269.out) hb)
    have n4_ := Aside0.mk (below_step zq25 hb)
    clear BK262
    clear BK263
    clear BK269
    clear HB
    have HO268 := n0_
    have BK262 := n1_
    have BK263 := n2_
    have BK269 := n3_
    have HB := n4_
    clear n0_ n1_ n2_ n3_ n4_
    (try clear hb)
    (try clear hb2)
    (try clear hk)
    (try clear hi)
    (try clear ho0)
    obtain ⟨Ao31, co31, eo31⟩ := Kd.R_slice HO268.out
    (first | subst eo31 | (injection eo31 with f1_ f2_ f3_; have f4_ := f1_.symm; have f5_ := f3_.symm; clear f1_ f2_ f3_; subst f4_; subst f5_))
    refine hK.out _ _ ⟨(blk_cell BK262.out 0).trans rfl, (blk_cell BK262.out 1).trans rfl, (blk_cell BK262.out 2).trans rfl⟩ (fun hHeld => ?_)
    clear hK K
    refine norm_ (a' := ?_) ?_ ?_
    rotate_left
    ·
     show Act.put _ (some 32) _ = _
     simp only [Act.put, List.setIfInBounds_toArray, List.set_cons_zero, List.set_cons_succ, i64_w, i32_w]
     rfl
    refine pure_ (i := 7) (N := some 33) (v := ?_) (a' := ?_) #[true, true, true, true, true, true, true, true, true, false] rfl rfl (any_of HT_.out (by kernel_rfl)) (fun _ _ _ h => h) (Or.inl ⟨by rfl, ?_⟩) ?_ ?_
    rotate_left; · exact zqB
    rotate_left; · exact zqA
    exact norm_ (by simp only [putAll, Act.put, List.setIfInBounds_toArray, List.set_cons_zero, List.set_cons_succ]) (hCont (.slice Ao31 t266.length co31, gb269) _ ⟨hHeld, (zqR HO268.out), (zqK BK262.out), (zqK BK263.out), (zqK BK269.out), GW269.out, GE269.out, NB262_269.out, NB269_262.out, NB263_269.out, NB269_263.out, zq25⟩)
  rintro ⟨v267, gb269⟩ w32 ⟨hS_, h0_, h1_, h2_, h3_, h4_, h5_, h6_, h7_, h8_, h9_, h10_⟩
  have n0_ : Aside0 (Kd.R (Kd.int .i64) 3 w32 w.heap.size (fun _ => True) v267 t266) := ⟨h0_⟩
  have n1_ : Aside0 (w32.heap[gb262]? = some (.cells #[.int .i64 a0_0, .int .i64 a0_1, .slice A0_2 l0_2.length c0_2] 26 (0, 0))) := ⟨h1_⟩
  have n2_ : Aside0 (w32.heap[gb263]? = some (.cells #[.int .i64 0, .int .i64 0, .slice none 0 0] 26 (0, 0))) := ⟨h2_⟩
  have n3_ : Aside0 (w32.heap[gb269]? = some (.cells #[.int .i64 0, .int .i64 0, .slice none 0 0] 26 (0, 0))) := ⟨h3_⟩
  have n4_ : Aside0 (w.heap.size ≤ gb269) := ⟨h4_⟩
  have n5_ : Aside0 (w.heap.size ≤ gb269) := ⟨h5_⟩
  have n6_ : Aside0 (gb262 ≠ gb269) := ⟨h6_⟩
  have n7_ : Aside0 (gb269 ≠ gb262) := ⟨h7_⟩
  have n8_ : Aside0 (gb263 ≠ gb269) := ⟨h8_⟩
  have n9_ : Aside0 (gb269 ≠ gb263) := ⟨h9_⟩
  have n10_ : Aside0 (Below w.heap.size w w32) := ⟨h10_⟩
  clear BK262
  clear BK263
  clear HB
  clear h0_ h1_ h2_ h3_ h4_ h5_ h6_ h7_ h8_ h9_ h10_
  have HO268 := n0_
  have BK262 := n1_
  have BK263 := n2_
  have BK269 := n3_
  have GW269 := n4_
  have GE269 := n5_
  have NB262_269 := n6_
  have NB269_262 := n7_
  have NB263_269 := n8_
  have NB269_263 := n9_
  have HB := n10_
  clear n0_ n1_ n2_ n3_ n4_ n5_ n6_ n7_ n8_ n9_ n10_
  have hHeld : w32.cell? ⟨gb262, 0, none⟩ = some (.int .i64 a0_0) ∧ w32.cell? ⟨gb262, 1, none⟩ = some (.int .i64 a0_1) ∧ w32.cell? ⟨gb262, 2, none⟩ = some (.slice A0_2 l0_2.length c0_2) := hS_
  obtain ⟨Ao33, co33, eo33⟩ := Kd.R_slice HO268.out
  (first | subst eo33 | (injection eo33 with f1_ f2_ f3_; have f4_ := f1_.symm; have f5_ := f3_.symm; clear f1_ f2_ f3_; subst f4_; subst f5_))
  refine norm_ (a' := ?_) ?_ ?_
  rotate_left
  ·
   simp only [putAll, Act.put, List.setIfInBounds_toArray, List.set_cons_zero, List.set_cons_succ]
   rfl
  refine one_ (i := 9) (N := none) #[true, true, true, true, true, true, true, true, true, true] rfl rfl (one_of HT_.out (by kernel_rfl)) (by decide) (fun K hK => ?_)
  have hs34 : w32.cell? ⟨gb269, 0, none⟩ = some (.int .i64 0) := (blk_cell BK269.out 0).trans rfl
  have hfs34 := blk_frozen BK269.out 0
  have hns34_0 := NB262_269.out
  have hns34_1 := NB263_269.out
  have hms34_0 := NB269_262.out
  have hms34_1 := NB269_263.out
  have hs35 : w32.cell? ⟨gb269, 1, none⟩ = some (.int .i64 0) := (blk_cell BK269.out 1).trans rfl
  have hfs35 := blk_frozen BK269.out 1
  have hns35_0 := NB262_269.out
  have hns35_1 := NB263_269.out
  have hms35_0 := NB269_262.out
  have hms35_1 := NB269_263.out
  have hs36 : w32.cell? ⟨gb269, 2, none⟩ = some (.slice none 0 0) := (blk_cell BK269.out 2).trans rfl
  have hfs36 := blk_frozen BK269.out 2
  have hns36_0 := NB262_269.out
  have hns36_1 := NB263_269.out
  have hms36_0 := NB269_262.out
  have hms36_1 := NB269_263.out
  refine skip_ (w1 := ?_) (by rfl) rfl ?_ ?_
  rotate_left
  ·
   go_simp
   rfl
  refine hK.out _ _ ⟨((cell_far (p := ⟨gb269, _, none⟩) NB262_269.out _).trans (((cell_far (p := ⟨gb269, _, none⟩) NB262_269.out _).trans (((cell_far (p := ⟨gb269, _, none⟩) NB262_269.out _).trans (hHeld.1)))))), ((cell_far (p := ⟨gb269, _, none⟩) NB262_269.out _).trans (((cell_far (p := ⟨gb269, _, none⟩) NB262_269.out _).trans (((cell_far (p := ⟨gb269, _, none⟩) NB262_269.out _).trans (hHeld.2.1)))))), ((cell_far (p := ⟨gb269, _, none⟩) NB262_269.out _).trans (((cell_far (p := ⟨gb269, _, none⟩) NB262_269.out _).trans (((cell_far (p := ⟨gb269, _, none⟩) NB262_269.out _).trans (hHeld.2.2))))))⟩ (fun hHeld => ?_)
  clear hK K
  refine done_ (done_of HT_.out (by kernel_rfl)) ?_
  try go_wp2
  go_loopg [9] kj3 (fun kq v9 w' => ∃ (x9_2 : Int) (x270002_2 : List Int) (u270002 : Value), v9 = .int .i64 x9_2 ∧ Aside0 (spec_MergeAreas.l0 kq a1 a2 x9_2 a0_0 a0_1 x270002_2 = some (r1, r2, r3, r4)) ∧ Aside0 (kq ≤ kj3) ∧ Aside0 (Kd.R (Kd.int .i64) 3 w' w.heap.size (fun _ => True) u270002 x270002_2) ∧ Aside0 (w'.heap[gb262]? = some (.cells #[.int .i64 a0_0, .int .i64 a0_1, (.slice A0_2 l0_2.length c0_2)] 26 (0, 0))) ∧ Aside0 (w'.heap[gb263]? = some (.cells #[.int .i64 0, .int .i64 0, (.slice none 0 0)] 26 (0, 0))) ∧ Aside0 (w'.heap[gb269]? = some (.cells #[.int .i64 a0_0, .int .i64 a0_1, u270002] 26 (0, 0))) ∧ Aside0 (Below w.heap.size w w'))
  case atStart => exact ⟨(0), (t266), (.slice Ao33 t266.length co33), (by first | rfl | (simp; done) | (simp [*]; done)), H', ⟨Nat.le_refl _⟩, ⟨by (with_reducible repeat (first | apply Kd.R_alloc | apply Kd.R_drewN | apply Kd.R_drew)); exact Kd.R_mono (Kd.R_far (p := ⟨gb269, 2, none⟩) (Kd.R_far (p := ⟨gb269, 1, none⟩) (Kd.R_far (p := ⟨gb269, 0, none⟩) (Kd.R_types HO268.out BK269.out (by decide)) (fun _ hk => hk.2) (.int .i64 a0_0)) (fun _ hk => hk.2) (.int .i64 a0_1)) (fun _ hk => hk.2) (.slice Ao33 t266.length co33)) (fun _ hk => trivial)⟩, ⟨by (with_reducible repeat (first | refine blk_drewN ?_ _ | refine blk_drew ?_ | refine blk_alloc ?_ _)); refine blk_far ?_ NB262_269.out _; (with_reducible repeat (first | refine blk_drewN ?_ _ | refine blk_drew ?_ | refine blk_alloc ?_ _)); refine blk_far ?_ NB262_269.out _; (with_reducible repeat (first | refine blk_drewN ?_ _ | refine blk_drew ?_ | refine blk_alloc ?_ _)); refine blk_far ?_ NB262_269.out _; (with_reducible repeat (first | refine blk_drewN ?_ _ | refine blk_drew ?_ | refine blk_alloc ?_ _)); exact BK262.out⟩, ⟨by (with_reducible repeat (first | refine blk_drewN ?_ _ | refine blk_drew ?_ | refine blk_alloc ?_ _)); refine blk_far ?_ NB263_269.out _; (with_reducible repeat (first | refine blk_drewN ?_ _ | refine blk_drew ?_ | refine blk_alloc ?_ _)); refine blk_far ?_ NB263_269.out _; (with_reducible repeat (first | refine blk_drewN ?_ _ | refine blk_drew ?_ | refine blk_alloc ?_ _)); refine blk_far ?_ NB263_269.out _; (with_reducible repeat (first | refine blk_drewN ?_ _ | refine blk_drew ?_ | refine blk_alloc ?_ _)); exact BK263.out⟩, ⟨by (with_reducible repeat (first | refine blk_drewN ?_ _ | refine blk_drew ?_ | refine blk_alloc ?_ _)); refine blk_put (cs := #[.int .i64 a0_0, .int .i64 a0_1, .slice none 0 0]) ?_ 2 _ rfl; (with_reducible repeat (first | refine blk_drewN ?_ _ | refine blk_drew ?_ | refine blk_alloc ?_ _)); refine blk_put (cs := #[.int .i64 a0_0, .int .i64 0, .slice none 0 0]) ?_ 1 _ rfl; (with_reducible repeat (first | refine blk_drewN ?_ _ | refine blk_drew ?_ | refine blk_alloc ?_ _)); refine blk_put (cs := #[.int .i64 0, .int .i64 0, .slice none 0 0]) ?_ 0 _ rfl; (with_reducible repeat (first | refine blk_drewN ?_ _ | refine blk_drew ?_ | refine blk_alloc ?_ _)); exact BK269.out⟩, ⟨zq25⟩⟩
  clear H'
  try clear c1
  try clear c2
  try clear p2
  try clear c7
  try clear c8
  try clear c10
  try clear c11
  try clear c16
  try clear c21
  try clear c24
  try clear c25
  try clear hcz12_0
  try clear hcz12_1
  try clear hcz12_2
  try clear hcz14_0
  try clear hcz14_1
  try clear hcz14_2
  try clear hcz17_0
  try clear hcz17_1
  try clear hcz17_2
  try clear hcz19_0
  try clear hcz19_1
  try clear hcz19_2
  try clear hcz22_0
  try clear hcz22_1
  try clear hcz22_2
  try clear hcz26_0
  try clear hcz26_1
  try clear hcz26_2
  try clear hfz12_0
  try clear hfz12_1
  try clear hfz12_2
  try clear hfz14_0
  try clear hfz14_1
  try clear hfz14_2
  try clear hfz17_0
  try clear hfz17_1
  try clear hfz17_2
  try clear hfz19_0
  try clear hfz19_1
  try clear hfz19_2
  try clear hfz22_0
  try clear hfz22_1
  try clear hfz22_2
  try clear hfz26_0
  try clear hfz26_1
  try clear hfz26_2
  try clear p2
  obtain ⟨x9_2, x270002_2, u270002, rfl, HA, HK2, HO_270002, BK262, BK263, BK269, HB⟩ := hrel
  cases gk with
  | zero => exact absurd HA.out (by simp [spec_MergeAreas.l0])
  | succ k2 =>
   have H := HA.out
   clear HA
   simp only [spec_MergeAreas.l0] at H
   by_cases c37 : x9_2 < (x270002_2.length : Int)
   case neg =>
    rw [if_neg c37] at H
    have c37b0 : decide (x9_2 < (x270002_2.length : Int)) = false := decide_eq_false c37
    clear c37
    simp only [Option.some.injEq, Prod.mk.injEq] at H
    obtain ⟨rfl, rfl, rfl, rfl⟩ := H
    have hnb51 := NB269_262.out
    have hnc51 := NB262_269.out
    have hnb52 := NB269_263.out
    have hnc52 := NB263_269.out
    have hcz53_0 := bz BK269.out 0 (.int .i64 a0_0)
    have hcz53_1 := bz BK269.out 1 (.int .i64 a0_1)
    have hcz53_2 := bz BK269.out 2 (u270002)
    have hfz53_0 := blk_frozen BK269.out 0
    have hfz53_1 := blk_frozen BK269.out 1
    have hfz53_2 := blk_frozen BK269.out 2
    obtain ⟨Ao54, co54, eo54⟩ := Kd.R_slice HO_270002.out
    subst eo54
    have hnb55 := NB263_262.out
    have hnc55 := NB262_263.out
    have hcz56_0 := bz BK263.out 0 (.int .i64 0)
    have hcz56_1 := bz BK263.out 1 (.int .i64 0)
    have hcz56_2 := bz BK263.out 2 (.slice none 0 0)
    have hfz56_0 := blk_frozen BK263.out 0
    have hfz56_1 := blk_frozen BK263.out 1
    have hfz56_2 := blk_frozen BK263.out 2
    go_wp2
    refine bodyPost_ret (results_ct rfl _ _ gb263 26 #[.int .i64 a0_0, .int .i64 a0_1, .slice Ao54 x270002_2.length co54] (0, 0) _ rfl (by (with_reducible repeat (first | refine blk_drewN ?_ _ | refine blk_drew ?_ | refine blk_alloc ?_ _)); refine blk_put (cs := #[.int .i64 a0_0, .int .i64 a0_1, .slice none 0 0]) ?_ 2 _ rfl; (with_reducible repeat (first | refine blk_drewN ?_ _ | refine blk_drew ?_ | refine blk_alloc ?_ _)); refine blk_put (cs := #[.int .i64 a0_0, .int .i64 0, .slice none 0 0]) ?_ 1 _ rfl; (with_reducible repeat (first | refine blk_drewN ?_ _ | refine blk_drew ?_ | refine blk_alloc ?_ _)); refine blk_put (cs := #[.int .i64 0, .int .i64 0, .slice none 0 0]) ?_ 0 _ rfl; (with_reducible repeat (first | refine blk_drewN ?_ _ | refine blk_drew ?_ | refine blk_alloc ?_ _)); exact BK263.out) Try.underlying26 rfl (by kernel_rfl)) rfl ?_
    exact ⟨_, by first | rfl | (simp [errW_none, errW_some] <;> rfl) | (simp [*, errW_none, errW_some] <;> rfl), by (with_reducible repeat (first | apply Kd.R_alloc | apply Kd.R_drewN | apply Kd.R_drew)); exact Kd.R_mono (Kd.R_far (p := ⟨gb263, 2, none⟩) (Kd.R_far (p := ⟨gb263, 1, none⟩) (Kd.R_far (p := ⟨gb263, 0, none⟩) (Kd.R_types HO_270002.out BK263.out (by decide)) (fun _ hk => hk.2) (.int .i64 a0_0)) (fun _ hk => hk.2) (.int .i64 a0_1)) (fun _ hk => hk.2) (.slice Ao54 x270002_2.length co54)) (fun _ hk => trivial), zq25⟩
   rw [if_pos c37] at H
   have c37b0 : decide (x9_2 < (x270002_2.length : Int)) = true := decide_eq_true c37
   clear c37
   by_cases c38 : 0 ≤ x9_2
   case neg =>
    rw [if_neg c38] at H
    exact absurd H (by simp)
   rw [if_pos c38] at H
   have c38b0 : decide (0 ≤ x9_2) = true := decide_eq_true c38
   clear c38
   by_cases c39 : (rd x270002_2 x9_2) = a2
   case neg =>
    rw [if_neg c39] at H
    have c39b0 : ((rd x270002_2 x9_2) == a2) = false := beq_eq_false_iff_ne.mpr c39
    have c39b1 : ((rd x270002_2 x9_2) != a2) = true := bne_iff_ne.mpr c39
    have H' := Aside0.mk H
    clear H
    have hnb47 := NB269_262.out
    have hnc47 := NB262_269.out
    have hnb48 := NB269_263.out
    have hnc48 := NB263_269.out
    have hcz49_0 := bz BK269.out 0 (.int .i64 a0_0)
    have hcz49_1 := bz BK269.out 1 (.int .i64 a0_1)
    have hcz49_2 := bz BK269.out 2 (u270002)
    have hfz49_0 := blk_frozen BK269.out 0
    have hfz49_1 := blk_frozen BK269.out 1
    have hfz49_2 := blk_frozen BK269.out 2
    obtain ⟨Ao50, co50, eo50⟩ := Kd.R_slice HO_270002.out
    subst eo50
    have p270 : 0 ≤ (x9_2 : Int) := of_decide_eq_true zq10
    have q270 : x9_2 < (x270002_2.length : Int) := of_decide_eq_true zq10
    obtain ⟨ad270, e270, hx270_0⟩ := Kd.at_int (Kd.R_reads' HO_270002.out).2.2 x9_2 p270 q270
    cases e270
    replace p270 := eq_true p270
    replace q270 := eq_true q270
    go_wp2
    go_roundg k2
    case measure => have := HJ3.out; have := HK2.out; omega
    case rel => exact ⟨(wrap64 (x9_2 + 1)), (x270002_2), (.slice (some ad270) x270002_2.length co50), (by first | rfl | (simp; done) | (simp [*]; done)), H', ⟨by have := HJ3.out; have := HK2.out; omega⟩, ⟨zqR HO_270002.out⟩, ⟨by (with_reducible repeat (first | refine blk_drewN ?_ _ | refine blk_drew ?_ | refine blk_alloc ?_ _)); exact BK262.out⟩, ⟨by (with_reducible repeat (first | refine blk_drewN ?_ _ | refine blk_drew ?_ | refine blk_alloc ?_ _)); exact BK263.out⟩, ⟨by (with_reducible repeat (first | refine blk_drewN ?_ _ | refine blk_drew ?_ | refine blk_alloc ?_ _)); exact BK269.out⟩, ⟨zq25⟩⟩
   rw [if_pos c39] at H
   have c39b0 : ((rd x270002_2 x9_2) == a2) = true := beq_iff_eq.mpr c39
   have c39b1 : ((rd x270002_2 x9_2) != a2) = false := bne_eq_false_iff_eq.mpr c39
   clear c39
   obtain ⟨y271, hy271⟩ : ∃ y_ : List Int, y_ = (x270002_2.set (x9_2 : Int).toNat a1) := ⟨_, rfl⟩
   replace H : (spec_MergeAreas.l0 k2 a1 a2 (wrap64 (x9_2 + 1)) a0_0 a0_1 y271) = some (r1, r2, r3, r4) := zqH hy271 H
   have Ny271 := Aside0.mk hy271
   clear hy271
   have H' := Aside0.mk H
   clear H
   have hnb41 := NB269_262.out
   have hnc41 := NB262_269.out
   have hnb42 := NB269_263.out
   have hnc42 := NB263_269.out
   have hcz43_0 := bz BK269.out 0 (.int .i64 a0_0)
   have hcz43_1 := bz BK269.out 1 (.int .i64 a0_1)
   have hcz43_2 := bz BK269.out 2 (u270002)
   have hfz43_0 := blk_frozen BK269.out 0
   have hfz43_1 := blk_frozen BK269.out 1
   have hfz43_2 := blk_frozen BK269.out 2
   obtain ⟨Ao44, co44, eo44⟩ := Kd.R_slice HO_270002.out
   subst eo44
   have p270 : 0 ≤ (x9_2 : Int) := of_decide_eq_true zq10
   have q270 : x9_2 < (x270002_2.length : Int) := of_decide_eq_true zq10
   obtain ⟨ad270, e270, hx270_0⟩ := Kd.at_int (Kd.R_reads' HO_270002.out).2.2 x9_2 p270 q270
   cases e270
   replace p270 := eq_true p270
   replace q270 := eq_true q270
   have p40 : 0 ≤ (x9_2 : Int) := of_decide_eq_true zq10
   have q40 : (x9_2 : Int) < ((x270002_2.length : Int) : Int) := of_decide_eq_true zq10
   obtain ⟨go40, co40, eo40, gb40, gl40, cl40, HG40⟩ := Kd.R_form HO_270002.out (by omega)
   (first | cases eo40 | (injection eo40 with ea_ en_ ec_; (first | subst ea_ | (injection ea_ with ea_; subst ea_)); subst ec_; clear en_))
   have GB40 := Aside0.mk gb40
   have GG40 := Aside0.mk HG40
   clear gb40 gl40 HG40
   (first | simp only [add_plain] at hx270_0 | skip)
   obtain ⟨hx40_0, hf40_0⟩ := Kd.R_celln 0 HO_270002.out (x9_2 : Int) p40 q40
   replace p40 := eq_true p40
   replace q40 := eq_true q40
   have HP45 := Kd.R_putg HO_270002.out (x9_2 : Int) a1
   go_wp2_with (first | ((with_reducible refine gate_store (t := 3) (p := 52) rfl ?_); refine store_event (t := 3) (p := 52) (v := ?vo_w46) (w1 := (wr.setCell ⟨go40, (x9_2 : Int).toNat, none⟩ (.int .i64 a1))) ?hg ?ho ?hn ?hr ?_; (case ho => rfl); (case hg => rfl); (case hn => rfl); (case hr => exact zqS); intro w46 hw; have hg : wr.grownBy w46 (some go40) := (by rw [hw]; exact HP45.2); have hp_ : Kd.R (Kd.int .i64) 3 w46 w.heap.size (fun _ => True) (.slice (some ⟨go40, 0, none⟩) x270002_2.length co44) y271 := (by rw [hw, Ny271.out]; exact HP45.1); clear HP45; replace BK262 := Aside0.mk (blk_grown (g := gb262) (o := .cells #[.int .i64 a0_0, .int .i64 a0_1, .slice A0_2 l0_2.length c0_2] 26 (0, 0)) (zqK BK262.out) hg (Kd.R_ne HO_270002.out BK262.out (by decide))); replace BK263 := Aside0.mk (blk_grown (g := gb263) (o := .cells #[.int .i64 0, .int .i64 0, .slice none 0 0] 26 (0, 0)) (zqK BK263.out) hg (Kd.R_ne HO_270002.out BK263.out (by decide))); replace BK269 := Aside0.mk (blk_grown (g := gb269) (o := .cells #[.int .i64 a0_0, .int .i64 a0_1, .slice (some ⟨go40, 0, none⟩) x270002_2.length co44] 26 (0, 0)) (zqK BK269.out) hg (Kd.R_ne HO_270002.out BK269.out (by decide))); replace HO_270002 := Aside0.mk (hp_); replace HB := Aside0.mk ((by rw [hw]; exact below_set (HB.out) GB40.out : Below w.heap.size w w46)); clear hg hw hp_))
   go_roundg k2
   case measure => have := HJ3.out; have := HK2.out; omega
   case rel => exact ⟨(wrap64 (x9_2 + 1)), (y271), (.slice (some ⟨go40, 0, none⟩) x270002_2.length co44), (by first | rfl | (simp; done) | (simp [*]; done)), H', ⟨by have := HJ3.out; have := HK2.out; omega⟩, ⟨zqR HO_270002.out⟩, ⟨by (with_reducible repeat (first | refine blk_drewN ?_ _ | refine blk_drew ?_ | refine blk_alloc ?_ _)); exact BK262.out⟩, ⟨by (with_reducible repeat (first | refine blk_drewN ?_ _ | refine blk_drew ?_ | refine blk_alloc ?_ _)); exact BK263.out⟩, ⟨by (with_reducible repeat (first | refine blk_drewN ?_ _ | refine blk_drew ?_ | refine blk_alloc ?_ _)); exact BK269.out⟩, ⟨zq25⟩⟩

/-! ### laws_rInts: function 18 -/
def laws_rInts.l0 : Nat → List Int → List Int → Int → Option (Bool)
 | 0, _, _, _ => none
 | k + 1, x0, x1, x5 => if x5 < (x0.length : Int) then (if 0 ≤ x5 then (if x5 < (x1.length : Int) then (if (rd x0 x5) = (rd x1 x5) then (laws_rInts.l0 k x0 x1 (wrap64 (x5 + 1))) else (some false)) else (none)) else (none)) else (some true)
def laws_rInts.f (k : Nat) (l0 : List Int) (l1 : List Int) : Option (Bool) := if (l0.length : Int) = (l1.length : Int) then (laws_rInts.l0 k l0 l1 0) else (some false)
set_option maxHeartbeats 8000000 in
set_option maxRecDepth 100000 in
theorem laws_rInts.calls (k : Nat) (A0 : Option Addr) (c0 : Nat) (l0 : List Int) (A1 : Option Addr) (c1 : Nat) (l1 : List Int) (r : Bool) (w : World) (hr0 : Kd.C (Kd.int .i64) w A0 l0.length l0) (hc0 : l0.length ≤ c0) (hr1 : Kd.C (Kd.int .i64) w A1 l1.length l1) (hc1 : l1.length ≤ c1) (h : laws_rInts.f k l0 l1 = some r) :
  Calls Try.prog 18 #[.slice A0 l0.length c0, .slice A1 l1.length c1] w fun e w' => e = .returned (.bool r) ∧ Drawn0 w w' := by
 have HR0 := Aside0.mk hr0
 have HC0 := Aside0.mk hc0
 clear hr0 hc0
 have HR1 := Aside0.mk hr1
 have HC1 := Aside0.mk hc1
 clear hr1 hc1
 have H : (if (l0.length : Int) = (l1.length : Int) then (laws_rInts.l0 k l0 l1 0) else (some false)) = some r := h
 clear h
 by_cases c3 : (l0.length : Int) = (l1.length : Int)
 case neg =>
  rw [if_neg c3] at H
  have c3b0 : ((l0.length : Int) == (l1.length : Int)) = false := beq_eq_false_iff_ne.mpr c3
  have c3b1 : ((l0.length : Int) != (l1.length : Int)) = true := bne_iff_ne.mpr c3
  have c3b2 : (l0.length == l1.length) = false := by first | simpa using c3 | (simp at c3 ⊢; omega)
  obtain rfl := Option.some.inj H
  go_enter Try.func18, Try.ntmps18
  go_wp2
  repeat (go_quiet (fail); try go_wp2)
  go_ret
  exact ⟨by first | rfl | (simp; done) | (simp [*]; done), zq23⟩
 rw [if_pos c3] at H
 have c3b0 : ((l0.length : Int) == (l1.length : Int)) = true := beq_iff_eq.mpr c3
 have c3b1 : ((l0.length : Int) != (l1.length : Int)) = false := bne_eq_false_iff_eq.mpr c3
 have c3b2 : (l0.length == l1.length) = true := by first | simpa using c3 | (simp at c3 ⊢; omega)
 clear c3
 have H' := Aside0.mk H
 clear H
 go_enter Try.func18, Try.ntmps18
 go_wp2
 repeat (go_quiet (fail); try go_wp2)
 go_loopg [5] k (fun kq v5 w' => ∃ (x5_1 : Int), v5 = .int .i64 x5_1 ∧ Aside0 (laws_rInts.l0 kq l0 l1 x5_1 = some r) ∧ Aside0 (kq ≤ k) ∧ Drawn0 w w')
 case atStart => exact ⟨(0), (by first | rfl | (simp; done) | (simp [*]; done)), H', ⟨Nat.le_refl _⟩, zq23⟩
 clear H'
 try clear c1
 try clear p2
 try clear c3
 try clear c3b0
 try clear c3b1
 try clear c3b2
 obtain ⟨x5_1, rfl, HA, HK1, ⟨m1, rfl⟩⟩ := hrel
 cases gk with
 | zero => exact absurd HA.out (by simp [laws_rInts.l0])
 | succ k1 =>
  have H := HA.out
  clear HA
  simp only [laws_rInts.l0] at H
  by_cases c4 : x5_1 < (l0.length : Int)
  case neg =>
   rw [if_neg c4] at H
   have c4b0 : decide (x5_1 < (l0.length : Int)) = false := decide_eq_false c4
   clear c4
   obtain rfl := Option.some.inj H
   go_wp2
   repeat (go_quiet (fail); try go_wp2)
   go_ret
   exact ⟨by first | rfl | (simp; done) | (simp [*]; done), zq23⟩
  rw [if_pos c4] at H
  have c4b0 : decide (x5_1 < (l0.length : Int)) = true := decide_eq_true c4
  clear c4
  by_cases c5 : 0 ≤ x5_1
  case neg =>
   rw [if_neg c5] at H
   exact absurd H (by simp)
  rw [if_pos c5] at H
  have c5b0 : decide (0 ≤ x5_1) = true := decide_eq_true c5
  clear c5
  by_cases c6 : x5_1 < (l1.length : Int)
  case neg =>
   rw [if_neg c6] at H
   exact absurd H (by simp)
  rw [if_pos c6] at H
  have c6b0 : decide (x5_1 < (l1.length : Int)) = true := decide_eq_true c6
  clear c6
  by_cases c7 : (rd l0 x5_1) = (rd l1 x5_1)
  case neg =>
   rw [if_neg c7] at H
   have c7b0 : ((rd l0 x5_1) == (rd l1 x5_1)) = false := beq_eq_false_iff_ne.mpr c7
   have c7b1 : ((rd l0 x5_1) != (rd l1 x5_1)) = true := bne_iff_ne.mpr c7
   obtain rfl := Option.some.inj H
   have p272 : 0 ≤ (x5_1 : Int) := of_decide_eq_true zq10
   have q272 : x5_1 < (l0.length : Int) := of_decide_eq_true zq10
   obtain ⟨ad272, e272, hx272_0⟩ := Kd.at_int HR0.out x5_1 p272 q272
   cases e272
   replace p272 := eq_true p272
   replace q272 := eq_true q272
   have p273 : 0 ≤ (x5_1 : Int) := of_decide_eq_true zq10
   have q273 : x5_1 < (l1.length : Int) := of_decide_eq_true zq10
   obtain ⟨ad273, e273, hx273_0⟩ := Kd.at_int HR1.out x5_1 p273 q273
   cases e273
   replace p273 := eq_true p273
   replace q273 := eq_true q273
   go_wp2
   repeat (go_quiet (fail); try go_wp2)
   go_ret
   exact ⟨by first | rfl | (simp; done) | (simp [*]; done), zq23⟩
  rw [if_pos c7] at H
  have c7b0 : ((rd l0 x5_1) == (rd l1 x5_1)) = true := beq_iff_eq.mpr c7
  have c7b1 : ((rd l0 x5_1) != (rd l1 x5_1)) = false := bne_eq_false_iff_eq.mpr c7
  clear c7
  have H' := Aside0.mk H
  clear H
  have p272 : 0 ≤ (x5_1 : Int) := of_decide_eq_true zq10
  have q272 : x5_1 < (l0.length : Int) := of_decide_eq_true zq10
  obtain ⟨ad272, e272, hx272_0⟩ := Kd.at_int HR0.out x5_1 p272 q272
  cases e272
  replace p272 := eq_true p272
  replace q272 := eq_true q272
  have p273 : 0 ≤ (x5_1 : Int) := of_decide_eq_true zq10
  have q273 : x5_1 < (l1.length : Int) := of_decide_eq_true zq10
  obtain ⟨ad273, e273, hx273_0⟩ := Kd.at_int HR1.out x5_1 p273 q273
  cases e273
  replace p273 := eq_true p273
  replace q273 := eq_true q273
  go_wp2
  repeat (go_quiet (fail); try go_wp2)
  go_roundg k1
  case measure => have := HK1.out; omega
  case rel => exact ⟨(wrap64 (x5_1 + 1)), (by first | rfl | (simp; done) | (simp [*]; done)), H', ⟨by have := HK1.out; omega⟩, zq23⟩

/-! ### laws_rMaps: function 8 -/
def laws_rMaps.f (k : Nat) (a0_0 : Int) (a0_1 : Int) (l0_2 : List Int) (a1_0 : Int) (a1_1 : Int) (l1_2 : List Int) : Option (Bool) := if a0_0 = a1_0 then (if a0_1 = a1_1 then ((laws_rInts.f k l0_2 l1_2).bind fun t276 => (some t276)) else (some false)) else (some false)
set_option maxHeartbeats 8000000 in
set_option maxRecDepth 100000 in
theorem laws_rMaps.calls (k : Nat) (a0_0 : Int) (a0_1 : Int) (A0_2 : Option Addr) (c0_2 : Nat) (l0_2 : List Int) (a1_0 : Int) (a1_1 : Int) (A1_2 : Option Addr) (c1_2 : Nat) (l1_2 : List Int) (r : Bool) (w : World) (hr0_2 : Kd.C (Kd.int .i64) w A0_2 l0_2.length l0_2) (hc0_2 : l0_2.length ≤ c0_2) (hr1_2 : Kd.C (Kd.int .i64) w A1_2 l1_2.length l1_2) (hc1_2 : l1_2.length ≤ c1_2) (h : laws_rMaps.f k a0_0 a0_1 l0_2 a1_0 a1_1 l1_2 = some r) :
  Calls Try.prog 8 #[.agg #[.int .i64 a0_0, .int .i64 a0_1, .slice A0_2 l0_2.length c0_2], .agg #[.int .i64 a1_0, .int .i64 a1_1, .slice A1_2 l1_2.length c1_2]] w fun e w' => e = .returned (.bool r) ∧ Below w.heap.size w w' := by
 have hu26 := Try.underlying26
 have HR0_2 := Aside0.mk hr0_2
 have HC0_2 := Aside0.mk hc0_2
 clear hr0_2 hc0_2
 have HR1_2 := Aside0.mk hr1_2
 have HC1_2 := Aside0.mk hc1_2
 clear hr1_2 hc1_2
 have HB := Aside0.mk (Below.refl w.heap.size w)
 have H : (if a0_0 = a1_0 then (if a0_1 = a1_1 then ((laws_rInts.f k l0_2 l1_2).bind fun t276 => (some t276)) else (some false)) else (some false)) = some r := h
 clear h
 by_cases c3 : a0_0 = a1_0
 case neg =>
  rw [if_neg c3] at H
  have c3b0 : (a0_0 == a1_0) = false := beq_eq_false_iff_ne.mpr c3
  have c3b1 : (a0_0 != a1_0) = true := bne_iff_ne.mpr c3
  obtain rfl := Option.some.inj H
  go_enter Try.func8, Try.ntmps8
  go_wp2_with (first | ((with_reducible refine gate_dst (N := 2) rfl ?_); refine box_event ?hg (N := 2) ?hd (cs := #[.int .i64 a0_0, .int .i64 a0_1, .slice A0_2 l0_2.length c0_2]) (t := 26) ?hr ?_; (case hd => rfl); (case hg => rfl); (case hr => exact zqS); intro gb274 hg w16 hbox hb; have BK274 := Aside0.mk (hbox); have GW274 := Aside0.mk ((by rw [hg]; exact (below_size zq0) : w.heap.size ≤ gb274)); replace HB := Aside0.mk (below_step zq0 hb); have GE274 := GW274; clear hb hbox hg) | ((with_reducible refine gate_dst (N := 3) rfl ?_); refine box_event ?hg (N := 3) ?hd (cs := #[.int .i64 a1_0, .int .i64 a1_1, .slice A1_2 l1_2.length c1_2]) (t := 26) ?hr ?_; (case hd => rfl); (case hg => rfl); (case hr => exact zqS); intro gb275 hg w17 hbox hb; have BK275 := Aside0.mk (hbox); have GW275 := Aside0.mk ((by rw [hg]; exact (below_size zq29) : w.heap.size ≤ gb275)); replace HB := Aside0.mk (below_step zq29 hb); have GE275 := GW275; have NB274_275 := Aside0.mk ((by rw [hg]; exact Nat.ne_of_lt (blk_lt (g := gb274) (o := .cells #[.int .i64 a0_0, .int .i64 a0_1, .slice A0_2 l0_2.length c0_2] 26 (0, 0)) (zqK BK274.out)) : gb274 ≠ gb275)); have NB275_274 := Aside0.mk ((by rw [hg]; exact Nat.ne_of_gt (blk_lt (g := gb274) (o := .cells #[.int .i64 a0_0, .int .i64 a0_1, .slice A0_2 l0_2.length c0_2] 26 (0, 0)) (zqK BK274.out)) : gb275 ≠ gb274)); replace BK274 := Aside0.mk (blk_below (g := gb274) (o := .cells #[.int .i64 a0_0, .int .i64 a0_1, .slice A0_2 l0_2.length c0_2] 26 (0, 0)) (zqK BK274.out) hb); clear hb hbox hg; have hnb18 := NB274_275.out; have hnc18 := NB275_274.out; have hcz19_0 := bz BK274.out 0 (.int .i64 a0_0); have hcz19_1 := bz BK274.out 1 (.int .i64 a0_1); have hcz19_2 := bz BK274.out 2 (.slice A0_2 l0_2.length c0_2); have hfz19_0 := blk_frozen BK274.out 0; have hfz19_1 := blk_frozen BK274.out 1; have hfz19_2 := blk_frozen BK274.out 2; have hcz20_0 := bz BK275.out 0 (.int .i64 a1_0); have hcz20_1 := bz BK275.out 1 (.int .i64 a1_1); have hcz20_2 := bz BK275.out 2 (.slice A1_2 l1_2.length c1_2); have hfz20_0 := blk_frozen BK275.out 0; have hfz20_1 := blk_frozen BK275.out 1; have hfz20_2 := blk_frozen BK275.out 2))
  go_ret
  exact ⟨zqE, zq44⟩
 rw [if_pos c3] at H
 have c3b0 : (a0_0 == a1_0) = true := beq_iff_eq.mpr c3
 have c3b1 : (a0_0 != a1_0) = false := bne_eq_false_iff_eq.mpr c3
 clear c3
 by_cases c4 : a0_1 = a1_1
 case neg =>
  rw [if_neg c4] at H
  have c4b0 : (a0_1 == a1_1) = false := beq_eq_false_iff_ne.mpr c4
  have c4b1 : (a0_1 != a1_1) = true := bne_iff_ne.mpr c4
  obtain rfl := Option.some.inj H
  go_enter Try.func8, Try.ntmps8
  go_wp2_with (first | ((with_reducible refine gate_dst (N := 2) rfl ?_); refine box_event ?hg (N := 2) ?hd (cs := #[.int .i64 a0_0, .int .i64 a0_1, .slice A0_2 l0_2.length c0_2]) (t := 26) ?hr ?_; (case hd => rfl); (case hg => rfl); (case hr => exact zqS); intro gb274 hg w11 hbox hb; have BK274 := Aside0.mk (hbox); have GW274 := Aside0.mk ((by rw [hg]; exact (below_size zq0) : w.heap.size ≤ gb274)); replace HB := Aside0.mk (below_step zq0 hb); have GE274 := GW274; clear hb hbox hg) | ((with_reducible refine gate_dst (N := 3) rfl ?_); refine box_event ?hg (N := 3) ?hd (cs := #[.int .i64 a1_0, .int .i64 a1_1, .slice A1_2 l1_2.length c1_2]) (t := 26) ?hr ?_; (case hd => rfl); (case hg => rfl); (case hr => exact zqS); intro gb275 hg w12 hbox hb; have BK275 := Aside0.mk (hbox); have GW275 := Aside0.mk ((by rw [hg]; exact (below_size zq29) : w.heap.size ≤ gb275)); replace HB := Aside0.mk (below_step zq29 hb); have GE275 := GW275; have NB274_275 := Aside0.mk ((by rw [hg]; exact Nat.ne_of_lt (blk_lt (g := gb274) (o := .cells #[.int .i64 a0_0, .int .i64 a0_1, .slice A0_2 l0_2.length c0_2] 26 (0, 0)) (zqK BK274.out)) : gb274 ≠ gb275)); have NB275_274 := Aside0.mk ((by rw [hg]; exact Nat.ne_of_gt (blk_lt (g := gb274) (o := .cells #[.int .i64 a0_0, .int .i64 a0_1, .slice A0_2 l0_2.length c0_2] 26 (0, 0)) (zqK BK274.out)) : gb275 ≠ gb274)); replace BK274 := Aside0.mk (blk_below (g := gb274) (o := .cells #[.int .i64 a0_0, .int .i64 a0_1, .slice A0_2 l0_2.length c0_2] 26 (0, 0)) (zqK BK274.out) hb); clear hb hbox hg; have hnb13 := NB274_275.out; have hnc13 := NB275_274.out; have hcz14_0 := bz BK274.out 0 (.int .i64 a0_0); have hcz14_1 := bz BK274.out 1 (.int .i64 a0_1); have hcz14_2 := bz BK274.out 2 (.slice A0_2 l0_2.length c0_2); have hfz14_0 := blk_frozen BK274.out 0; have hfz14_1 := blk_frozen BK274.out 1; have hfz14_2 := blk_frozen BK274.out 2; have hcz15_0 := bz BK275.out 0 (.int .i64 a1_0); have hcz15_1 := bz BK275.out 1 (.int .i64 a1_1); have hcz15_2 := bz BK275.out 2 (.slice A1_2 l1_2.length c1_2); have hfz15_0 := blk_frozen BK275.out 0; have hfz15_1 := blk_frozen BK275.out 1; have hfz15_2 := blk_frozen BK275.out 2))
  go_ret
  exact ⟨zqE, zq44⟩
 rw [if_pos c4] at H
 have c4b0 : (a0_1 == a1_1) = true := beq_iff_eq.mpr c4
 have c4b1 : (a0_1 != a1_1) = false := bne_eq_false_iff_eq.mpr c4
 clear c4
 replace H := Option.bind_eq_some_iff.mp H
 obtain ⟨t276, A50, H⟩ := H
 replace H : (some t276) = some r := H
 have A5 := Aside0.mk A50
 clear A50
 obtain rfl := Option.some.inj H
 go_enter Try.func8, Try.ntmps8
 go_wp2_with (first | ((with_reducible refine gate_dst (N := 2) rfl ?_); refine box_event ?hg (N := 2) ?hd (cs := #[.int .i64 a0_0, .int .i64 a0_1, .slice A0_2 l0_2.length c0_2]) (t := 26) ?hr ?_; (case hd => rfl); (case hg => rfl); (case hr => exact zqS); intro gb274 hg w6 hbox hb; have BK274 := Aside0.mk (hbox); have GW274 := Aside0.mk ((by rw [hg]; exact (below_size zq0) : w.heap.size ≤ gb274)); replace HB := Aside0.mk (below_step zq0 hb); have GE274 := GW274; clear hb hbox hg) | ((with_reducible refine gate_dst (N := 3) rfl ?_); refine box_event ?hg (N := 3) ?hd (cs := #[.int .i64 a1_0, .int .i64 a1_1, .slice A1_2 l1_2.length c1_2]) (t := 26) ?hr ?_; (case hd => rfl); (case hg => rfl); (case hr => exact zqS); intro gb275 hg w7 hbox hb; have BK275 := Aside0.mk (hbox); have GW275 := Aside0.mk ((by rw [hg]; exact (below_size zq29) : w.heap.size ≤ gb275)); replace HB := Aside0.mk (below_step zq29 hb); have GE275 := GW275; have NB274_275 := Aside0.mk ((by rw [hg]; exact Nat.ne_of_lt (blk_lt (g := gb274) (o := .cells #[.int .i64 a0_0, .int .i64 a0_1, .slice A0_2 l0_2.length c0_2] 26 (0, 0)) (zqK BK274.out)) : gb274 ≠ gb275)); have NB275_274 := Aside0.mk ((by rw [hg]; exact Nat.ne_of_gt (blk_lt (g := gb274) (o := .cells #[.int .i64 a0_0, .int .i64 a0_1, .slice A0_2 l0_2.length c0_2] 26 (0, 0)) (zqK BK274.out)) : gb275 ≠ gb274)); replace BK274 := Aside0.mk (blk_below (g := gb274) (o := .cells #[.int .i64 a0_0, .int .i64 a0_1, .slice A0_2 l0_2.length c0_2] 26 (0, 0)) (zqK BK274.out) hb); clear hb hbox hg; have hnb8 := NB274_275.out; have hnc8 := NB275_274.out; have hcz9_0 := bz BK274.out 0 (.int .i64 a0_0); have hcz9_1 := bz BK274.out 1 (.int .i64 a0_1); have hcz9_2 := bz BK274.out 2 (.slice A0_2 l0_2.length c0_2); have hfz9_0 := blk_frozen BK274.out 0; have hfz9_1 := blk_frozen BK274.out 1; have hfz9_2 := blk_frozen BK274.out 2; have hcz10_0 := bz BK275.out 0 (.int .i64 a1_0); have hcz10_1 := bz BK275.out 1 (.int .i64 a1_1); have hcz10_2 := bz BK275.out 2 (.slice A1_2 l1_2.length c1_2); have hfz10_0 := blk_frozen BK275.out 0; have hfz10_1 := blk_frozen BK275.out 1; have hfz10_2 := blk_frozen BK275.out 2) | (go_at_call 18; (with_reducible refine (laws_rInts.calls k _ _ l0_2 _ _ l1_2 t276 _ ?side1 ?side2 ?side3 ?side4 A5.out).mono ?_); (case side1 => exact zqC (Kd.C_below HR0_2.out HB.out)); (case side2 => exact HC0_2.out); (case side3 => exact zqC (Kd.C_below HR1_2.out HB.out)); (case side4 => exact HC1_2.out); rintro e w' ⟨rfl, ⟨nd, rfl⟩⟩))
 go_ret
 exact ⟨zqE, zq44⟩

/-! ### impl_absOf: function 56 -/
def impl_absOf.f (a0 : Int) : Option (Int) := if a0 < 0 then (some (wrap64 (-a0))) else (some a0)
set_option maxHeartbeats 8000000 in
set_option maxRecDepth 100000 in
theorem impl_absOf.calls (a0 : Int) (r : Int) (w : World) (h : impl_absOf.f a0 = some r) :
  Calls Try.prog 56 #[.int .i64 a0] w fun e w' => e = .returned (.int .i64 r) ∧ Drawn0 w w' := by
 have H : (if a0 < 0 then (some (wrap64 (-a0))) else (some a0)) = some r := h
 clear h
 by_cases c2 : a0 < 0
 case neg =>
  rw [if_neg c2] at H
  have c2b0 : decide (a0 < 0) = false := decide_eq_false c2
  clear c2
  obtain rfl := Option.some.inj H
  go_enter Try.func56, Try.ntmps56
  go_wp2
  go_ret
  exact ⟨by first | rfl | (simp; done) | (simp [*]; done), zq23⟩
 rw [if_pos c2] at H
 have c2b0 : decide (a0 < 0) = true := decide_eq_true c2
 clear c2
 obtain rfl := Option.some.inj H
 go_enter Try.func56, Try.ntmps56
 go_wp2
 go_ret
 exact ⟨by first | rfl | (simp; done) | (simp [*]; done), zq23⟩

/-! ### impl_areConnected: function 43 -/
def impl_areConnected.f (a0 : Int) (a1 : Int) (a2 : Int) : Option (Bool) := if a0 = 0 then (none) else ((impl_absOf.f (wrap64 ((Int.tmod a1 a0) - (Int.tmod a2 a0)))).bind fun t277 => ((impl_absOf.f (wrap64 ((wrap64 (Int.tdiv a1 a0)) - (wrap64 (Int.tdiv a2 a0))))).bind fun t278 => (some ((wrap64 (t277 + t278)) == 1))))
set_option maxHeartbeats 8000000 in
set_option maxRecDepth 100000 in
theorem impl_areConnected.calls (a0 : Int) (a1 : Int) (a2 : Int) (r : Bool) (w : World) (h : impl_areConnected.f a0 a1 a2 = some r) :
  Calls Try.prog 43 #[.int .i64 a0, .int .i64 a1, .int .i64 a2] w fun e w' => e = .returned (.bool r) ∧ Drawn0 w w' := by
 have H : (if a0 = 0 then (none) else ((impl_absOf.f (wrap64 ((Int.tmod a1 a0) - (Int.tmod a2 a0)))).bind fun t277 => ((impl_absOf.f (wrap64 ((wrap64 (Int.tdiv a1 a0)) - (wrap64 (Int.tdiv a2 a0))))).bind fun t278 => (some ((wrap64 (t277 + t278)) == 1))))) = some r := h
 clear h
 by_cases c4 : a0 = 0
 case pos =>
  rw [if_pos c4] at H
  exact absurd H (by simp)
 rw [if_neg c4] at H
 have c4b0 : (a0 == 0) = false := beq_eq_false_iff_ne.mpr c4
 have c4b1 : (a0 != 0) = true := bne_iff_ne.mpr c4
 replace H := Option.bind_eq_some_iff.mp H
 obtain ⟨t277, A50, H⟩ := H
 replace H : ((impl_absOf.f (wrap64 ((wrap64 (Int.tdiv a1 a0)) - (wrap64 (Int.tdiv a2 a0))))).bind fun t278 => (some ((wrap64 (t277 + t278)) == 1))) = some r := H
 have A5 := Aside0.mk A50
 clear A50
 replace H := Option.bind_eq_some_iff.mp H
 obtain ⟨t278, A60, H⟩ := H
 replace H : (some ((wrap64 (t277 + t278)) == 1)) = some r := H
 have A6 := Aside0.mk A60
 clear A60
 obtain rfl := Option.some.inj H
 go_enter Try.func43, Try.ntmps43
 go_wp2_with (first | (go_at_call 56; (with_reducible refine (impl_absOf.calls (wrap64 ((Int.tmod a1 a0) - (Int.tmod a2 a0))) t277 _ A5.out).mono ?_); rintro e w' ⟨rfl, ⟨nd, rfl⟩⟩; (try first | exact ⟨rfl, _, World.drewN_drewN _ _ _⟩ | exact ⟨rfl, _, Eq.trans (World.drewN_drewN _ _ _) (congrArg (World.drewN _) (Nat.add_assoc _ _ _))⟩)) | (go_at_call 56; (with_reducible refine (impl_absOf.calls (wrap64 ((wrap64 (Int.tdiv a1 a0)) - (wrap64 (Int.tdiv a2 a0)))) t278 _ A6.out).mono ?_); rintro e w' ⟨rfl, ⟨nd, rfl⟩⟩; (try first | exact ⟨rfl, _, World.drewN_drewN _ _ _⟩ | exact ⟨rfl, _, Eq.trans (World.drewN_drewN _ _ _) (congrArg (World.drewN _) (Nat.add_assoc _ _ _))⟩)))
 repeat (go_quiet (first | (go_at_call 56; (with_reducible refine (impl_absOf.calls (wrap64 ((Int.tmod a1 a0) - (Int.tmod a2 a0))) t277 _ A5.out).mono ?_); rintro e w' ⟨rfl, ⟨nd, rfl⟩⟩; (try first | exact ⟨rfl, _, World.drewN_drewN _ _ _⟩ | exact ⟨rfl, _, Eq.trans (World.drewN_drewN _ _ _) (congrArg (World.drewN _) (Nat.add_assoc _ _ _))⟩)) | (go_at_call 56; (with_reducible refine (impl_absOf.calls (wrap64 ((wrap64 (Int.tdiv a1 a0)) - (wrap64 (Int.tdiv a2 a0)))) t278 _ A6.out).mono ?_); rintro e w' ⟨rfl, ⟨nd, rfl⟩⟩; (try first | exact ⟨rfl, _, World.drewN_drewN _ _ _⟩ | exact ⟨rfl, _, Eq.trans (World.drewN_drewN _ _ _) (congrArg (World.drewN _) (Nat.add_assoc _ _ _))⟩))); try go_wp2_with (first | (go_at_call 56; (with_reducible refine (impl_absOf.calls (wrap64 ((Int.tmod a1 a0) - (Int.tmod a2 a0))) t277 _ A5.out).mono ?_); rintro e w' ⟨rfl, ⟨nd, rfl⟩⟩; (try first | exact ⟨rfl, _, World.drewN_drewN _ _ _⟩ | exact ⟨rfl, _, Eq.trans (World.drewN_drewN _ _ _) (congrArg (World.drewN _) (Nat.add_assoc _ _ _))⟩)) | (go_at_call 56; (with_reducible refine (impl_absOf.calls (wrap64 ((wrap64 (Int.tdiv a1 a0)) - (wrap64 (Int.tdiv a2 a0)))) t278 _ A6.out).mono ?_); rintro e w' ⟨rfl, ⟨nd, rfl⟩⟩; (try first | exact ⟨rfl, _, World.drewN_drewN _ _ _⟩ | exact ⟨rfl, _, Eq.trans (World.drewN_drewN _ _ _) (congrArg (World.drewN _) (Nat.add_assoc _ _ _))⟩))))
 go_ret
 exact ⟨by first | rfl | (simp; done) | (simp [*]; done), zq23⟩

/-! ### impl_commonSides: function 26 -/
mutual
def impl_commonSides.l0 : Nat → Int → Int → List Int → Int → Int → Int → Int → List Int → Option (Int)
 | 0, _, _, _, _, _, _, _, _ => none
 | k + 1, x2, x7, x14, x15, x16, x280000, x280001, x280002 => if x16 < x15 then (if 0 ≤ x16 then (if x16 < (x14.length : Int) then ((impl_cellsOf.f k x280000 x280001 x280002 x2).bind fun t284 => (impl_commonSides.l1 k x2 x7 (rd x14 x16) x14 x15 x16 t284 (t284.length : Int) 0 x280000 x280001 x280002)) else (none)) else (none)) else (some x7)
def impl_commonSides.l1 : Nat → Int → Int → Int → List Int → Int → Int → List Int → Int → Int → Int → Int → List Int → Option (Int)
 | 0, _, _, _, _, _, _, _, _, _, _, _, _ => none
 | k + 1, x2, x7, x9, x14, x15, x16, x22, x23, x24, x280000, x280001, x280002 => if x24 < x23 then (if 0 ≤ x24 then (if x24 < (x22.length : Int) then ((impl_areConnected.f x280000 x9 (rd x22 x24)).bind fun t288 => (if t288 = true then (impl_commonSides.l1 k x2 (wrap64 (x7 + 1)) x9 x14 x15 x16 x22 x23 (wrap64 (x24 + 1)) x280000 x280001 x280002) else (impl_commonSides.l1 k x2 x7 x9 x14 x15 x16 x22 x23 (wrap64 (x24 + 1)) x280000 x280001 x280002))) else (none)) else (none)) else (impl_commonSides.l0 k x2 x7 x14 x15 (wrap64 (x16 + 1)) x280000 x280001 x280002)
end
def impl_commonSides.f (k : Nat) (a0_0 : Int) (a0_1 : Int) (l0_2 : List Int) (a1 : Int) (a2 : Int) : Option (Int) := (impl_cellsOf.f k a0_0 a0_1 l0_2 a1).bind fun t280 => (impl_commonSides.l0 k a2 0 t280 (t280.length : Int) 0 a0_0 a0_1 l0_2)
set_option maxHeartbeats 8000000 in
set_option maxRecDepth 100000 in
theorem impl_commonSides.calls (k : Nat) (a0_0 : Int) (a0_1 : Int) (A0_2 : Option Addr) (c0_2 : Nat) (l0_2 : List Int) (a1 : Int) (a2 : Int) (r : Int) (w : World) (hr0_2 : Kd.C (Kd.int .i64) w A0_2 l0_2.length l0_2) (hc0_2 : l0_2.length ≤ c0_2) (h : impl_commonSides.f k a0_0 a0_1 l0_2 a1 a2 = some r) :
  Calls Try.prog 26 #[.agg #[.int .i64 a0_0, .int .i64 a0_1, .slice A0_2 l0_2.length c0_2], .int .i64 a1, .int .i64 a2] w fun e w' => e = .returned (.int .i64 r) ∧ Below w.heap.size w w' := by
 have hu26 := Try.underlying26
 have HR0_2 := Aside0.mk hr0_2
 have HC0_2 := Aside0.mk hc0_2
 clear hr0_2 hc0_2
 have HB := Aside0.mk (Below.refl w.heap.size w)
 have H : ((impl_cellsOf.f k a0_0 a0_1 l0_2 a1).bind fun t280 => (impl_commonSides.l0 k a2 0 t280 (t280.length : Int) 0 a0_0 a0_1 l0_2)) = some r := h
 clear h
 replace H := Option.bind_eq_some_iff.mp H
 obtain ⟨t280, A40, H⟩ := H
 replace H : (impl_commonSides.l0 k a2 0 t280 (t280.length : Int) 0 a0_0 a0_1 l0_2) = some r := H
 have A4 := Aside0.mk A40
 clear A40
 have H' := Aside0.mk H
 clear H
 go_enter Try.func26, Try.ntmps26
 go_wp2_with (first | ((with_reducible refine gate_dst (N := 3) rfl ?_); refine box_event ?hg (N := 3) ?hd (cs := #[.int .i64 a0_0, .int .i64 a0_1, .slice A0_2 l0_2.length c0_2]) (t := 26) ?hr ?_; (case hd => rfl); (case hg => rfl); (case hr => exact zqS); intro gb279 hg w5 hbox hb; have BK279 := Aside0.mk (hbox); have GW279 := Aside0.mk ((by rw [hg]; exact (below_size zq0) : w.heap.size ≤ gb279)); replace HB := Aside0.mk (below_step zq0 hb); have GE279 := GW279; clear hb hbox hg; have hcz6_0 := bz BK279.out 0 (.int .i64 a0_0); have hcz6_1 := bz BK279.out 1 (.int .i64 a0_1); have hcz6_2 := bz BK279.out 2 (.slice A0_2 l0_2.length c0_2); have hfz6_0 := blk_frozen BK279.out 0; have hfz6_1 := blk_frozen BK279.out 1; have hfz6_2 := blk_frozen BK279.out 2) | ((with_reducible refine gate_callee (f := 23) rfl ?_); refine goesL_ (some 14) rfl rfl Try.func23 (by kernel_rfl) rfl #[.agg #[.int .i64 a0_0, .int .i64 a0_1, .slice A0_2 l0_2.length c0_2], .int .i64 a1] rfl zq1 ?_; (with_reducible refine (impl_cellsOf.calls k a0_0 a0_1 _ _ l0_2 a1 t280 _ ?side1 ?side2 A4.out).mono ?_); (case side1 => exact zqC (Kd.C_below HR0_2.out HB.out)); (case side2 => exact HC0_2.out); rintro e w7 ⟨v281, rfl, ho0, hb⟩; refine ⟨_, rfl, ?_⟩; have HO282 := Aside0.mk (Kd.R_lower ho0 (below_size zq27)); replace BK279 := Aside0.mk (blk_below (g := gb279) (o := .cells #[.int .i64 a0_0, .int .i64 a0_1, .slice A0_2 l0_2.length c0_2] 26 (0, 0)) (zqK BK279.out) hb); replace HB := Aside0.mk (below_step zq27 hb); (try clear hb); (try clear hb2); (try clear hk); (try clear hi); (try clear ho0); obtain ⟨Ao8, co8, eo8⟩ := Kd.R_slice HO282.out; subst eo8))
 go_loopg [7, 16] k (fun kq v7 v16 w' => ∃ (x7_1 : Int) (x16_1 : Int), v7 = .int .i64 x7_1 ∧ v16 = .int .i64 x16_1 ∧ Aside0 (impl_commonSides.l0 kq a2 x7_1 t280 (t280.length : Int) x16_1 a0_0 a0_1 l0_2 = some r) ∧ Aside0 (kq ≤ k) ∧ Aside0 (Kd.R (Kd.int .i64) 3 w' w.heap.size (fun _ => True) (.slice Ao8 t280.length co8) t280) ∧ Aside0 (w'.heap[gb279]? = some (.cells #[.int .i64 a0_0, .int .i64 a0_1, (.slice A0_2 l0_2.length c0_2)] 26 (0, 0))) ∧ Aside0 (Below w.heap.size w w'))
 case atStart => exact ⟨(0), (0), (by first | rfl | (simp; done) | (simp [*]; done)), (by first | rfl | (simp; done) | (simp [*]; done)), H', ⟨Nat.le_refl _⟩, ⟨zqR HO282.out⟩, ⟨by (with_reducible repeat (first | refine blk_drewN ?_ _ | refine blk_drew ?_ | refine blk_alloc ?_ _)); exact BK279.out⟩, ⟨zq27⟩⟩
 clear H'
 try clear c2
 try clear p2
 try clear hcz6_0
 try clear hcz6_1
 try clear hcz6_2
 try clear hfz6_0
 try clear hfz6_1
 try clear hfz6_2
 obtain ⟨x7_1, x16_1, rfl, rfl, HA, HK1, HO_14, BK279, HB⟩ := hrel
 cases gk with
 | zero => exact absurd HA.out (by simp [impl_commonSides.l0])
 | succ k1 =>
  have H := HA.out
  clear HA
  simp only [impl_commonSides.l0] at H
  by_cases c9 : x16_1 < (t280.length : Int)
  case neg =>
   rw [if_neg c9] at H
   have c9b0 : decide (x16_1 < (t280.length : Int)) = false := decide_eq_false c9
   clear c9
   obtain rfl := Option.some.inj H
   go_wp2
   go_ret
   exact ⟨zqE, zq27⟩
  rw [if_pos c9] at H
  have c9b0 : decide (x16_1 < (t280.length : Int)) = true := decide_eq_true c9
  clear c9
  by_cases c10 : 0 ≤ x16_1
  case neg =>
   rw [if_neg c10] at H
   exact absurd H (by simp)
  rw [if_pos c10] at H
  have c10b0 : decide (0 ≤ x16_1) = true := decide_eq_true c10
  clear c10
  by_cases c11 : x16_1 < (t280.length : Int)
  case neg =>
   rw [if_neg c11] at H
   exact absurd H (by simp)
  rw [if_pos c11] at H
  have c11b0 : decide (x16_1 < (t280.length : Int)) = true := decide_eq_true c11
  clear c11
  replace H := Option.bind_eq_some_iff.mp H
  obtain ⟨t284, A120, H⟩ := H
  replace H : (impl_commonSides.l1 k1 a2 x7_1 (rd t280 x16_1) t280 (t280.length : Int) x16_1 t284 (t284.length : Int) 0 a0_0 a0_1 l0_2) = some r := H
  have A12 := Aside0.mk A120
  clear A120
  have H' := Aside0.mk H
  clear H
  have p283 : 0 ≤ (x16_1 : Int) := of_decide_eq_true zq10
  have q283 : x16_1 < (t280.length : Int) := of_decide_eq_true zq10
  obtain ⟨ad283, e283, hx283_0⟩ := Kd.at_int (Kd.R_reads' HO_14.out).2.2 x16_1 p283 q283
  cases e283
  replace p283 := eq_true p283
  replace q283 := eq_true q283
  have hcz13_0 := bz BK279.out 0 (.int .i64 a0_0)
  have hcz13_1 := bz BK279.out 1 (.int .i64 a0_1)
  have hcz13_2 := bz BK279.out 2 (.slice A0_2 l0_2.length c0_2)
  have hfz13_0 := blk_frozen BK279.out 0
  have hfz13_1 := blk_frozen BK279.out 1
  have hfz13_2 := blk_frozen BK279.out 2
  go_wp2_with (first | ((with_reducible refine gate_callee (f := 23) rfl ?_); refine goesL_ (some 22) rfl rfl Try.func23 (by kernel_rfl) rfl #[.agg #[.int .i64 a0_0, .int .i64 a0_1, .slice A0_2 l0_2.length c0_2], .int .i64 a2] rfl zq1 ?_; (with_reducible refine (impl_cellsOf.calls k1 a0_0 a0_1 _ _ l0_2 a2 t284 _ ?side1 ?side2 A12.out).mono ?_); (case side1 => exact zqC (Kd.C_below HR0_2.out HB.out)); (case side2 => exact HC0_2.out); rintro e w14 ⟨v285, rfl, ho0, hb⟩; refine ⟨_, rfl, ?_⟩; have HO286 := Aside0.mk (Kd.R_lower (Kd.R_new' ho0 (Kd.R_lt (zqR HO_14.out))) (below_size zq27)); replace HO_14 := Aside0.mk (Kd.R_elder' (zqR HO_14.out) (Kd.R_base ho0) hb); replace BK279 := Aside0.mk (blk_below (g := gb279) (o := .cells #[.int .i64 a0_0, .int .i64 a0_1, .slice A0_2 l0_2.length c0_2] 26 (0, 0)) (zqK BK279.out) hb); replace HB := Aside0.mk (below_step zq27 hb); (try clear hb); (try clear hb2); (try clear hk); (try clear hi); (try clear ho0); obtain ⟨Ao15, co15, eo15⟩ := Kd.R_slice HO286.out; subst eo15))
  go_loopg [7, 24] k1 (fun kq v7 v24 w' => ∃ (x7_2 : Int) (x24_2 : Int), v7 = .int .i64 x7_2 ∧ v24 = .int .i64 x24_2 ∧ Aside0 (impl_commonSides.l1 kq a2 x7_2 (rd t280 x16_1) t280 (t280.length : Int) x16_1 t284 (t284.length : Int) x24_2 a0_0 a0_1 l0_2 = some r) ∧ Aside0 (kq ≤ k1) ∧ Aside0 (Kd.R (Kd.int .i64) 3 w' w.heap.size (fun k_ => some k_ ≠ ((.slice Ao15 t284.length co15) : Value).ownBlock) (.slice (some ad283) t280.length co8) t280) ∧ Aside0 (Kd.R (Kd.int .i64) 3 w' w.heap.size (fun k_ => some k_ ≠ ((.slice (some ad283) t280.length co8) : Value).ownBlock) (.slice Ao15 t284.length co15) t284) ∧ Aside0 (w'.heap[gb279]? = some (.cells #[.int .i64 a0_0, .int .i64 a0_1, (.slice A0_2 l0_2.length c0_2)] 26 (0, 0))) ∧ Aside0 (Below w.heap.size w w'))
  case atStart => exact ⟨(x7_1), (0), (by first | rfl | (simp; done) | (simp [*]; done)), (by first | rfl | (simp; done) | (simp [*]; done)), H', ⟨Nat.le_refl _⟩, ⟨by (with_reducible repeat (first | apply Kd.R_alloc | apply Kd.R_drewN | apply Kd.R_drew)); exact Kd.R_mono HO_14.out (fun _ hk => hk.2)⟩, ⟨by (with_reducible repeat (first | apply Kd.R_alloc | apply Kd.R_drewN | apply Kd.R_drew)); exact Kd.R_mono HO286.out (fun _ hk => hk.2)⟩, ⟨by (with_reducible repeat (first | refine blk_drewN ?_ _ | refine blk_drew ?_ | refine blk_alloc ?_ _)); exact BK279.out⟩, ⟨zq27⟩⟩
  clear H'
  try clear c1
  try clear c2
  try clear p2
  try clear q2
  try clear hx2
  try clear c9
  try clear c9b0
  try clear c10
  try clear c10b0
  try clear c11
  try clear c11b0
  try clear hcz13_0
  try clear hcz13_1
  try clear hcz13_2
  try clear hcz6_0
  try clear hcz6_1
  try clear hcz6_2
  try clear hfz13_0
  try clear hfz13_1
  try clear hfz13_2
  try clear hfz6_0
  try clear hfz6_1
  try clear hfz6_2
  try clear hx283_0
  try clear p2
  try clear p283
  try clear q283
  obtain ⟨x7_2, x24_2, rfl, rfl, HA, HK2, HO_14, HO_22, BK279, HB⟩ := hrel
  cases gk with
  | zero => exact absurd HA.out (by simp [impl_commonSides.l1])
  | succ k2 =>
   have H := HA.out
   clear HA
   simp only [impl_commonSides.l1] at H
   by_cases c16 : x24_2 < (t284.length : Int)
   case neg =>
    rw [if_neg c16] at H
    have c16b0 : decide (x24_2 < (t284.length : Int)) = false := decide_eq_false c16
    clear c16
    have H' := Aside0.mk H
    clear H
    go_wp2
    go_roundg k2
    case measure => have := HK1.out; have := HK2.out; omega
    case rel => exact ⟨(x7_2), (wrap64 (x16_1 + 1)), (by first | rfl | (simp; done) | (simp [*]; done)), (by first | rfl | (simp; done) | (simp [*]; done)), H', ⟨by have := HK1.out; have := HK2.out; omega⟩, ⟨by (with_reducible repeat (first | apply Kd.R_alloc | apply Kd.R_drewN | apply Kd.R_drew)); exact Kd.R_mono HO_14.out (fun _ hk => trivial)⟩, ⟨by (with_reducible repeat (first | refine blk_drewN ?_ _ | refine blk_drew ?_ | refine blk_alloc ?_ _)); exact BK279.out⟩, ⟨zq27⟩⟩
   rw [if_pos c16] at H
   have c16b0 : decide (x24_2 < (t284.length : Int)) = true := decide_eq_true c16
   clear c16
   by_cases c17 : 0 ≤ x24_2
   case neg =>
    rw [if_neg c17] at H
    exact absurd H (by simp)
   rw [if_pos c17] at H
   have c17b0 : decide (0 ≤ x24_2) = true := decide_eq_true c17
   clear c17
   by_cases c18 : x24_2 < (t284.length : Int)
   case neg =>
    rw [if_neg c18] at H
    exact absurd H (by simp)
   rw [if_pos c18] at H
   have c18b0 : decide (x24_2 < (t284.length : Int)) = true := decide_eq_true c18
   clear c18
   replace H := Option.bind_eq_some_iff.mp H
   obtain ⟨t288, A190, H⟩ := H
   replace H : (if t288 = true then (impl_commonSides.l1 k2 a2 (wrap64 (x7_2 + 1)) (rd t280 x16_1) t280 (t280.length : Int) x16_1 t284 (t284.length : Int) (wrap64 (x24_2 + 1)) a0_0 a0_1 l0_2) else (impl_commonSides.l1 k2 a2 x7_2 (rd t280 x16_1) t280 (t280.length : Int) x16_1 t284 (t284.length : Int) (wrap64 (x24_2 + 1)) a0_0 a0_1 l0_2)) = some r := H
   have A19 := Aside0.mk A190
   clear A190
   by_cases c20 : t288 = true
   case pos =>
    subst c20
    have H1 : (impl_commonSides.l1 k2 a2 (wrap64 (x7_2 + 1)) (rd t280 x16_1) t280 (t280.length : Int) x16_1 t284 (t284.length : Int) (wrap64 (x24_2 + 1)) a0_0 a0_1 l0_2) = some r := by rw [if_pos rfl] at H; exact H
    clear H
    have H := H1
    clear H1
    have H' := Aside0.mk H
    clear H
    have p287 : 0 ≤ (x24_2 : Int) := of_decide_eq_true zq10
    have q287 : x24_2 < (t284.length : Int) := of_decide_eq_true zq10
    obtain ⟨ad287, e287, hx287_0⟩ := Kd.at_int (Kd.R_reads' HO_22.out).2.2 x24_2 p287 q287
    cases e287
    replace p287 := eq_true p287
    replace q287 := eq_true q287
    have hcz21_0 := bz BK279.out 0 (.int .i64 a0_0)
    have hcz21_1 := bz BK279.out 1 (.int .i64 a0_1)
    have hcz21_2 := bz BK279.out 2 (.slice A0_2 l0_2.length c0_2)
    have hfz21_0 := blk_frozen BK279.out 0
    have hfz21_1 := blk_frozen BK279.out 1
    have hfz21_2 := blk_frozen BK279.out 2
    go_wp2_with (first | ((with_reducible refine gate_callee (f := 43) rfl ?_); refine goesL_ (some 32) rfl rfl Try.func43 (by kernel_rfl) rfl #[.int .i64 a0_0, .int .i64 (rd t280 x16_1), .int .i64 (rd t284 x24_2)] rfl zq1 ?_; (with_reducible refine (impl_areConnected.calls a0_0 (rd t280 x16_1) (rd t284 x24_2) true _ A19.out).mono ?_); rintro e w' ⟨rfl, ⟨nd, rfl⟩⟩; refine ⟨_, rfl, ?_⟩))
    go_roundg k2
    case measure => have := HK1.out; have := HK2.out; omega
    case rel => exact ⟨(wrap64 (x7_2 + 1)), (wrap64 (x24_2 + 1)), (by first | rfl | (simp; done) | (simp [*]; done)), (by first | rfl | (simp; done) | (simp [*]; done)), H', ⟨by have := HK1.out; have := HK2.out; omega⟩, ⟨zqR HO_14.out⟩, ⟨zqR HO_22.out⟩, ⟨by (with_reducible repeat (first | refine blk_drewN ?_ _ | refine blk_drew ?_ | refine blk_alloc ?_ _)); exact BK279.out⟩, ⟨zq27⟩⟩
   replace c20 := Bool.eq_false_iff.mpr c20
   subst c20
   have H1 : (impl_commonSides.l1 k2 a2 x7_2 (rd t280 x16_1) t280 (t280.length : Int) x16_1 t284 (t284.length : Int) (wrap64 (x24_2 + 1)) a0_0 a0_1 l0_2) = some r := by rw [if_neg (show ¬ (false = true) by decide)] at H; exact H
   clear H
   have H := H1
   clear H1
   have H' := Aside0.mk H
   clear H
   have p287 : 0 ≤ (x24_2 : Int) := of_decide_eq_true zq10
   have q287 : x24_2 < (t284.length : Int) := of_decide_eq_true zq10
   obtain ⟨ad287, e287, hx287_0⟩ := Kd.at_int (Kd.R_reads' HO_22.out).2.2 x24_2 p287 q287
   cases e287
   replace p287 := eq_true p287
   replace q287 := eq_true q287
   have hcz22_0 := bz BK279.out 0 (.int .i64 a0_0)
   have hcz22_1 := bz BK279.out 1 (.int .i64 a0_1)
   have hcz22_2 := bz BK279.out 2 (.slice A0_2 l0_2.length c0_2)
   have hfz22_0 := blk_frozen BK279.out 0
   have hfz22_1 := blk_frozen BK279.out 1
   have hfz22_2 := blk_frozen BK279.out 2
   go_wp2_with (first | ((with_reducible refine gate_callee (f := 43) rfl ?_); refine goesL_ (some 32) rfl rfl Try.func43 (by kernel_rfl) rfl #[.int .i64 a0_0, .int .i64 (rd t280 x16_1), .int .i64 (rd t284 x24_2)] rfl zq1 ?_; (with_reducible refine (impl_areConnected.calls a0_0 (rd t280 x16_1) (rd t284 x24_2) false _ A19.out).mono ?_); rintro e w' ⟨rfl, ⟨nd, rfl⟩⟩; refine ⟨_, rfl, ?_⟩))
   go_roundg k2
   case measure => have := HK1.out; have := HK2.out; omega
   case rel => exact ⟨(x7_2), (wrap64 (x24_2 + 1)), (by first | rfl | (simp; done) | (simp [*]; done)), (by first | rfl | (simp; done) | (simp [*]; done)), H', ⟨by have := HK1.out; have := HK2.out; omega⟩, ⟨zqR HO_14.out⟩, ⟨zqR HO_22.out⟩, ⟨by (with_reducible repeat (first | refine blk_drewN ?_ _ | refine blk_drew ?_ | refine blk_alloc ?_ _)); exact BK279.out⟩, ⟨zq27⟩⟩

/-! ### impl_CommonSides: function 9 -/
def impl_CommonSides.f (k : Nat) (a0_0 : Int) (a0_1 : Int) (l0_2 : List Int) (a1 : Int) (a2 : Int) : Option (Int × Bool) := (impl_hasAreas.f k a0_0 a0_1 l0_2 (([a1, a2] : List Int))).bind fun t293 => (if t293 = true then (if a1 = a2 then (some (0, false)) else ((impl_commonSides.f k a0_0 a0_1 l0_2 a1 a2).bind fun t294 => (some (t294, true)))) else (some (0, false)))
set_option maxHeartbeats 8000000 in
set_option maxRecDepth 100000 in
theorem impl_CommonSides.calls (k : Nat) (a0_0 : Int) (a0_1 : Int) (A0_2 : Option Addr) (c0_2 : Nat) (l0_2 : List Int) (a1 : Int) (a2 : Int) (r1 : Int) (r2 : Bool) (w : World) (hr0_2 : Kd.C (Kd.int .i64) w A0_2 l0_2.length l0_2) (hc0_2 : l0_2.length ≤ c0_2) (h : impl_CommonSides.f k a0_0 a0_1 l0_2 a1 a2 = some (r1, r2)) :
  Calls Try.prog 9 #[.agg #[.int .i64 a0_0, .int .i64 a0_1, .slice A0_2 l0_2.length c0_2], .int .i64 a1, .int .i64 a2] w fun e w' => e = .returned (.tuple #[.int .i64 r1, .bool r2]) ∧ Below w.heap.size w w' := by
 have hu26 := Try.underlying26
 have HR0_2 := Aside0.mk hr0_2
 have HC0_2 := Aside0.mk hc0_2
 clear hr0_2 hc0_2
 have HB := Aside0.mk (Below.refl w.heap.size w)
 have H : ((impl_hasAreas.f k a0_0 a0_1 l0_2 (([a1, a2] : List Int))).bind fun t293 => (if t293 = true then (if a1 = a2 then (some (0, false)) else ((impl_commonSides.f k a0_0 a0_1 l0_2 a1 a2).bind fun t294 => (some (t294, true)))) else (some (0, false)))) = some (r1, r2) := h
 clear h
 obtain ⟨y290, hy290⟩ : ∃ y_ : List Int, y_ = (([a1, a2] : List Int)) := ⟨_, rfl⟩
 replace H : ((impl_hasAreas.f k a0_0 a0_1 l0_2 y290).bind fun t293 => (if t293 = true then (if a1 = a2 then (some (0, false)) else ((impl_commonSides.f k a0_0 a0_1 l0_2 a1 a2).bind fun t294 => (some (t294, true)))) else (some (0, false)))) = some (r1, r2) := zqH hy290 H
 have Ny290 := Aside0.mk hy290
 clear hy290
 replace H := Option.bind_eq_some_iff.mp H
 obtain ⟨t293, A40, H⟩ := H
 replace H : (if t293 = true then (if a1 = a2 then (some (0, false)) else ((impl_commonSides.f k a0_0 a0_1 l0_2 a1 a2).bind fun t294 => (some (t294, true)))) else (some (0, false))) = some (r1, r2) := H
 have A4 := Aside0.mk A40
 clear A40
 by_cases c5 : t293 = true
 case neg =>
  replace c5 := Bool.eq_false_iff.mpr c5
  subst c5
  have H1 : (some (0, false)) = some (r1, r2) := by rw [if_neg (show ¬ (false = true) by decide)] at H; exact H
  clear H
  have H := H1
  clear H1
  simp only [Option.some.injEq, Prod.mk.injEq] at H
  obtain ⟨rfl, rfl⟩ := H
  go_enter Try.func9, Try.ntmps9
  go_wp2_with (first | ((with_reducible refine gate_dst (N := 3) rfl ?_); refine box_event ?hg (N := 3) ?hd (cs := #[.int .i64 a0_0, .int .i64 a0_1, .slice A0_2 l0_2.length c0_2]) (t := 26) ?hr ?_; (case hd => rfl); (case hg => rfl); (case hr => exact zqS); intro gb289 hg w22 hbox hb; have BK289 := Aside0.mk (hbox); have GW289 := Aside0.mk ((by rw [hg]; exact (below_size zq0) : w.heap.size ≤ gb289)); replace HB := Aside0.mk (below_step zq0 hb); have GE289 := GW289; clear hb hbox hg; have hcz23_0 := bz BK289.out 0 (.int .i64 a0_0); have hcz23_1 := bz BK289.out 1 (.int .i64 a0_1); have hcz23_2 := bz BK289.out 2 (.slice A0_2 l0_2.length c0_2); have hfz23_0 := blk_frozen BK289.out 0; have hfz23_1 := blk_frozen BK289.out 1; have hfz23_2 := blk_frozen BK289.out 2) | ((with_reducible refine gate_dst (N := 11) rfl ?_); refine Kd.R_lit (Kd.int .i64) _ 3 ?hg (N := 11) ?hd (xs := ([a1, a2] : List Int)) (inner := [.int .i64 a1, .int .i64 a2]) (ok := fun _ => True) (okp := fun _ => True) ?hr ?hp (fun _ hk => hk) trivial (Below.refl _ _) (Nat.le_refl _) (by simp) ?_; (case hd => rfl); (case hg => rfl); (case hr => exact zqS); (case hp => exact (Reps.one (show Kd.M (Kd.int .i64) _ _ _ a1 [.int .i64 a1] from rfl) (Reps.one (show Kd.M (Kd.int .i64) _ _ _ a2 [.int .i64 a2] from rfl) (Reps.none _ _)))); intro v291 w24 ho25 hb hg_ hnew_; clear hg_ hnew_; (first | rw [← Ny290.out] at ho25 | (simp only [Int.reduceToNat] at ho25; rw [← Ny290.out] at ho25)); have HO292 := Aside0.mk (Kd.R_lower ho25 (below_size zq19)); replace BK289 := Aside0.mk (blk_below (g := gb289) (o := .cells #[.int .i64 a0_0, .int .i64 a0_1, .slice A0_2 l0_2.length c0_2] 26 (0, 0)) (zqK BK289.out) hb); replace HB := Aside0.mk (below_step zq19 hb); clear hb ho25; obtain ⟨Ao26, co26, eo26⟩ := Kd.R_slice HO292.out; subst eo26) | ((with_reducible refine gate_callee (f := 21) rfl ?_); refine goesL_ (some 12) rfl rfl Try.func21 (by kernel_rfl) rfl #[.agg #[.int .i64 a0_0, .int .i64 a0_1, .slice A0_2 l0_2.length c0_2], .slice Ao26 y290.length co26] rfl zq1 ?_; (with_reducible refine (impl_hasAreas.calls k a0_0 a0_1 _ _ l0_2 _ _ y290 false _ ?side1 ?side2 ?side3 ?side4 A4.out).mono ?_); (case side1 => exact zqC (Kd.C_below HR0_2.out HB.out)); (case side2 => exact HC0_2.out); (case side3 => exact zqC (Kd.R_reads' HO292.out).2.2); (case side4 => exact (Kd.R_reads' HO292.out).2.1); rintro e w27 ⟨rfl, hb⟩; refine ⟨_, rfl, ?_⟩; replace HO292 := Aside0.mk (Kd.R_below (zqR HO292.out) hb); replace BK289 := Aside0.mk (blk_below (g := gb289) (o := .cells #[.int .i64 a0_0, .int .i64 a0_1, .slice A0_2 l0_2.length c0_2] 26 (0, 0)) (zqK BK289.out) hb); replace HB := Aside0.mk (below_step zq19 hb); (try clear hb); (try clear hb2); (try clear hk); (try clear hi)))
  go_ret2
  exact ⟨zqE, zq19⟩
 subst c5
 have H1 : (if a1 = a2 then (some (0, false)) else ((impl_commonSides.f k a0_0 a0_1 l0_2 a1 a2).bind fun t294 => (some (t294, true)))) = some (r1, r2) := by rw [if_pos rfl] at H; exact H
 clear H
 have H := H1
 clear H1
 by_cases c6 : a1 = a2
 case pos =>
  rw [if_pos c6] at H
  have c6b0 : (a1 == a2) = true := beq_iff_eq.mpr c6
  have c6b1 : (a1 != a2) = false := bne_eq_false_iff_eq.mpr c6
  clear c6
  simp only [Option.some.injEq, Prod.mk.injEq] at H
  obtain ⟨rfl, rfl⟩ := H
  go_enter Try.func9, Try.ntmps9
  go_wp2_with (first | ((with_reducible refine gate_dst (N := 3) rfl ?_); refine box_event ?hg (N := 3) ?hd (cs := #[.int .i64 a0_0, .int .i64 a0_1, .slice A0_2 l0_2.length c0_2]) (t := 26) ?hr ?_; (case hd => rfl); (case hg => rfl); (case hr => exact zqS); intro gb289 hg w7 hbox hb; have BK289 := Aside0.mk (hbox); have GW289 := Aside0.mk ((by rw [hg]; exact (below_size zq0) : w.heap.size ≤ gb289)); replace HB := Aside0.mk (below_step zq0 hb); have GE289 := GW289; clear hb hbox hg; have hcz8_0 := bz BK289.out 0 (.int .i64 a0_0); have hcz8_1 := bz BK289.out 1 (.int .i64 a0_1); have hcz8_2 := bz BK289.out 2 (.slice A0_2 l0_2.length c0_2); have hfz8_0 := blk_frozen BK289.out 0; have hfz8_1 := blk_frozen BK289.out 1; have hfz8_2 := blk_frozen BK289.out 2) | ((with_reducible refine gate_dst (N := 11) rfl ?_); refine Kd.R_lit (Kd.int .i64) _ 3 ?hg (N := 11) ?hd (xs := ([a1, a2] : List Int)) (inner := [.int .i64 a1, .int .i64 a2]) (ok := fun _ => True) (okp := fun _ => True) ?hr ?hp (fun _ hk => hk) trivial (Below.refl _ _) (Nat.le_refl _) (by simp) ?_; (case hd => rfl); (case hg => rfl); (case hr => exact zqS); (case hp => exact (Reps.one (show Kd.M (Kd.int .i64) _ _ _ a1 [.int .i64 a1] from rfl) (Reps.one (show Kd.M (Kd.int .i64) _ _ _ a2 [.int .i64 a2] from rfl) (Reps.none _ _)))); intro v291 w9 ho10 hb hg_ hnew_; clear hg_ hnew_; (first | rw [← Ny290.out] at ho10 | (simp only [Int.reduceToNat] at ho10; rw [← Ny290.out] at ho10)); have HO292 := Aside0.mk (Kd.R_lower ho10 (below_size zq19)); replace BK289 := Aside0.mk (blk_below (g := gb289) (o := .cells #[.int .i64 a0_0, .int .i64 a0_1, .slice A0_2 l0_2.length c0_2] 26 (0, 0)) (zqK BK289.out) hb); replace HB := Aside0.mk (below_step zq19 hb); clear hb ho10; obtain ⟨Ao11, co11, eo11⟩ := Kd.R_slice HO292.out; subst eo11) | ((with_reducible refine gate_callee (f := 21) rfl ?_); refine goesL_ (some 12) rfl rfl Try.func21 (by kernel_rfl) rfl #[.agg #[.int .i64 a0_0, .int .i64 a0_1, .slice A0_2 l0_2.length c0_2], .slice Ao11 y290.length co11] rfl zq1 ?_; (with_reducible refine (impl_hasAreas.calls k a0_0 a0_1 _ _ l0_2 _ _ y290 true _ ?side1 ?side2 ?side3 ?side4 A4.out).mono ?_); (case side1 => exact zqC (Kd.C_below HR0_2.out HB.out)); (case side2 => exact HC0_2.out); (case side3 => exact zqC (Kd.R_reads' HO292.out).2.2); (case side4 => exact (Kd.R_reads' HO292.out).2.1); rintro e w12 ⟨rfl, hb⟩; refine ⟨_, rfl, ?_⟩; replace HO292 := Aside0.mk (Kd.R_below (zqR HO292.out) hb); replace BK289 := Aside0.mk (blk_below (g := gb289) (o := .cells #[.int .i64 a0_0, .int .i64 a0_1, .slice A0_2 l0_2.length c0_2] 26 (0, 0)) (zqK BK289.out) hb); replace HB := Aside0.mk (below_step zq19 hb); (try clear hb); (try clear hb2); (try clear hk); (try clear hi)))
  go_ret2
  exact ⟨zqE, zq19⟩
 rw [if_neg c6] at H
 have c6b0 : (a1 == a2) = false := beq_eq_false_iff_ne.mpr c6
 have c6b1 : (a1 != a2) = true := bne_iff_ne.mpr c6
 replace H := Option.bind_eq_some_iff.mp H
 obtain ⟨t294, A130, H⟩ := H
 replace H : (some (t294, true)) = some (r1, r2) := H
 have A13 := Aside0.mk A130
 clear A130
 simp only [Option.some.injEq, Prod.mk.injEq] at H
 obtain ⟨rfl, rfl⟩ := H
 go_enter Try.func9, Try.ntmps9
 go_wp2_with (first | ((with_reducible refine gate_dst (N := 3) rfl ?_); refine box_event ?hg (N := 3) ?hd (cs := #[.int .i64 a0_0, .int .i64 a0_1, .slice A0_2 l0_2.length c0_2]) (t := 26) ?hr ?_; (case hd => rfl); (case hg => rfl); (case hr => exact zqS); intro gb289 hg w14 hbox hb; have BK289 := Aside0.mk (hbox); have GW289 := Aside0.mk ((by rw [hg]; exact (below_size zq0) : w.heap.size ≤ gb289)); replace HB := Aside0.mk (below_step zq0 hb); have GE289 := GW289; clear hb hbox hg; have hcz15_0 := bz BK289.out 0 (.int .i64 a0_0); have hcz15_1 := bz BK289.out 1 (.int .i64 a0_1); have hcz15_2 := bz BK289.out 2 (.slice A0_2 l0_2.length c0_2); have hfz15_0 := blk_frozen BK289.out 0; have hfz15_1 := blk_frozen BK289.out 1; have hfz15_2 := blk_frozen BK289.out 2) | ((with_reducible refine gate_dst (N := 11) rfl ?_); refine Kd.R_lit (Kd.int .i64) _ 3 ?hg (N := 11) ?hd (xs := ([a1, a2] : List Int)) (inner := [.int .i64 a1, .int .i64 a2]) (ok := fun _ => True) (okp := fun _ => True) ?hr ?hp (fun _ hk => hk) trivial (Below.refl _ _) (Nat.le_refl _) (by simp) ?_; (case hd => rfl); (case hg => rfl); (case hr => exact zqS); (case hp => exact (Reps.one (show Kd.M (Kd.int .i64) _ _ _ a1 [.int .i64 a1] from rfl) (Reps.one (show Kd.M (Kd.int .i64) _ _ _ a2 [.int .i64 a2] from rfl) (Reps.none _ _)))); intro v291 w16 ho17 hb hg_ hnew_; clear hg_ hnew_; (first | rw [← Ny290.out] at ho17 | (simp only [Int.reduceToNat] at ho17; rw [← Ny290.out] at ho17)); have HO292 := Aside0.mk (Kd.R_lower ho17 (below_size zq19)); replace BK289 := Aside0.mk (blk_below (g := gb289) (o := .cells #[.int .i64 a0_0, .int .i64 a0_1, .slice A0_2 l0_2.length c0_2] 26 (0, 0)) (zqK BK289.out) hb); replace HB := Aside0.mk (below_step zq19 hb); clear hb ho17; obtain ⟨Ao18, co18, eo18⟩ := Kd.R_slice HO292.out; subst eo18) | ((with_reducible refine gate_callee (f := 21) rfl ?_); refine goesL_ (some 12) rfl rfl Try.func21 (by kernel_rfl) rfl #[.agg #[.int .i64 a0_0, .int .i64 a0_1, .slice A0_2 l0_2.length c0_2], .slice Ao18 y290.length co18] rfl zq1 ?_; (with_reducible refine (impl_hasAreas.calls k a0_0 a0_1 _ _ l0_2 _ _ y290 true _ ?side1 ?side2 ?side3 ?side4 A4.out).mono ?_); (case side1 => exact zqC (Kd.C_below HR0_2.out HB.out)); (case side2 => exact HC0_2.out); (case side3 => exact zqC (Kd.R_reads' HO292.out).2.2); (case side4 => exact (Kd.R_reads' HO292.out).2.1); rintro e w19 ⟨rfl, hb⟩; refine ⟨_, rfl, ?_⟩; replace HO292 := Aside0.mk (Kd.R_below (zqR HO292.out) hb); replace BK289 := Aside0.mk (blk_below (g := gb289) (o := .cells #[.int .i64 a0_0, .int .i64 a0_1, .slice A0_2 l0_2.length c0_2] 26 (0, 0)) (zqK BK289.out) hb); replace HB := Aside0.mk (below_step zq19 hb); (try clear hb); (try clear hb2); (try clear hk); (try clear hi); have hcz20_0 := bz BK289.out 0 (.int .i64 a0_0); have hcz20_1 := bz BK289.out 1 (.int .i64 a0_1); have hcz20_2 := bz BK289.out 2 (.slice A0_2 l0_2.length c0_2); have hfz20_0 := blk_frozen BK289.out 0; have hfz20_1 := blk_frozen BK289.out 1; have hfz20_2 := blk_frozen BK289.out 2) | ((with_reducible refine gate_callee (f := 26) rfl ?_); refine goesL_ (some 22) rfl rfl Try.func26 (by kernel_rfl) rfl #[.agg #[.int .i64 a0_0, .int .i64 a0_1, .slice A0_2 l0_2.length c0_2], .int .i64 a1, .int .i64 a2] rfl zq1 ?_; (with_reducible refine (impl_commonSides.calls k a0_0 a0_1 _ _ l0_2 a1 a2 t294 _ ?side1 ?side2 A13.out).mono ?_); (case side1 => exact zqC (Kd.C_below HR0_2.out HB.out)); (case side2 => exact HC0_2.out); rintro e w21 ⟨rfl, hb⟩; refine ⟨_, rfl, ?_⟩; replace HO292 := Aside0.mk (Kd.R_below (zqR HO292.out) hb); replace BK289 := Aside0.mk (blk_below (g := gb289) (o := .cells #[.int .i64 a0_0, .int .i64 a0_1, .slice A0_2 l0_2.length c0_2] 26 (0, 0)) (zqK BK289.out) hb); replace HB := Aside0.mk (below_step zq19 hb); (try clear hb); (try clear hb2); (try clear hk); (try clear hi)))
 go_ret2
 exact ⟨zqE, zq19⟩
end Go.Proofs.Ytoaclbbkllpdaaa.Q
