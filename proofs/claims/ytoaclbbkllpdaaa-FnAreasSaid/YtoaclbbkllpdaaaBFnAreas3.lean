/- Texts of this seat, put together: Qf6, Qf49, Qf34, Qf35, Qf24, Qf25. -/
import Derived.Test.YtoaclbbkllpdaaaZFnAreas
import Derived.Test.YtoaclbbkllpdaaaBFnAreas0
import Derived.Test.YtoaclbbkllpdaaaBFnAreas2
namespace Go.Proofs.Ytoaclbbkllpdaaa.Q
open Go.RowKit Go.Proofs.YtoaclbbkllpdaaaW.PrintWords Go.Proofs.YtoaclbbkllpdaaaW.PrintLast Go.Proofs.YtoaclbbkllpdaaaW.PrintMore
attribute [local go_sem] max2_int min2_int max_two min_two max_three min_three max_four min_four   -- for this text's walks alone
set_option linter.unusedVariables false
set_option linter.unusedSimpArgs false

/-! ### impl_MergeAreas: function 6 -/
mutual
def impl_MergeAreas.j0 : Nat → Int → Int → Bool → Int → Int → List Int → Option (Int × Int × List Int × Bool)
 | 0, _, _, _, _, _, _ => none
 | k + 1, x1, x2, x21, x233000, x233001, x233002 => if x21 = true then (some (0, 0, ([] : List Int), false)) else ((slices_Clone_int_int.f x233002).bind fun t238 => ((impl_cellsOf.f k x233000 x233001 x233002 x2).bind fun t242 => (impl_MergeAreas.l0 k x1 t242 (t242.length : Int) 0 x233000 x233001 t238)))
def impl_MergeAreas.l0 : Nat → Int → List Int → Int → Int → Int → Int → List Int → Option (Int × Int × List Int × Bool)
 | 0, _, _, _, _, _, _, _ => none
 | k + 1, x1, x33, x34, x35, x242000, x242001, x242002 => if x35 < x34 then (if 0 ≤ x35 then (if x35 < (x33.length : Int) then (if 0 ≤ (rd x33 x35) then (if (rd x33 x35) < (x242002.length : Int) then (impl_MergeAreas.l0 k x1 x33 x34 (wrap64 (x35 + 1)) x242000 x242001 (x242002.set ((rd x33 x35) : Int).toNat x1)) else (none)) else (none)) else (none)) else (none)) else (some (x242000, x242001, x242002, true))
end
def impl_MergeAreas.f (k : Nat) (a0_0 : Int) (a0_1 : Int) (l0_2 : List Int) (a1 : Int) (a2 : Int) : Option (Int × Int × List Int × Bool) := (impl_hasAreas.f k a0_0 a0_1 l0_2 (([a1, a2] : List Int))).bind fun t237 => (if t237 = true then (impl_MergeAreas.j0 k a1 a2 (a1 == a2) a0_0 a0_1 l0_2) else (impl_MergeAreas.j0 k a1 a2 true a0_0 a0_1 l0_2))
def impl_MergeAreas.T3 : Bool × List (List Nat × List Nat) := (true, [([], []), ([0], [0]), ([], []), ([2], [2]), ([], []), ([4], [4]), ([5], [5]), ([1, 3, 6], [1, 3, 6]), ([], []), ([8, 7, 6, 0, 1, 2, 3, 4, 5, 6, 7, 8], [7, 8])])
def impl_MergeAreas.B3 : List Nat := [0, 1, 0, 4, 0, 16, 48, 127, 0, 511]
theorem impl_MergeAreas.tab3 : rtab .any (opsOf Try.f6 3) = impl_MergeAreas.T3 := by kernel_rfl
theorem impl_MergeAreas.bits3 : waitsOk impl_MergeAreas.T3.2 impl_MergeAreas.B3 = true := by kernel_rfl
set_option maxHeartbeats 8000000 in
set_option maxRecDepth 100000 in
theorem impl_MergeAreas.calls (k : Nat) (a0_0 : Int) (a0_1 : Int) (A0_2 : Option Addr) (c0_2 : Nat) (l0_2 : List Int) (a1 : Int) (a2 : Int) (r1 : Int) (r2 : Int) (r3 : List Int) (r4 : Bool) (w : World) (hr0_2 : Kd.C (Kd.int .i64) w A0_2 l0_2.length l0_2) (hc0_2 : l0_2.length ≤ c0_2) (h : impl_MergeAreas.f k a0_0 a0_1 l0_2 a1 a2 = some (r1, r2, r3, r4)) :
  Calls Try.prog 6 #[.agg #[.int .i64 a0_0, .int .i64 a0_1, .slice A0_2 l0_2.length c0_2], .int .i64 a1, .int .i64 a2] w fun e w' => ∃ v2_ : Value, e = .returned (.tuple #[.agg #[.int .i64 r1, .int .i64 r2, v2_], .bool r4]) ∧ Kd.R (Kd.int .i64) 3 w' w.heap.size (fun _ => True) v2_ r3 ∧ Below w.heap.size w w' := by
 have hu26 := Try.underlying26
 have HR0_2 := Aside0.mk hr0_2
 have HC0_2 := Aside0.mk hc0_2
 clear hr0_2 hc0_2
 have HB := Aside0.mk (Below.refl w.heap.size w)
 have H : ((impl_hasAreas.f k a0_0 a0_1 l0_2 (([a1, a2] : List Int))).bind fun t237 => (if t237 = true then (impl_MergeAreas.j0 k a1 a2 (a1 == a2) a0_0 a0_1 l0_2) else (impl_MergeAreas.j0 k a1 a2 true a0_0 a0_1 l0_2))) = some (r1, r2, r3, r4) := h
 clear h
 have HC4 := Aside0.mk H
 clear H
 go_enter Try.func6, Try.ntmps6
 go_upto_region 1 with (first | ((with_reducible refine gate_dst (N := 3) rfl ?_); refine box_event ?hg (N := 3) ?hd (cs := #[.int .i64 a0_0, .int .i64 a0_1, .slice A0_2 l0_2.length c0_2]) (t := 26) ?hr ?_; (case hd => rfl); (case hg => rfl); (case hr => exact zqS); intro gb232 hg w5 hbox hb; have BK232 := Aside0.mk (hbox); have GW232 := Aside0.mk ((by rw [hg]; exact (below_size zq0) : w.heap.size ≤ gb232)); replace HB := Aside0.mk (below_step zq0 hb); have GE232 := GW232; clear hb hbox hg) | ((with_reducible refine gate_dst (N := 6) rfl ?_); refine box_event ?hg (N := 6) ?hd (cs := #[.int .i64 0, .int .i64 0, .slice none 0 0]) (t := 26) ?hr ?_; (case hd => rfl); (case hg => rfl); (case hr => exact zqS); intro gb233 hg w6 hbox hb; have BK233 := Aside0.mk (hbox); have GW233 := Aside0.mk ((by rw [hg]; exact (below_size zq47) : w.heap.size ≤ gb233)); replace HB := Aside0.mk (below_step zq47 hb); have GE233 := GW233; have NB232_233 := Aside0.mk ((by rw [hg]; exact Nat.ne_of_lt (blk_lt (g := gb232) (o := .cells #[.int .i64 a0_0, .int .i64 a0_1, .slice A0_2 l0_2.length c0_2] 26 (0, 0)) (zqK BK232.out)) : gb232 ≠ gb233)); have NB233_232 := Aside0.mk ((by rw [hg]; exact Nat.ne_of_gt (blk_lt (g := gb232) (o := .cells #[.int .i64 a0_0, .int .i64 a0_1, .slice A0_2 l0_2.length c0_2] 26 (0, 0)) (zqK BK232.out)) : gb233 ≠ gb232)); replace BK232 := Aside0.mk (blk_below (g := gb232) (o := .cells #[.int .i64 a0_0, .int .i64 a0_1, .slice A0_2 l0_2.length c0_2] 26 (0, 0)) (zqK BK232.out) hb); clear hb hbox hg))
 (try simp only [Act.put, List.setIfInBounds_toArray, List.set_cons_zero, List.set_cons_succ])
 go_cut [21] (fun v21 wc => ∃ (kq : Nat) (x21_3 : Bool), v21 = .bool x21_3 ∧ Aside0 (impl_MergeAreas.j0 kq a1 a2 x21_3 a0_0 a0_1 l0_2 = some (r1, r2, r3, r4)) ∧ Aside0 (kq ≤ k) ∧ Aside0 (wc.heap[gb232]? = some (.cells #[.int .i64 a0_0, .int .i64 a0_1, (.slice A0_2 l0_2.length c0_2)] 26 (0, 0))) ∧ Aside0 (wc.heap[gb233]? = some (.cells #[.int .i64 0, .int .i64 0, (.slice none 0 0)] 26 (0, 0))) ∧ Aside0 (Below w.heap.size w wc))
 case first =>
  have H := HC4.out
  clear HC4
  obtain ⟨y234, hy234⟩ : ∃ y_ : List Int, y_ = (([a1, a2] : List Int)) := ⟨_, rfl⟩
  replace H : ((impl_hasAreas.f k a0_0 a0_1 l0_2 y234).bind fun t237 => (if t237 = true then (impl_MergeAreas.j0 k a1 a2 (a1 == a2) a0_0 a0_1 l0_2) else (impl_MergeAreas.j0 k a1 a2 true a0_0 a0_1 l0_2))) = some (r1, r2, r3, r4) := zqH hy234 H
  have Ny234 := Aside0.mk hy234
  clear hy234
  replace H := Option.bind_eq_some_iff.mp H
  obtain ⟨t237, A70, H⟩ := H
  replace H : (if t237 = true then (impl_MergeAreas.j0 k a1 a2 (a1 == a2) a0_0 a0_1 l0_2) else (impl_MergeAreas.j0 k a1 a2 true a0_0 a0_1 l0_2)) = some (r1, r2, r3, r4) := H
  have A7 := Aside0.mk A70
  clear A70
  by_cases c8 : t237 = true
  case pos =>
   subst c8
   have H1 : (impl_MergeAreas.j0 k a1 a2 (a1 == a2) a0_0 a0_1 l0_2) = some (r1, r2, r3, r4) := by rw [if_pos rfl] at H; exact H
   clear H
   have H := H1
   clear H1
   have H' := Aside0.mk H
   clear H
   have hnb9 := NB232_233.out
   have hnc9 := NB233_232.out
   have hcz10_0 := bz BK232.out 0 (.int .i64 a0_0)
   have hcz10_1 := bz BK232.out 1 (.int .i64 a0_1)
   have hcz10_2 := bz BK232.out 2 (.slice A0_2 l0_2.length c0_2)
   have hfz10_0 := blk_frozen BK232.out 0
   have hfz10_1 := blk_frozen BK232.out 1
   have hfz10_2 := blk_frozen BK232.out 2
   go_wp2_with (first | ((with_reducible refine gate_dst (N := 14) rfl ?_); refine Kd.R_lit (Kd.int .i64) _ 3 ?hg (N := 14) ?hd (xs := ([a1, a2] : List Int)) (inner := [.int .i64 a1, .int .i64 a2]) (ok := fun _ => True) (okp := fun _ => True) ?hr ?hp (fun _ hk => hk) trivial (Below.refl _ _) (Nat.le_refl _) (by simp) ?_; (case hd => rfl); (case hg => rfl); (case hr => exact zqS); (case hp => exact (Reps.one (show Kd.M (Kd.int .i64) _ _ _ a1 [.int .i64 a1] from rfl) (Reps.one (show Kd.M (Kd.int .i64) _ _ _ a2 [.int .i64 a2] from rfl) (Reps.none _ _)))); intro v235 w11 ho12 hb hg_ hnew_; clear hg_ hnew_; (first | rw [← Ny234.out] at ho12 | (simp only [Int.reduceToNat] at ho12; rw [← Ny234.out] at ho12)); have HO236 := Aside0.mk (Kd.R_lower ho12 (below_size zq8)); replace BK232 := Aside0.mk (blk_below (g := gb232) (o := .cells #[.int .i64 a0_0, .int .i64 a0_1, .slice A0_2 l0_2.length c0_2] 26 (0, 0)) (zqK BK232.out) hb); replace BK233 := Aside0.mk (blk_below (g := gb233) (o := .cells #[.int .i64 0, .int .i64 0, .slice none 0 0] 26 (0, 0)) (zqK BK233.out) hb); replace HB := Aside0.mk (below_step zq8 hb); clear hb ho12; obtain ⟨Ao13, co13, eo13⟩ := Kd.R_slice HO236.out; subst eo13) | ((with_reducible refine gate_callee (f := 21) rfl ?_); refine goesL_ (some 15) rfl rfl Try.func21 (by kernel_rfl) rfl #[.agg #[.int .i64 a0_0, .int .i64 a0_1, .slice A0_2 l0_2.length c0_2], .slice Ao13 y234.length co13] rfl zq1 ?_; (with_reducible refine (impl_hasAreas.calls k a0_0 a0_1 _ _ l0_2 _ _ y234 true _ ?side1 ?side2 ?side3 ?side4 A7.out).mono ?_); (case side1 => exact zqC (Kd.C_below HR0_2.out HB.out)); (case side2 => exact HC0_2.out); (case side3 => exact zqC (Kd.R_reads' HO236.out).2.2); (case side4 => exact (Kd.R_reads' HO236.out).2.1); rintro e w14 ⟨rfl, hb⟩; refine ⟨_, rfl, ?_⟩; replace HO236 := Aside0.mk (Kd.R_below (zqR HO236.out) hb); replace BK232 := Aside0.mk (blk_below (g := gb232) (o := .cells #[.int .i64 a0_0, .int .i64 a0_1, .slice A0_2 l0_2.length c0_2] 26 (0, 0)) (zqK BK232.out) hb); replace BK233 := Aside0.mk (blk_below (g := gb233) (o := .cells #[.int .i64 0, .int .i64 0, .slice none 0 0] 26 (0, 0)) (zqK BK233.out) hb); replace HB := Aside0.mk (below_step zq8 hb); (try clear hb); (try clear hb2); (try clear hk); (try clear hi)))
   go_meet
   case rel => exact ⟨_, ((a1 == a2)), (by first | rfl | (simp; done) | (simp [*]; done)), H', ⟨by first | omega | exact Nat.le_refl _⟩, ⟨by (with_reducible repeat (first | refine blk_drewN ?_ _ | refine blk_drew ?_ | refine blk_alloc ?_ _)); exact BK232.out⟩, ⟨by (with_reducible repeat (first | refine blk_drewN ?_ _ | refine blk_drew ?_ | refine blk_alloc ?_ _)); exact BK233.out⟩, ⟨zq8⟩⟩
  replace c8 := Bool.eq_false_iff.mpr c8
  subst c8
  have H1 : (impl_MergeAreas.j0 k a1 a2 true a0_0 a0_1 l0_2) = some (r1, r2, r3, r4) := by rw [if_neg (show ¬ (false = true) by decide)] at H; exact H
  clear H
  have H := H1
  clear H1
  have H' := Aside0.mk H
  clear H
  have hnb15 := NB232_233.out
  have hnc15 := NB233_232.out
  have hcz16_0 := bz BK232.out 0 (.int .i64 a0_0)
  have hcz16_1 := bz BK232.out 1 (.int .i64 a0_1)
  have hcz16_2 := bz BK232.out 2 (.slice A0_2 l0_2.length c0_2)
  have hfz16_0 := blk_frozen BK232.out 0
  have hfz16_1 := blk_frozen BK232.out 1
  have hfz16_2 := blk_frozen BK232.out 2
  go_wp2_with (first | ((with_reducible refine gate_dst (N := 14) rfl ?_); refine Kd.R_lit (Kd.int .i64) _ 3 ?hg (N := 14) ?hd (xs := ([a1, a2] : List Int)) (inner := [.int .i64 a1, .int .i64 a2]) (ok := fun _ => True) (okp := fun _ => True) ?hr ?hp (fun _ hk => hk) trivial (Below.refl _ _) (Nat.le_refl _) (by simp) ?_; (case hd => rfl); (case hg => rfl); (case hr => exact zqS); (case hp => exact (Reps.one (show Kd.M (Kd.int .i64) _ _ _ a1 [.int .i64 a1] from rfl) (Reps.one (show Kd.M (Kd.int .i64) _ _ _ a2 [.int .i64 a2] from rfl) (Reps.none _ _)))); intro v235 w17 ho18 hb hg_ hnew_; clear hg_ hnew_; (first | rw [← Ny234.out] at ho18 | (simp only [Int.reduceToNat] at ho18; rw [← Ny234.out] at ho18)); have HO236 := Aside0.mk (Kd.R_lower ho18 (below_size zq8)); replace BK232 := Aside0.mk (blk_below (g := gb232) (o := .cells #[.int .i64 a0_0, .int .i64 a0_1, .slice A0_2 l0_2.length c0_2] 26 (0, 0)) (zqK BK232.out) hb); replace BK233 := Aside0.mk (blk_below (g := gb233) (o := .cells #[.int .i64 0, .int .i64 0, .slice none 0 0] 26 (0, 0)) (zqK BK233.out) hb); replace HB := Aside0.mk (below_step zq8 hb); clear hb ho18; obtain ⟨Ao19, co19, eo19⟩ := Kd.R_slice HO236.out; subst eo19) | ((with_reducible refine gate_callee (f := 21) rfl ?_); refine goesL_ (some 15) rfl rfl Try.func21 (by kernel_rfl) rfl #[.agg #[.int .i64 a0_0, .int .i64 a0_1, .slice A0_2 l0_2.length c0_2], .slice Ao19 y234.length co19] rfl zq1 ?_; (with_reducible refine (impl_hasAreas.calls k a0_0 a0_1 _ _ l0_2 _ _ y234 false _ ?side1 ?side2 ?side3 ?side4 A7.out).mono ?_); (case side1 => exact zqC (Kd.C_below HR0_2.out HB.out)); (case side2 => exact HC0_2.out); (case side3 => exact zqC (Kd.R_reads' HO236.out).2.2); (case side4 => exact (Kd.R_reads' HO236.out).2.1); rintro e w20 ⟨rfl, hb⟩; refine ⟨_, rfl, ?_⟩; replace HO236 := Aside0.mk (Kd.R_below (zqR HO236.out) hb); replace BK232 := Aside0.mk (blk_below (g := gb232) (o := .cells #[.int .i64 a0_0, .int .i64 a0_1, .slice A0_2 l0_2.length c0_2] 26 (0, 0)) (zqK BK232.out) hb); replace BK233 := Aside0.mk (blk_below (g := gb233) (o := .cells #[.int .i64 0, .int .i64 0, .slice none 0 0] 26 (0, 0)) (zqK BK233.out) hb); replace HB := Aside0.mk (below_step zq8 hb); (try clear hb); (try clear hb2); (try clear hk); (try clear hi)))
  go_meet
  case rel => exact ⟨_, (true), (by first | rfl | (simp; done) | (simp [*]; done)), H', ⟨by first | omega | exact Nat.le_refl _⟩, ⟨by (with_reducible repeat (first | refine blk_drewN ?_ _ | refine blk_drew ?_ | refine blk_alloc ?_ _)); exact BK232.out⟩, ⟨by (with_reducible repeat (first | refine blk_drewN ?_ _ | refine blk_drew ?_ | refine blk_alloc ?_ _)); exact BK233.out⟩, ⟨zq8⟩⟩
 clear HC4
 try clear c1
 try clear c2
 try clear p2
 try clear c6
 try clear c8
 try clear c9
 try clear c15
 try clear hcz10_0
 try clear hcz10_1
 try clear hcz10_2
 try clear hcz16_0
 try clear hcz16_1
 try clear hcz16_2
 try clear hfz10_0
 try clear hfz10_1
 try clear hfz10_2
 try clear hfz16_0
 try clear hfz16_1
 try clear hfz16_2
 obtain ⟨kq, x21_3, rfl, HA, HJ3, BK232, BK233, HB⟩ := hcut
 cases kq with
 | zero => exact absurd HA.out (by simp [impl_MergeAreas.j0])
 | succ kj3 =>
  have H := HA.out
  clear HA
  simp only [impl_MergeAreas.j0] at H
  by_cases c21 : x21_3 = true
  case pos =>
   subst c21
   have H1 : (some (0, 0, ([] : List Int), false)) = some (r1, r2, r3, r4) := by rw [if_pos rfl] at H; exact H
   clear H
   have H := H1
   clear H1
   simp only [Option.some.injEq, Prod.mk.injEq] at H
   obtain ⟨rfl, rfl, rfl, rfl⟩ := H
   have hnb22 := NB233_232.out
   have hnc22 := NB232_233.out
   have hcz23_0 := bz BK233.out 0 (.int .i64 0)
   have hcz23_1 := bz BK233.out 1 (.int .i64 0)
   have hcz23_2 := bz BK233.out 2 (.slice none 0 0)
   have hfz23_0 := blk_frozen BK233.out 0
   have hfz23_1 := blk_frozen BK233.out 1
   have hfz23_2 := blk_frozen BK233.out 2
   go_wp2
   refine bodyPost_ret (results_ct rfl _ _ gb233 26 #[.int .i64 0, .int .i64 0, .slice none 0 0] (0, 0) _ rfl (by (with_reducible repeat (first | refine blk_drewN ?_ _ | refine blk_drew ?_ | refine blk_alloc ?_ _)); refine blk_put (cs := #[.int .i64 0, .int .i64 0, .slice none 0 0]) ?_ 2 _ rfl; (with_reducible repeat (first | refine blk_drewN ?_ _ | refine blk_drew ?_ | refine blk_alloc ?_ _)); refine blk_put (cs := #[.int .i64 0, .int .i64 0, .slice none 0 0]) ?_ 1 _ rfl; (with_reducible repeat (first | refine blk_drewN ?_ _ | refine blk_drew ?_ | refine blk_alloc ?_ _)); refine blk_put (cs := #[.int .i64 0, .int .i64 0, .slice none 0 0]) ?_ 0 _ rfl; (with_reducible repeat (first | refine blk_drewN ?_ _ | refine blk_drew ?_ | refine blk_alloc ?_ _)); exact BK233.out) Try.underlying26 rfl (by kernel_rfl)) rfl ?_
   exact ⟨_, by first | rfl | (simp [errW_none, errW_some] <;> rfl) | (simp [*, errW_none, errW_some] <;> rfl), by first | exact Kd.R_nil _ _ _ _ _ | exact Kd.N_nil _ _ _ _ _ | exact Kd.V_nil _ _ _ _ _ | exact Kd.Q_nil _ _ _ _ _ | exact Kd.S_nil _ _ _ _ _, zq8⟩
  replace c21 := Bool.eq_false_iff.mpr c21
  subst c21
  have H1 : ((slices_Clone_int_int.f l0_2).bind fun t238 => ((impl_cellsOf.f kj3 a0_0 a0_1 l0_2 a2).bind fun t242 => (impl_MergeAreas.l0 kj3 a1 t242 (t242.length : Int) 0 a0_0 a0_1 t238))) = some (r1, r2, r3, r4) := by rw [if_neg (show ¬ (false = true) by decide)] at H; exact H
  clear H
  have H := H1
  clear H1
  replace H := Option.bind_eq_some_iff.mp H
  obtain ⟨t238, A240, H⟩ := H
  replace H : ((impl_cellsOf.f kj3 a0_0 a0_1 l0_2 a2).bind fun t242 => (impl_MergeAreas.l0 kj3 a1 t242 (t242.length : Int) 0 a0_0 a0_1 t238)) = some (r1, r2, r3, r4) := H
  have A24 := Aside0.mk A240
  clear A240
  replace H := Option.bind_eq_some_iff.mp H
  obtain ⟨t242, A250, H⟩ := H
  replace H : (impl_MergeAreas.l0 kj3 a1 t242 (t242.length : Int) 0 a0_0 a0_1 t238) = some (r1, r2, r3, r4) := H
  have A25 := Aside0.mk A250
  clear A250
  have H' := Aside0.mk H
  clear H
  try go_wp2
  have n0_ := Aside0.mk (blk_drew BK232.out)
  have n1_ := Aside0.mk (blk_drew BK233.out)
  have n2_ := Aside0.mk (below_drew1 HB.out)
  clear BK232
  clear BK233
  clear HB
  have BK232 := n0_
  have BK233 := n1_
  have HB := n2_
  clear n0_ n1_ n2_
  refine start_ (n := 10) (S := fun w' => w'.cell? ⟨gb232, 0, none⟩ = some (.int .i64 a0_0) ∧ w'.cell? ⟨gb232, 1, none⟩ = some (.int .i64 a0_1) ∧ w'.cell? ⟨gb232, 2, none⟩ = some (.slice A0_2 l0_2.length c0_2)) (ds := []) #[false, false, false, false, false, false, false, false, false, false] (by kernel_rfl) rfl rfl ⟨(blk_cell BK232.out 0).trans rfl, (blk_cell BK232.out 1).trans rfl, (blk_cell BK232.out 2).trans rfl⟩ (fun hHeld => ?_); refine with_tabW impl_MergeAreas.tab3 impl_MergeAreas.bits3 (fun HT_ HW_ => ?_)
  generalize wc.drew = w26 at BK232 BK233 HB hHeld ⊢
  refine pure_ (i := 0) (N := some 23) (v := ?_) (a' := ?_) #[true, false, false, false, false, false, false, false, false, false] rfl rfl (any_of HT_.out (by kernel_rfl)) (fun _ _ _ h => h) (Or.inl ⟨by rfl, ?_⟩) ?_ ?_
  rotate_left; · exact zqB
  rotate_left; · exact zqA
  refine pure_ (i := 2) (N := some 25) (v := ?_) (a' := ?_) #[true, false, true, false, false, false, false, false, false, false] rfl rfl (any_of HT_.out (by kernel_rfl)) (fun _ _ _ h => h) (Or.inl ⟨by rfl, ?_⟩) ?_ ?_
  rotate_left; · exact zqB
  rotate_left; · exact zqA
  refine pure_ (i := 4) (N := some 27) (v := ?_) (a' := ?_) #[true, false, true, false, true, false, false, false, false, false] rfl rfl (any_of HT_.out (by kernel_rfl)) (fun _ _ _ h => h) (Or.inl ⟨by rfl, ?_⟩) ?_ ?_
  rotate_left; · exact zqB
  rotate_left; · exact zqA
  refine take_ (i := 1) (N := some 24) (v := ?_) (a' := ?_) #[true, true, true, false, true, false, false, false, false, false] rfl rfl (take_ofW HT_.out HW_.out (by kernel_rfl)) (fun _ _ _ h => h) (Or.inl ⟨by rfl, ?_⟩) hHeld ?_ ?_
  rotate_left
  ·
   rintro w' ⟨s0, s1, s2⟩
   go_simp
   with_reducible rfl
  rotate_left; · exact zqA
  refine take_ (i := 3) (N := some 26) (v := ?_) (a' := ?_) #[true, true, true, true, true, false, false, false, false, false] rfl rfl (take_ofW HT_.out HW_.out (by kernel_rfl)) (fun _ _ _ h => h) (Or.inl ⟨by rfl, ?_⟩) hHeld ?_ ?_
  rotate_left
  ·
   rintro w' ⟨s0, s1, s2⟩
   go_simp
   with_reducible rfl
  rotate_left; · exact zqA
  refine take_ (i := 5) (N := some 28) (v := ?_) (a' := ?_) #[true, true, true, true, true, true, false, false, false, false] rfl rfl (take_ofW HT_.out HW_.out (by kernel_rfl)) (fun _ _ _ h => h) (Or.inl ⟨by rfl, ?_⟩) hHeld ?_ ?_
  rotate_left
  ·
   rintro w' ⟨s0, s1, s2⟩
   go_simp
   with_reducible rfl
  rotate_left; · exact zqA
  refine join_ (σ := Value × Nat) 1 #[true, true, true, true, true, true, true, true, true, false] (fun s_ => [(29, s_.1), (8, .pointer (some ⟨s_.2, 0, none⟩)), (30, .agg #[.int .i64 a0_0, .int .i64 a0_1, s_.1])]) (fun s_ w' => (w'.cell? ⟨gb232, 0, none⟩ = some (.int .i64 a0_0) ∧ w'.cell? ⟨gb232, 1, none⟩ = some (.int .i64 a0_1) ∧ w'.cell? ⟨gb232, 2, none⟩ = some (.slice A0_2 l0_2.length c0_2)) ∧ (Kd.R (Kd.int .i64) 3 w' w.heap.size (fun _ => True) s_.1 t238) ∧ (w'.heap[gb232]? = some (.cells #[.int .i64 a0_0, .int .i64 a0_1, .slice A0_2 l0_2.length c0_2] 26 (0, 0))) ∧ (w'.heap[gb233]? = some (.cells #[.int .i64 0, .int .i64 0, .slice none 0 0] 26 (0, 0))) ∧ (w'.heap[s_.2]? = some (.cells #[.int .i64 0, .int .i64 0, .slice none 0 0] 26 (0, 0))) ∧ (w.heap.size ≤ s_.2) ∧ (w.heap.size ≤ s_.2) ∧ (gb232 ≠ s_.2) ∧ (s_.2 ≠ gb232) ∧ (gb233 ≠ s_.2) ∧ (s_.2 ≠ gb233) ∧ (Below w.heap.size w w')) ?_ ?_
  rotate_left
  ·
   intro hCont
   refine two_ (i := 6) (j := 8) (Ni := some 29) (Nj := some 8) #[true, true, true, true, true, true, true, false, false, false] #[true, true, true, true, true, true, false, false, true, false] rfl rfl rfl rfl (two_of HT_.out (by kernel_rfl)) (by decide) (by decide) (fun K hK => ?_) (fun K hK => ?_)
   ·
    skip
    refine goes_ Try.func22 (by kernel_rfl) rfl #[.slice A0_2 l0_2.length c0_2] (by rfl) rfl rfl zq1 ?_
    with_reducible refine (slices_Clone_int_int.calls _ _ l0_2 t238 _ ?side1 ?side2 A24.out).mono ?_
    (case side1 => exact zqC (Kd.C_below HR0_2.out HB.out))
    (case side2 => exact HC0_2.out)
    rintro e w27 ⟨v239, rfl, ho0, hb⟩
    refine ⟨_, rfl, ?_⟩
    have n0_ := Aside0.mk (Kd.R_lower ho0 (below_size zq8))
    have n1_ := Aside0.mk (blk_below (g := gb232) (o := .cells #[.int .i64 a0_0, .int .i64 a0_1, .slice A0_2 l0_2.length c0_2] 26 (0, 0)) (zqK BK232.out) hb)
    have n2_ := Aside0.mk (blk_below (g := gb233) (o := .cells #[.int .i64 0, .int .i64 0, .slice none 0 0] 26 (0, 0)) (zqK BK233.out) hb)
    have n3_ := Aside0.mk (below_step zq8 hb)
    clear BK232
    clear BK233
    clear HB
    have HO240 := n0_
    have BK232 := n1_
    have BK233 := n2_
    have HB := n3_
    clear n0_ n1_ n2_ n3_
    (try clear hb)
    (try clear hb2)
    (try clear hk)
    (try clear hi)
    (try clear ho0)
    obtain ⟨Ao28, co28, eo28⟩ := Kd.R_slice HO240.out
    (first | subst eo28 | (injection eo28 with f1_ f2_ f3_; have f4_ := f1_.symm; have f5_ := f3_.symm; clear f1_ f2_ f3_; subst f4_; subst f5_))
    refine hK.out _ _ ⟨(blk_cell BK232.out 0).trans rfl, (blk_cell BK232.out 1).trans rfl, (blk_cell BK232.out 2).trans rfl⟩ (fun hHeld => ?_)
    clear hK K
    refine norm_ (a' := ?_) ?_ ?_
    rotate_left
    ·
     show Act.put _ (some 29) _ = _
     simp only [Act.put, List.setIfInBounds_toArray, List.set_cons_zero, List.set_cons_succ, i64_w, i32_w]
     rfl
    refine pure_ (i := 7) (N := some 30) (v := ?_) (a' := ?_) #[true, true, true, true, true, true, true, true, false, false] rfl rfl (any_of HT_.out (by kernel_rfl)) (fun _ _ _ h => h) (Or.inl ⟨by rfl, ?_⟩) ?_ ?_
    rotate_left; · exact zqB
    rotate_left; · exact zqA
    refine one_ (i := 8) (N := some 8) #[true, true, true, true, true, true, true, true, true, false] rfl rfl (one_of HT_.out (by kernel_rfl)) (by decide) (fun K hK => ?_)
    refine box_step ?hg (N := 8) ?hd (cs := #[.int .i64 0, .int .i64 0, .slice none 0 0]) (t := 26) ?hr ?_; (case hd => rfl); (case hg => rfl); (case hr => exact zqS)
    intro gb241 hg w29 hbox hb
    have n0_ := Aside0.mk (Kd.R_below (zqR HO240.out) hb)
    have n1_ := Aside0.mk (blk_below (g := gb232) (o := .cells #[.int .i64 a0_0, .int .i64 a0_1, .slice A0_2 l0_2.length c0_2] 26 (0, 0)) (zqK BK232.out) hb)
    have n2_ := Aside0.mk (blk_below (g := gb233) (o := .cells #[.int .i64 0, .int .i64 0, .slice none 0 0] 26 (0, 0)) (zqK BK233.out) hb)
    have n3_ := Aside0.mk (below_step zq8 hb)
    have n4_ := Aside0.mk (hbox)
    have n5_ := Aside0.mk ((by rw [hg]; exact (below_size zq8) : w.heap.size ≤ gb241))
    have n6_ := Aside0.mk ((by rw [hg]; exact (below_size zq8) : w.heap.size ≤ gb241))
    have n7_ := Aside0.mk ((by rw [hg]; exact Nat.ne_of_lt (blk_lt (g := gb232) (o := .cells #[.int .i64 a0_0, .int .i64 a0_1, .slice A0_2 l0_2.length c0_2] 26 (0, 0)) (zqK BK232.out)) : gb232 ≠ gb241))
    have n8_ := Aside0.mk ((by rw [hg]; exact Nat.ne_of_gt (blk_lt (g := gb232) (o := .cells #[.int .i64 a0_0, .int .i64 a0_1, .slice A0_2 l0_2.length c0_2] 26 (0, 0)) (zqK BK232.out)) : gb241 ≠ gb232))
    have n9_ := Aside0.mk ((by rw [hg]; exact Nat.ne_of_lt (blk_lt (g := gb233) (o := .cells #[.int .i64 0, .int .i64 0, .slice none 0 0] 26 (0, 0)) (zqK BK233.out)) : gb233 ≠ gb241))
    have n10_ := Aside0.mk ((by rw [hg]; exact Nat.ne_of_gt (blk_lt (g := gb233) (o := .cells #[.int .i64 0, .int .i64 0, .slice none 0 0] 26 (0, 0)) (zqK BK233.out)) : gb241 ≠ gb233))
    clear HO240
    clear BK232
    clear BK233
    clear HB
    have HO240 := n0_
    have BK232 := n1_
    have BK233 := n2_
    have HB := n3_
    have BK241 := n4_
    have GW241 := n5_
    have GE241 := n6_
    have NB232_241 := n7_
    have NB241_232 := n8_
    have NB233_241 := n9_
    have NB241_233 := n10_
    clear n0_ n1_ n2_ n3_ n4_ n5_ n6_ n7_ n8_ n9_ n10_
    clear hb hbox hg
    refine hK.out _ _ ⟨(blk_cell BK232.out 0).trans rfl, (blk_cell BK232.out 1).trans rfl, (blk_cell BK232.out 2).trans rfl⟩ (fun hHeld => ?_)
    clear hK K
    refine norm_ (a' := ?_) ?_ ?_
    rotate_left
    ·
     show Act.put _ (some 8) _ = _
     simp only [Act.put, List.setIfInBounds_toArray, List.set_cons_zero, List.set_cons_succ, i64_w, i32_w]
     rfl
    exact norm_ (by simp only [putAll, Act.put, List.setIfInBounds_toArray, List.set_cons_zero, List.set_cons_succ]) (hCont (.slice Ao28 t238.length co28, gb241) _ ⟨hHeld, (zqR HO240.out), (zqK BK232.out), (zqK BK233.out), (zqK BK241.out), GW241.out, GE241.out, NB232_241.out, NB241_232.out, NB233_241.out, NB241_233.out, zq17⟩)
   ·
    skip
    refine box_step ?hg (N := 8) ?hd (cs := #[.int .i64 0, .int .i64 0, .slice none 0 0]) (t := 26) ?hr ?_; (case hd => rfl); (case hg => rfl); (case hr => exact zqS)
    intro gb241 hg w27 hbox hb
    have n0_ := Aside0.mk (blk_below (g := gb232) (o := .cells #[.int .i64 a0_0, .int .i64 a0_1, .slice A0_2 l0_2.length c0_2] 26 (0, 0)) (zqK BK232.out) hb)
    have n1_ := Aside0.mk (blk_below (g := gb233) (o := .cells #[.int .i64 0, .int .i64 0, .slice none 0 0] 26 (0, 0)) (zqK BK233.out) hb)
    have n2_ := Aside0.mk (below_step zq8 hb)
    have n3_ := Aside0.mk (hbox)
    have n4_ := Aside0.mk ((by rw [hg]; exact (below_size zq8) : w.heap.size ≤ gb241))
    have n5_ := Aside0.mk ((by rw [hg]; exact (below_size zq8) : w.heap.size ≤ gb241))
    have n6_ := Aside0.mk ((by rw [hg]; exact Nat.ne_of_lt (blk_lt (g := gb232) (o := .cells #[.int .i64 a0_0, .int .i64 a0_1, .slice A0_2 l0_2.length c0_2] 26 (0, 0)) (zqK BK232.out)) : gb232 ≠ gb241))
    have n7_ := Aside0.mk ((by rw [hg]; exact Nat.ne_of_gt (blk_lt (g := gb232) (o := .cells #[.int .i64 a0_0, .int .i64 a0_1, .slice A0_2 l0_2.length c0_2] 26 (0, 0)) (zqK BK232.out)) : gb241 ≠ gb232))
    have n8_ := Aside0.mk ((by rw [hg]; exact Nat.ne_of_lt (blk_lt (g := gb233) (o := .cells #[.int .i64 0, .int .i64 0, .slice none 0 0] 26 (0, 0)) (zqK BK233.out)) : gb233 ≠ gb241))
    have n9_ := Aside0.mk ((by rw [hg]; exact Nat.ne_of_gt (blk_lt (g := gb233) (o := .cells #[.int .i64 0, .int .i64 0, .slice none 0 0] 26 (0, 0)) (zqK BK233.out)) : gb241 ≠ gb233))
    clear BK232
    clear BK233
    clear HB
    have BK232 := n0_
    have BK233 := n1_
    have HB := n2_
    have BK241 := n3_
    have GW241 := n4_
    have GE241 := n5_
    have NB232_241 := n6_
    have NB241_232 := n7_
    have NB233_241 := n8_
    have NB241_233 := n9_
    clear n0_ n1_ n2_ n3_ n4_ n5_ n6_ n7_ n8_ n9_
    clear hb hbox hg
    refine hK.out _ _ ⟨(blk_cell BK232.out 0).trans rfl, (blk_cell BK232.out 1).trans rfl, (blk_cell BK232.out 2).trans rfl⟩ (fun hHeld => ?_)
    clear hK K
    refine norm_ (a' := ?_) ?_ ?_
    rotate_left
    ·
     show Act.put _ (some 8) _ = _
     simp only [Act.put, List.setIfInBounds_toArray, List.set_cons_zero, List.set_cons_succ, i64_w, i32_w]
     rfl
    refine one_ (i := 6) (N := some 29) #[true, true, true, true, true, true, true, false, true, false] rfl rfl (one_of HT_.out (by kernel_rfl)) (by decide) (fun K hK => ?_)
    refine goes_ Try.func22 (by kernel_rfl) rfl #[.slice A0_2 l0_2.length c0_2] (by rfl) rfl rfl zq1 ?_
    with_reducible refine (slices_Clone_int_int.calls _ _ l0_2 t238 _ ?side1 ?side2 A24.out).mono ?_
    (case side1 => exact zqC (Kd.C_below HR0_2.out HB.out))
    (case side2 => exact HC0_2.out)
    rintro e w28 ⟨v239, rfl, ho0, hb⟩
    refine ⟨_, rfl, ?_⟩
    have n0_ := Aside0.mk (Kd.R_lower ho0 (below_size zq17))
    have n1_ := Aside0.mk (blk_below (g := gb232) (o := .cells #[.int .i64 a0_0, .int .i64 a0_1, .slice A0_2 l0_2.length c0_2] 26 (0, 0)) (zqK BK232.out) hb)
    have n2_ := Aside0.mk (blk_below (g := gb233) (o := .cells #[.int .i64 0, .int .i64 0, .slice none 0 0] 26 (0, 0)) (zqK BK233.out) hb)
    have n3_ := Aside0.mk (blk_below (g := gb241) (o := .cells #[.int .i64 0, .int .i64 0, .slice none 0 0] 26 (0, 0)) (zqK BK241.out) hb)
    have n4_ := Aside0.mk (below_step zq17 hb)
    clear BK232
    clear BK233
    clear BK241
    clear HB
    have HO240 := n0_
    have BK232 := n1_
    have BK233 := n2_
    have BK241 := n3_
    have HB := n4_
    clear n0_ n1_ n2_ n3_ n4_
    (try clear hb)
    (try clear hb2)
    (try clear hk)
    (try clear hi)
    (try clear ho0)
    obtain ⟨Ao29, co29, eo29⟩ := Kd.R_slice HO240.out
    (first | subst eo29 | (injection eo29 with f1_ f2_ f3_; have f4_ := f1_.symm; have f5_ := f3_.symm; clear f1_ f2_ f3_; subst f4_; subst f5_))
    refine hK.out _ _ ⟨(blk_cell BK232.out 0).trans rfl, (blk_cell BK232.out 1).trans rfl, (blk_cell BK232.out 2).trans rfl⟩ (fun hHeld => ?_)
    clear hK K
    refine norm_ (a' := ?_) ?_ ?_
    rotate_left
    ·
     show Act.put _ (some 29) _ = _
     simp only [Act.put, List.setIfInBounds_toArray, List.set_cons_zero, List.set_cons_succ, i64_w, i32_w]
     rfl
    refine pure_ (i := 7) (N := some 30) (v := ?_) (a' := ?_) #[true, true, true, true, true, true, true, true, true, false] rfl rfl (any_of HT_.out (by kernel_rfl)) (fun _ _ _ h => h) (Or.inl ⟨by rfl, ?_⟩) ?_ ?_
    rotate_left; · exact zqB
    rotate_left; · exact zqA
    exact norm_ (by simp only [putAll, Act.put, List.setIfInBounds_toArray, List.set_cons_zero, List.set_cons_succ]) (hCont (.slice Ao29 t238.length co29, gb241) _ ⟨hHeld, (zqR HO240.out), (zqK BK232.out), (zqK BK233.out), (zqK BK241.out), GW241.out, GE241.out, NB232_241.out, NB241_232.out, NB233_241.out, NB241_233.out, zq17⟩)
  rintro ⟨v239, gb241⟩ w30 ⟨hS_, h0_, h1_, h2_, h3_, h4_, h5_, h6_, h7_, h8_, h9_, h10_⟩
  have n0_ : Aside0 (Kd.R (Kd.int .i64) 3 w30 w.heap.size (fun _ => True) v239 t238) := ⟨h0_⟩
  have n1_ : Aside0 (w30.heap[gb232]? = some (.cells #[.int .i64 a0_0, .int .i64 a0_1, .slice A0_2 l0_2.length c0_2] 26 (0, 0))) := ⟨h1_⟩
  have n2_ : Aside0 (w30.heap[gb233]? = some (.cells #[.int .i64 0, .int .i64 0, .slice none 0 0] 26 (0, 0))) := ⟨h2_⟩
  have n3_ : Aside0 (w30.heap[gb241]? = some (.cells #[.int .i64 0, .int .i64 0, .slice none 0 0] 26 (0, 0))) := ⟨h3_⟩
  have n4_ : Aside0 (w.heap.size ≤ gb241) := ⟨h4_⟩
  have n5_ : Aside0 (w.heap.size ≤ gb241) := ⟨h5_⟩
  have n6_ : Aside0 (gb232 ≠ gb241) := ⟨h6_⟩
  have n7_ : Aside0 (gb241 ≠ gb232) := ⟨h7_⟩
  have n8_ : Aside0 (gb233 ≠ gb241) := ⟨h8_⟩
  have n9_ : Aside0 (gb241 ≠ gb233) := ⟨h9_⟩
  have n10_ : Aside0 (Below w.heap.size w w30) := ⟨h10_⟩
  clear BK232
  clear BK233
  clear HB
  clear h0_ h1_ h2_ h3_ h4_ h5_ h6_ h7_ h8_ h9_ h10_
  have HO240 := n0_
  have BK232 := n1_
  have BK233 := n2_
  have BK241 := n3_
  have GW241 := n4_
  have GE241 := n5_
  have NB232_241 := n6_
  have NB241_232 := n7_
  have NB233_241 := n8_
  have NB241_233 := n9_
  have HB := n10_
  clear n0_ n1_ n2_ n3_ n4_ n5_ n6_ n7_ n8_ n9_ n10_
  have hHeld : w30.cell? ⟨gb232, 0, none⟩ = some (.int .i64 a0_0) ∧ w30.cell? ⟨gb232, 1, none⟩ = some (.int .i64 a0_1) ∧ w30.cell? ⟨gb232, 2, none⟩ = some (.slice A0_2 l0_2.length c0_2) := hS_
  obtain ⟨Ao31, co31, eo31⟩ := Kd.R_slice HO240.out
  (first | subst eo31 | (injection eo31 with f1_ f2_ f3_; have f4_ := f1_.symm; have f5_ := f3_.symm; clear f1_ f2_ f3_; subst f4_; subst f5_))
  refine norm_ (a' := ?_) ?_ ?_
  rotate_left
  ·
   simp only [putAll, Act.put, List.setIfInBounds_toArray, List.set_cons_zero, List.set_cons_succ]
   rfl
  refine one_ (i := 9) (N := none) #[true, true, true, true, true, true, true, true, true, true] rfl rfl (one_of HT_.out (by kernel_rfl)) (by decide) (fun K hK => ?_)
  have hs32 : w30.cell? ⟨gb241, 0, none⟩ = some (.int .i64 0) := (blk_cell BK241.out 0).trans rfl
  have hfs32 := blk_frozen BK241.out 0
  have hns32_0 := NB232_241.out
  have hns32_1 := NB233_241.out
  have hms32_0 := NB241_232.out
  have hms32_1 := NB241_233.out
  have hs33 : w30.cell? ⟨gb241, 1, none⟩ = some (.int .i64 0) := (blk_cell BK241.out 1).trans rfl
  have hfs33 := blk_frozen BK241.out 1
  have hns33_0 := NB232_241.out
  have hns33_1 := NB233_241.out
  have hms33_0 := NB241_232.out
  have hms33_1 := NB241_233.out
  have hs34 : w30.cell? ⟨gb241, 2, none⟩ = some (.slice none 0 0) := (blk_cell BK241.out 2).trans rfl
  have hfs34 := blk_frozen BK241.out 2
  have hns34_0 := NB232_241.out
  have hns34_1 := NB233_241.out
  have hms34_0 := NB241_232.out
  have hms34_1 := NB241_233.out
  refine skip_ (w1 := ?_) (by rfl) rfl ?_ ?_
  rotate_left
  ·
   go_simp
   rfl
  refine hK.out _ _ ⟨((cell_far (p := ⟨gb241, _, none⟩) NB232_241.out _).trans (((cell_far (p := ⟨gb241, _, none⟩) NB232_241.out _).trans (((cell_far (p := ⟨gb241, _, none⟩) NB232_241.out _).trans (hHeld.1)))))), ((cell_far (p := ⟨gb241, _, none⟩) NB232_241.out _).trans (((cell_far (p := ⟨gb241, _, none⟩) NB232_241.out _).trans (((cell_far (p := ⟨gb241, _, none⟩) NB232_241.out _).trans (hHeld.2.1)))))), ((cell_far (p := ⟨gb241, _, none⟩) NB232_241.out _).trans (((cell_far (p := ⟨gb241, _, none⟩) NB232_241.out _).trans (((cell_far (p := ⟨gb241, _, none⟩) NB232_241.out _).trans (hHeld.2.2))))))⟩ (fun hHeld => ?_)
  clear hK K
  refine done_ (done_of HT_.out (by kernel_rfl)) ?_
  have hnb35 := NB232_233.out
  have hnc35 := NB233_232.out
  have hnb36 := NB232_241.out
  have hnc36 := NB241_232.out
  have hcz37_0 := bz BK232.out 0 (.int .i64 a0_0)
  have hcz37_1 := bz BK232.out 1 (.int .i64 a0_1)
  have hcz37_2 := bz BK232.out 2 (.slice A0_2 l0_2.length c0_2)
  have hfz37_0 := blk_frozen BK232.out 0
  have hfz37_1 := blk_frozen BK232.out 1
  have hfz37_2 := blk_frozen BK232.out 2
  try go_wp2_with (first | ((with_reducible refine gate_callee (f := 23) rfl ?_); refine goesL_ (some 33) rfl rfl Try.func23 (by kernel_rfl) rfl #[.agg #[.int .i64 a0_0, .int .i64 a0_1, .slice A0_2 l0_2.length c0_2], .int .i64 a2] rfl zq1 ?_; (with_reducible refine (impl_cellsOf.calls kj3 a0_0 a0_1 _ _ l0_2 a2 t242 _ ?side1 ?side2 A25.out).mono ?_); (case side1 => exact Kd.C_below HR0_2.out zq17); (case side2 => exact HC0_2.out); rintro e w38 ⟨v243, rfl, ho0, hb⟩; refine ⟨_, rfl, ?_⟩; have HO244 := Aside0.mk (Kd.R_lower (Kd.R_new' ho0 (Kd.R_lt zq43)) (below_size zq17)); replace HO240 := Aside0.mk (Kd.R_elder' zq43 (Kd.R_base ho0) hb); replace BK232 := Aside0.mk (blk_below (g := gb232) (o := .cells #[.int .i64 a0_0, .int .i64 a0_1, .slice A0_2 l0_2.length c0_2] 26 (0, 0)) (by (with_reducible repeat (first | refine blk_drewN ?_ _ | refine blk_drew ?_ | refine blk_alloc ?_ _)); refine blk_far ?_ NB232_241.out _; (with_reducible repeat (first | refine blk_drewN ?_ _ | refine blk_drew ?_ | refine blk_alloc ?_ _)); refine blk_far ?_ NB232_241.out _; (with_reducible repeat (first | refine blk_drewN ?_ _ | refine blk_drew ?_ | refine blk_alloc ?_ _)); refine blk_far ?_ NB232_241.out _; (with_reducible repeat (first | refine blk_drewN ?_ _ | refine blk_drew ?_ | refine blk_alloc ?_ _)); exact BK232.out) hb); replace BK233 := Aside0.mk (blk_below (g := gb233) (o := .cells #[.int .i64 0, .int .i64 0, .slice none 0 0] 26 (0, 0)) (by (with_reducible repeat (first | refine blk_drewN ?_ _ | refine blk_drew ?_ | refine blk_alloc ?_ _)); refine blk_far ?_ NB233_241.out _; (with_reducible repeat (first | refine blk_drewN ?_ _ | refine blk_drew ?_ | refine blk_alloc ?_ _)); refine blk_far ?_ NB233_241.out _; (with_reducible repeat (first | refine blk_drewN ?_ _ | refine blk_drew ?_ | refine blk_alloc ?_ _)); refine blk_far ?_ NB233_241.out _; (with_reducible repeat (first | refine blk_drewN ?_ _ | refine blk_drew ?_ | refine blk_alloc ?_ _)); exact BK233.out) hb); replace BK241 := Aside0.mk (blk_below (g := gb241) (o := .cells #[.int .i64 a0_0, .int .i64 a0_1, .slice Ao31 t238.length co31] 26 (0, 0)) (by (with_reducible repeat (first | refine blk_drewN ?_ _ | refine blk_drew ?_ | refine blk_alloc ?_ _)); refine blk_put (cs := #[.int .i64 a0_0, .int .i64 a0_1, .slice none 0 0]) ?_ 2 _ rfl; (with_reducible repeat (first | refine blk_drewN ?_ _ | refine blk_drew ?_ | refine blk_alloc ?_ _)); refine blk_put (cs := #[.int .i64 a0_0, .int .i64 0, .slice none 0 0]) ?_ 1 _ rfl; (with_reducible repeat (first | refine blk_drewN ?_ _ | refine blk_drew ?_ | refine blk_alloc ?_ _)); refine blk_put (cs := #[.int .i64 0, .int .i64 0, .slice none 0 0]) ?_ 0 _ rfl; (with_reducible repeat (first | refine blk_drewN ?_ _ | refine blk_drew ?_ | refine blk_alloc ?_ _)); exact BK241.out) hb); replace HB := Aside0.mk (below_step zq17 hb); (try clear hb); (try clear hb2); (try clear hk); (try clear hi); (try clear ho0); obtain ⟨Ao39, co39, eo39⟩ := Kd.R_slice HO244.out; subst eo39))
  go_loopg [35] kj3 (fun kq v35 w' => ∃ (x33_2 : List Int) (x35_2 : Int) (x242002_2 : List Int) (u242002 : Value), v35 = .int .i64 x35_2 ∧ Aside0 (impl_MergeAreas.l0 kq a1 x33_2 (t242.length : Int) x35_2 a0_0 a0_1 x242002_2 = some (r1, r2, r3, r4)) ∧ Aside0 (kq ≤ kj3) ∧ Aside0 (Kd.R (Kd.int .i64) 3 w' w.heap.size (fun k_ => some k_ ≠ (u242002 : Value).ownBlock) (.slice Ao39 t242.length co39) x33_2) ∧ Aside0 (Kd.R (Kd.int .i64) 3 w' w.heap.size (fun k_ => some k_ ≠ ((.slice Ao39 t242.length co39) : Value).ownBlock) u242002 x242002_2) ∧ Aside0 (w'.heap[gb232]? = some (.cells #[.int .i64 a0_0, .int .i64 a0_1, (.slice A0_2 l0_2.length c0_2)] 26 (0, 0))) ∧ Aside0 (w'.heap[gb233]? = some (.cells #[.int .i64 0, .int .i64 0, (.slice none 0 0)] 26 (0, 0))) ∧ Aside0 (w'.heap[gb241]? = some (.cells #[.int .i64 a0_0, .int .i64 a0_1, u242002] 26 (0, 0))) ∧ Aside0 (Below w.heap.size w w'))
  case atStart => exact ⟨(t242), (0), (t238), (.slice Ao31 t238.length co31), (by first | rfl | (simp; done) | (simp [*]; done)), H', ⟨Nat.le_refl _⟩, ⟨by (with_reducible repeat (first | apply Kd.R_alloc | apply Kd.R_drewN | apply Kd.R_drew)); exact Kd.R_mono HO244.out (fun _ hk => hk.2)⟩, ⟨by (with_reducible repeat (first | apply Kd.R_alloc | apply Kd.R_drewN | apply Kd.R_drew)); exact Kd.R_mono HO240.out (fun _ hk => hk.2)⟩, ⟨by (with_reducible repeat (first | refine blk_drewN ?_ _ | refine blk_drew ?_ | refine blk_alloc ?_ _)); exact BK232.out⟩, ⟨by (with_reducible repeat (first | refine blk_drewN ?_ _ | refine blk_drew ?_ | refine blk_alloc ?_ _)); exact BK233.out⟩, ⟨by (with_reducible repeat (first | refine blk_drewN ?_ _ | refine blk_drew ?_ | refine blk_alloc ?_ _)); exact BK241.out⟩, ⟨zq17⟩⟩
  clear H'
  try clear c1
  try clear c2
  try clear p2
  try clear c3
  try clear c6
  try clear c8
  try clear c9
  try clear c15
  try clear c21
  try clear c22
  try clear c23
  try clear c35
  try clear c36
  try clear hcz10_0
  try clear hcz10_1
  try clear hcz10_2
  try clear hcz16_0
  try clear hcz16_1
  try clear hcz16_2
  try clear hcz23_0
  try clear hcz23_1
  try clear hcz23_2
  try clear hcz37_0
  try clear hcz37_1
  try clear hcz37_2
  try clear hfz10_0
  try clear hfz10_1
  try clear hfz10_2
  try clear hfz16_0
  try clear hfz16_1
  try clear hfz16_2
  try clear hfz23_0
  try clear hfz23_1
  try clear hfz23_2
  try clear hfz37_0
  try clear hfz37_1
  try clear hfz37_2
  try clear p2
  obtain ⟨x33_2, x35_2, x242002_2, u242002, rfl, HA, HK2, HO_33, HO_242002, BK232, BK233, BK241, HB⟩ := hrel
  have hl33_2 := (Kd.R_reads' HO_33.out).1
  rw [hl33_2] at HO_33
  (try simp only [hl33_2])
  (try simp only [hl33_2] at BK232)
  (try simp only [hl33_2] at BK233)
  (try simp only [hl33_2] at BK241)
  (try simp only [hl33_2] at HO_242002)
  cases gk with
  | zero => exact absurd HA.out (by simp [impl_MergeAreas.l0])
  | succ k2 =>
   have H := HA.out
   clear HA
   simp only [impl_MergeAreas.l0] at H
   by_cases c40 : x35_2 < (t242.length : Int)
   case neg =>
    rw [if_neg c40] at H
    have c40b0 : decide (x35_2 < (t242.length : Int)) = false := decide_eq_false c40
    (try simp only [hl33_2] at c40b0)
    clear c40
    simp only [Option.some.injEq, Prod.mk.injEq] at H
    obtain ⟨rfl, rfl, rfl, rfl⟩ := H
    have hnb51 := NB241_232.out
    have hnc51 := NB232_241.out
    have hnb52 := NB241_233.out
    have hnc52 := NB233_241.out
    have hcz53_0 := bz BK241.out 0 (.int .i64 a0_0)
    have hcz53_1 := bz BK241.out 1 (.int .i64 a0_1)
    have hcz53_2 := bz BK241.out 2 (u242002)
    have hfz53_0 := blk_frozen BK241.out 0
    have hfz53_1 := blk_frozen BK241.out 1
    have hfz53_2 := blk_frozen BK241.out 2
    have hnb54 := NB233_232.out
    have hnc54 := NB232_233.out
    have hcz55_0 := bz BK233.out 0 (.int .i64 0)
    have hcz55_1 := bz BK233.out 1 (.int .i64 0)
    have hcz55_2 := bz BK233.out 2 (.slice none 0 0)
    have hfz55_0 := blk_frozen BK233.out 0
    have hfz55_1 := blk_frozen BK233.out 1
    have hfz55_2 := blk_frozen BK233.out 2
    obtain ⟨Ao56, co56, eo56⟩ := Kd.R_slice HO_242002.out
    subst eo56
    go_wp2
    refine bodyPost_ret (results_ct rfl _ _ gb233 26 #[.int .i64 a0_0, .int .i64 a0_1, .slice Ao56 x242002_2.length co56] (0, 0) _ rfl (by (with_reducible repeat (first | refine blk_drewN ?_ _ | refine blk_drew ?_ | refine blk_alloc ?_ _)); refine blk_put (cs := #[.int .i64 a0_0, .int .i64 a0_1, .slice none 0 0]) ?_ 2 _ rfl; (with_reducible repeat (first | refine blk_drewN ?_ _ | refine blk_drew ?_ | refine blk_alloc ?_ _)); refine blk_put (cs := #[.int .i64 a0_0, .int .i64 0, .slice none 0 0]) ?_ 1 _ rfl; (with_reducible repeat (first | refine blk_drewN ?_ _ | refine blk_drew ?_ | refine blk_alloc ?_ _)); refine blk_put (cs := #[.int .i64 0, .int .i64 0, .slice none 0 0]) ?_ 0 _ rfl; (with_reducible repeat (first | refine blk_drewN ?_ _ | refine blk_drew ?_ | refine blk_alloc ?_ _)); exact BK233.out) Try.underlying26 rfl (by kernel_rfl)) rfl ?_
    exact ⟨_, by first | rfl | (simp [errW_none, errW_some] <;> rfl) | (simp [*, errW_none, errW_some] <;> rfl), by (with_reducible repeat (first | apply Kd.R_alloc | apply Kd.R_drewN | apply Kd.R_drew)); exact Kd.R_mono (Kd.R_far (p := ⟨gb233, 2, none⟩) (Kd.R_far (p := ⟨gb233, 1, none⟩) (Kd.R_far (p := ⟨gb233, 0, none⟩) (Kd.R_types HO_242002.out BK233.out (by decide)) (fun _ hk => hk.2) (.int .i64 a0_0)) (fun _ hk => hk.2) (.int .i64 a0_1)) (fun _ hk => hk.2) (.slice Ao56 x242002_2.length co56)) (fun _ hk => trivial), zq17⟩
   rw [if_pos c40] at H
   have c40b0 : decide (x35_2 < (t242.length : Int)) = true := decide_eq_true c40
   clear c40
   by_cases c41 : 0 ≤ x35_2
   case neg =>
    rw [if_neg c41] at H
    exact absurd H (by simp)
   rw [if_pos c41] at H
   have c41b0 : decide (0 ≤ x35_2) = true := decide_eq_true c41
   clear c41
   by_cases c42 : x35_2 < (x33_2.length : Int)
   case neg =>
    rw [if_neg c42] at H
    exact absurd H (by simp)
   rw [if_pos c42] at H
   have c42b0 : decide (x35_2 < (x33_2.length : Int)) = true := decide_eq_true c42
   clear c42
   by_cases c43 : 0 ≤ (rd x33_2 x35_2)
   case neg =>
    rw [if_neg c43] at H
    exact absurd H (by simp)
   rw [if_pos c43] at H
   have c43b0 : decide (0 ≤ (rd x33_2 x35_2)) = true := decide_eq_true c43
   clear c43
   by_cases c44 : (rd x33_2 x35_2) < (x242002_2.length : Int)
   case neg =>
    rw [if_neg c44] at H
    exact absurd H (by simp)
   rw [if_pos c44] at H
   have c44b0 : decide ((rd x33_2 x35_2) < (x242002_2.length : Int)) = true := decide_eq_true c44
   clear c44
   obtain ⟨y246, hy246⟩ : ∃ y_ : List Int, y_ = (x242002_2.set ((rd x33_2 x35_2) : Int).toNat a1) := ⟨_, rfl⟩
   replace H : (impl_MergeAreas.l0 k2 a1 x33_2 (t242.length : Int) (wrap64 (x35_2 + 1)) a0_0 a0_1 y246) = some (r1, r2, r3, r4) := zqH hy246 H
   have Ny246 := Aside0.mk hy246
   clear hy246
   have H' := Aside0.mk H
   clear H
   have p245 : 0 ≤ (x35_2 : Int) := of_decide_eq_true zq10
   have q245 : x35_2 < (x33_2.length : Int) := of_decide_eq_true zq10
   obtain ⟨ad245, e245, hx245_0⟩ := Kd.at_int (Kd.R_reads' HO_33.out).2.2 x35_2 p245 q245
   cases e245
   replace p245 := eq_true p245
   replace q245 := eq_true q245
   have hnb46 := NB241_232.out
   have hnc46 := NB232_241.out
   have hnb47 := NB241_233.out
   have hnc47 := NB233_241.out
   have hcz48_0 := bz BK241.out 0 (.int .i64 a0_0)
   have hcz48_1 := bz BK241.out 1 (.int .i64 a0_1)
   have hcz48_2 := bz BK241.out 2 (u242002)
   have hfz48_0 := blk_frozen BK241.out 0
   have hfz48_1 := blk_frozen BK241.out 1
   have hfz48_2 := blk_frozen BK241.out 2
   have p45 : 0 ≤ ((rd x33_2 x35_2) : Int) := of_decide_eq_true zq10
   have q45 : ((rd x33_2 x35_2) : Int) < ((x242002_2.length : Int) : Int) := of_decide_eq_true zq10
   obtain ⟨go45, co45, eo45, gb45, gl45, cl45, HG45⟩ := Kd.R_form HO_242002.out (by omega)
   (first | cases eo45 | (injection eo45 with ea_ en_ ec_; (first | subst ea_ | (injection ea_ with ea_; subst ea_)); subst ec_; clear en_))
   have GB45 := Aside0.mk gb45
   have GG45 := Aside0.mk HG45
   clear gb45 gl45 HG45
   obtain ⟨hx45_0, hf45_0⟩ := Kd.R_celln 0 HO_242002.out ((rd x33_2 x35_2) : Int) p45 q45
   replace p45 := eq_true p45
   replace q45 := eq_true q45
   have HP49 := Kd.R_putg HO_242002.out ((rd x33_2 x35_2) : Int) a1
   go_wp2_with (first | ((with_reducible refine gate_store (t := 3) (p := 43) rfl ?_); refine store_event (t := 3) (p := 43) (v := ?vo_w50) (w1 := (wr.setCell ⟨go45, ((rd x33_2 x35_2) : Int).toNat, none⟩ (.int .i64 a1))) ?hg ?ho ?hn ?hr ?_; (case ho => rfl); (case hg => rfl); (case hn => rfl); (case hr => exact zqS); intro w50 hw; have hg : wr.grownBy w50 (some go45) := (by rw [hw]; exact HP49.2); have hp_ : Kd.R (Kd.int .i64) 3 w50 w.heap.size (fun k_ => some k_ ≠ (.slice (some ad245) x33_2.length co39 : Value).ownBlock) (.slice (some ⟨go45, 0, none⟩) x242002_2.length co45) y246 := (by rw [hw, Ny246.out]; exact HP49.1); clear HP49; replace HO_33 := Aside0.mk (Kd.R_after (v := (.slice (some ⟨go45, 0, none⟩) x242002_2.length co45)) (v1 := (.slice (some ⟨go45, 0, none⟩) x242002_2.length co45)) (ok := (fun _ => True)) (by (with_reducible repeat (first | apply Kd.R_alloc | apply Kd.R_drewN | apply Kd.R_drew)); exact Kd.R_mono HO_33.out (fun _ hk => ⟨trivial, hk⟩)) hg (.inl rfl)); replace BK232 := Aside0.mk (blk_grown (g := gb232) (o := .cells #[.int .i64 a0_0, .int .i64 a0_1, .slice A0_2 l0_2.length c0_2] 26 (0, 0)) (zqK BK232.out) hg (Kd.R_ne HO_242002.out BK232.out (by decide))); replace BK233 := Aside0.mk (blk_grown (g := gb233) (o := .cells #[.int .i64 0, .int .i64 0, .slice none 0 0] 26 (0, 0)) (zqK BK233.out) hg (Kd.R_ne HO_242002.out BK233.out (by decide))); replace BK241 := Aside0.mk (blk_grown (g := gb241) (o := .cells #[.int .i64 a0_0, .int .i64 a0_1, .slice (some ⟨go45, 0, none⟩) x242002_2.length co45] 26 (0, 0)) (zqK BK241.out) hg (Kd.R_ne HO_242002.out BK241.out (by decide))); replace HO_242002 := Aside0.mk (hp_); replace HB := Aside0.mk ((by rw [hw]; exact below_set (HB.out) GB45.out : Below w.heap.size w w50)); clear hg hw hp_))
   (try simp only [← hl33_2])
   go_roundg k2
   case measure => have := HJ3.out; have := HK2.out; omega
   case rel => exact ⟨(x33_2), (wrap64 (x35_2 + 1)), (y246), (.slice (some ⟨go45, 0, none⟩) x242002_2.length co45), (by first | rfl | (simp; done) | (simp [*]; done)), H', ⟨by have := HJ3.out; have := HK2.out; omega⟩, ⟨by (try simp only [hl33_2]); (with_reducible repeat (first | apply Kd.R_alloc | apply Kd.R_drewN | apply Kd.R_drew)); exact Kd.R_mono HO_33.out (fun _ hk => hk.2)⟩, ⟨by (try simp only [hl33_2]); (with_reducible repeat (first | apply Kd.R_alloc | apply Kd.R_drewN | apply Kd.R_drew)); exact HO_242002.out⟩, ⟨by (try simp only [hl33_2]); (with_reducible repeat (first | refine blk_drewN ?_ _ | refine blk_drew ?_ | refine blk_alloc ?_ _)); exact BK232.out⟩, ⟨by (try simp only [hl33_2]); (with_reducible repeat (first | refine blk_drewN ?_ _ | refine blk_drew ?_ | refine blk_alloc ?_ _)); exact BK233.out⟩, ⟨by (try simp only [hl33_2]); (with_reducible repeat (first | refine blk_drewN ?_ _ | refine blk_drew ?_ | refine blk_alloc ?_ _)); exact BK241.out⟩, ⟨zq17⟩⟩

/-! ### spec_l1In: function 49 -/
def spec_l1In.f (a0 : Int) (a1 : Int) (a2 : Int) : Option (Bool) := if a0 ≥ a1 then (some (decide (a0 ≤ a2))) else (some false)
set_option maxHeartbeats 8000000 in
set_option maxRecDepth 100000 in
theorem spec_l1In.calls (a0 : Int) (a1 : Int) (a2 : Int) (r : Bool) (w : World) (h : spec_l1In.f a0 a1 a2 = some r) :
  Calls Try.prog 49 #[.int .i64 a0, .int .i64 a1, .int .i64 a2] w fun e w' => e = .returned (.bool r) ∧ Drawn0 w w' := by
 have H : (if a0 ≥ a1 then (some (decide (a0 ≤ a2))) else (some false)) = some r := h
 clear h
 by_cases c4 : a0 ≥ a1
 case neg =>
  rw [if_neg c4] at H
  have c4b0 : decide (a1 ≤ a0) = false := decide_eq_false c4
  clear c4
  obtain rfl := Option.some.inj H
  go_enter Try.func49, Try.ntmps49
  go_wp2
  go_ret
  exact ⟨by first | rfl | (simp; done) | (simp [*]; done), zq23⟩
 rw [if_pos c4] at H
 have c4b0 : decide (a1 ≤ a0) = true := decide_eq_true c4
 clear c4
 obtain rfl := Option.some.inj H
 go_enter Try.func49, Try.ntmps49
 go_wp2
 go_ret
 exact ⟨by first | rfl | (simp; done) | (simp [*]; done), zq23⟩

/-! ### spec_l13Good: function 34 -/
mutual
def spec_l13Good.j0 : Nat → Bool → Int → Int → List Int → Option (Bool)
 | 0, _, _, _, _ => none
 | k + 1, x24, x248000, x248001, x248002 => if x24 = true then (some false) else (spec_l13Good.l0 k 0 x248000 x248001 x248002)
def spec_l13Good.l0 : Nat → Int → Int → Int → List Int → Option (Bool)
 | 0, _, _, _, _ => none
 | k + 1, x3, x248000, x248001, x248002 => if x3 < (x248002.length : Int) then (if 0 ≤ x3 then ((spec_l1In.f (rd x248002 x3) 0 9).bind fun t251 => (if t251 = true then (spec_l13Good.l0 k (wrap64 (x3 + 1)) x248000 x248001 x248002) else (some false))) else (none)) else (some true)
end
def spec_l13Good.f (k : Nat) (a0_0 : Int) (a0_1 : Int) (l0_2 : List Int) : Option (Bool) := (spec_l1In.f a0_0 1 8).bind fun t248 => (if t248 = true then ((spec_l1In.f a0_1 1 8).bind fun t249 => (if t249 = true then (spec_l13Good.j0 k ((l0_2.length : Int) != (wrap64 (a0_0 * a0_1))) a0_0 a0_1 l0_2) else (spec_l13Good.j0 k true a0_0 a0_1 l0_2))) else (spec_l13Good.j0 k true a0_0 a0_1 l0_2))
set_option maxHeartbeats 8000000 in
set_option maxRecDepth 100000 in
theorem spec_l13Good.calls (k : Nat) (a0_0 : Int) (a0_1 : Int) (A0_2 : Option Addr) (c0_2 : Nat) (l0_2 : List Int) (r : Bool) (w : World) (hr0_2 : Kd.C (Kd.int .i64) w A0_2 l0_2.length l0_2) (hc0_2 : l0_2.length ≤ c0_2) (h : spec_l13Good.f k a0_0 a0_1 l0_2 = some r) :
  Calls Try.prog 34 #[.agg #[.int .i64 a0_0, .int .i64 a0_1, .slice A0_2 l0_2.length c0_2]] w fun e w' => e = .returned (.bool r) ∧ Below w.heap.size w w' := by
 have hu26 := Try.underlying26
 have HR0_2 := Aside0.mk hr0_2
 have HC0_2 := Aside0.mk hc0_2
 clear hr0_2 hc0_2
 have HB := Aside0.mk (Below.refl w.heap.size w)
 have H : ((spec_l1In.f a0_0 1 8).bind fun t248 => (if t248 = true then ((spec_l1In.f a0_1 1 8).bind fun t249 => (if t249 = true then (spec_l13Good.j0 k ((l0_2.length : Int) != (wrap64 (a0_0 * a0_1))) a0_0 a0_1 l0_2) else (spec_l13Good.j0 k true a0_0 a0_1 l0_2))) else (spec_l13Good.j0 k true a0_0 a0_1 l0_2))) = some r := h
 clear h
 have HC2 := Aside0.mk H
 clear H
 go_enter Try.func34, Try.ntmps34
 go_upto_region 1 with (first | ((with_reducible refine gate_dst (N := 1) rfl ?_); refine box_event ?hg (N := 1) ?hd (cs := #[.int .i64 a0_0, .int .i64 a0_1, .slice A0_2 l0_2.length c0_2]) (t := 26) ?hr ?_; (case hd => rfl); (case hg => rfl); (case hr => exact zqS); intro gb247 hg w3 hbox hb; have BK247 := Aside0.mk (hbox); have GW247 := Aside0.mk ((by rw [hg]; exact (below_size zq0) : w.heap.size ≤ gb247)); replace HB := Aside0.mk (below_step zq0 hb); have GE247 := GW247; clear hb hbox hg))
 (try simp only [Act.put, List.setIfInBounds_toArray, List.set_cons_zero, List.set_cons_succ])
 go_cut [24] (fun v24 wc => ∃ (kq : Nat) (x24_1 : Bool), v24 = .bool x24_1 ∧ Aside0 (spec_l13Good.j0 kq x24_1 a0_0 a0_1 l0_2 = some r) ∧ Aside0 (kq ≤ k) ∧ Aside0 (wc.heap[gb247]? = some (.cells #[.int .i64 a0_0, .int .i64 a0_1, (.slice A0_2 l0_2.length c0_2)] 26 (0, 0))) ∧ Aside0 (Below w.heap.size w wc))
 case first =>
  have H := HC2.out
  clear HC2
  replace H := Option.bind_eq_some_iff.mp H
  obtain ⟨t248, A40, H⟩ := H
  replace H : (if t248 = true then ((spec_l1In.f a0_1 1 8).bind fun t249 => (if t249 = true then (spec_l13Good.j0 k ((l0_2.length : Int) != (wrap64 (a0_0 * a0_1))) a0_0 a0_1 l0_2) else (spec_l13Good.j0 k true a0_0 a0_1 l0_2))) else (spec_l13Good.j0 k true a0_0 a0_1 l0_2)) = some r := H
  have A4 := Aside0.mk A40
  clear A40
  by_cases c5 : t248 = true
  case neg =>
   replace c5 := Bool.eq_false_iff.mpr c5
   subst c5
   have H1 : (spec_l13Good.j0 k true a0_0 a0_1 l0_2) = some r := by rw [if_neg (show ¬ (false = true) by decide)] at H; exact H
   clear H
   have H := H1
   clear H1
   have H' := Aside0.mk H
   clear H
   have hcz10_0 := bz BK247.out 0 (.int .i64 a0_0)
   have hcz10_1 := bz BK247.out 1 (.int .i64 a0_1)
   have hcz10_2 := bz BK247.out 2 (.slice A0_2 l0_2.length c0_2)
   have hfz10_0 := blk_frozen BK247.out 0
   have hfz10_1 := blk_frozen BK247.out 1
   have hfz10_2 := blk_frozen BK247.out 2
   go_wp2_with (first | ((with_reducible refine gate_callee (f := 49) rfl ?_); refine goesL_ (some 6) rfl rfl Try.func49 (by kernel_rfl) rfl #[.int .i64 a0_0, .int .i64 1, .int .i64 8] rfl zq1 ?_; (with_reducible refine (spec_l1In.calls a0_0 1 8 false _ A4.out).mono ?_); rintro e w' ⟨rfl, ⟨nd, rfl⟩⟩; refine ⟨_, rfl, ?_⟩))
   go_meet
   case rel => exact ⟨_, (true), (by first | rfl | (simp; done) | (simp [*]; done)), H', ⟨by first | omega | exact Nat.le_refl _⟩, ⟨by (with_reducible repeat (first | refine blk_drewN ?_ _ | refine blk_drew ?_ | refine blk_alloc ?_ _)); exact BK247.out⟩, ⟨zq30⟩⟩
  subst c5
  have H1 : ((spec_l1In.f a0_1 1 8).bind fun t249 => (if t249 = true then (spec_l13Good.j0 k ((l0_2.length : Int) != (wrap64 (a0_0 * a0_1))) a0_0 a0_1 l0_2) else (spec_l13Good.j0 k true a0_0 a0_1 l0_2))) = some r := by rw [if_pos rfl] at H; exact H
  clear H
  have H := H1
  clear H1
  replace H := Option.bind_eq_some_iff.mp H
  obtain ⟨t249, A60, H⟩ := H
  replace H : (if t249 = true then (spec_l13Good.j0 k ((l0_2.length : Int) != (wrap64 (a0_0 * a0_1))) a0_0 a0_1 l0_2) else (spec_l13Good.j0 k true a0_0 a0_1 l0_2)) = some r := H
  have A6 := Aside0.mk A60
  clear A60
  by_cases c7 : t249 = true
  case pos =>
   subst c7
   have H1 : (spec_l13Good.j0 k ((l0_2.length : Int) != (wrap64 (a0_0 * a0_1))) a0_0 a0_1 l0_2) = some r := by rw [if_pos rfl] at H; exact H
   clear H
   have H := H1
   clear H1
   have H' := Aside0.mk H
   clear H
   have hcz8_0 := bz BK247.out 0 (.int .i64 a0_0)
   have hcz8_1 := bz BK247.out 1 (.int .i64 a0_1)
   have hcz8_2 := bz BK247.out 2 (.slice A0_2 l0_2.length c0_2)
   have hfz8_0 := blk_frozen BK247.out 0
   have hfz8_1 := blk_frozen BK247.out 1
   have hfz8_2 := blk_frozen BK247.out 2
   go_wp2_with (first | ((with_reducible refine gate_callee (f := 49) rfl ?_); refine goesL_ (some 6) rfl rfl Try.func49 (by kernel_rfl) rfl #[.int .i64 a0_0, .int .i64 1, .int .i64 8] rfl zq1 ?_; (with_reducible refine (spec_l1In.calls a0_0 1 8 true _ A4.out).mono ?_); rintro e w' ⟨rfl, ⟨nd, rfl⟩⟩; refine ⟨_, rfl, ?_⟩) | (go_at_call 49; (with_reducible refine (spec_l1In.calls a0_1 1 8 true _ A6.out).mono ?_); rintro e w' ⟨rfl, ⟨nd, rfl⟩⟩))
   go_meet
   case rel => exact ⟨_, (((l0_2.length : Int) != (wrap64 (a0_0 * a0_1)))), (by first | rfl | (simp; done) | (simp [*]; done)), H', ⟨by first | omega | exact Nat.le_refl _⟩, ⟨by (with_reducible repeat (first | refine blk_drewN ?_ _ | refine blk_drew ?_ | refine blk_alloc ?_ _)); exact BK247.out⟩, ⟨zq30⟩⟩
  replace c7 := Bool.eq_false_iff.mpr c7
  subst c7
  have H1 : (spec_l13Good.j0 k true a0_0 a0_1 l0_2) = some r := by rw [if_neg (show ¬ (false = true) by decide)] at H; exact H
  clear H
  have H := H1
  clear H1
  have H' := Aside0.mk H
  clear H
  have hcz9_0 := bz BK247.out 0 (.int .i64 a0_0)
  have hcz9_1 := bz BK247.out 1 (.int .i64 a0_1)
  have hcz9_2 := bz BK247.out 2 (.slice A0_2 l0_2.length c0_2)
  have hfz9_0 := blk_frozen BK247.out 0
  have hfz9_1 := blk_frozen BK247.out 1
  have hfz9_2 := blk_frozen BK247.out 2
  go_wp2_with (first | ((with_reducible refine gate_callee (f := 49) rfl ?_); refine goesL_ (some 6) rfl rfl Try.func49 (by kernel_rfl) rfl #[.int .i64 a0_0, .int .i64 1, .int .i64 8] rfl zq1 ?_; (with_reducible refine (spec_l1In.calls a0_0 1 8 true _ A4.out).mono ?_); rintro e w' ⟨rfl, ⟨nd, rfl⟩⟩; refine ⟨_, rfl, ?_⟩) | (go_at_call 49; (with_reducible refine (spec_l1In.calls a0_1 1 8 false _ A6.out).mono ?_); rintro e w' ⟨rfl, ⟨nd, rfl⟩⟩))
  go_meet
  case rel => exact ⟨_, (true), (by first | rfl | (simp; done) | (simp [*]; done)), H', ⟨by first | omega | exact Nat.le_refl _⟩, ⟨by (with_reducible repeat (first | refine blk_drewN ?_ _ | refine blk_drew ?_ | refine blk_alloc ?_ _)); exact BK247.out⟩, ⟨zq30⟩⟩
 clear HC2
 try clear p2
 try clear c3
 try clear c4
 try clear c5
 try clear p6
 try clear c7
 try clear hcz10_0
 try clear hcz10_1
 try clear hcz10_2
 try clear hcz8_0
 try clear hcz8_1
 try clear hcz8_2
 try clear hcz9_0
 try clear hcz9_1
 try clear hcz9_2
 try clear hfz10_0
 try clear hfz10_1
 try clear hfz10_2
 try clear hfz8_0
 try clear hfz8_1
 try clear hfz8_2
 try clear hfz9_0
 try clear hfz9_1
 try clear hfz9_2
 obtain ⟨kq, x24_1, rfl, HA, HJ1, BK247, HB⟩ := hcut
 cases kq with
 | zero => exact absurd HA.out (by simp [spec_l13Good.j0])
 | succ kj1 =>
  have H := HA.out
  clear HA
  simp only [spec_l13Good.j0] at H
  by_cases c11 : x24_1 = true
  case pos =>
   subst c11
   have H1 : (some false) = some r := by rw [if_pos rfl] at H; exact H
   clear H
   have H := H1
   clear H1
   obtain rfl := Option.some.inj H
   go_wp2
   go_ret
   exact ⟨zqE, zq30⟩
  replace c11 := Bool.eq_false_iff.mpr c11
  subst c11
  have H1 : (spec_l13Good.l0 kj1 0 a0_0 a0_1 l0_2) = some r := by rw [if_neg (show ¬ (false = true) by decide)] at H; exact H
  clear H
  have H := H1
  clear H1
  have H' := Aside0.mk H
  clear H
  go_wp2
  go_loopg [3] kj1 (fun kq v3 w' => ∃ (x3_2 : Int), v3 = .int .i64 x3_2 ∧ Aside0 (spec_l13Good.l0 kq x3_2 a0_0 a0_1 l0_2 = some r) ∧ Aside0 (kq ≤ kj1) ∧ Aside0 (w'.heap[gb247]? = some (.cells #[.int .i64 a0_0, .int .i64 a0_1, (.slice A0_2 l0_2.length c0_2)] 26 (0, 0))) ∧ Aside0 (Below w.heap.size w w'))
  case atStart => exact ⟨(0), (by first | rfl | (simp; done) | (simp [*]; done)), H', ⟨Nat.le_refl _⟩, ⟨by (with_reducible repeat (first | refine blk_drewN ?_ _ | refine blk_drew ?_ | refine blk_alloc ?_ _)); exact BK247.out⟩, ⟨zq30⟩⟩
  clear H'
  try clear c1
  try clear p2
  try clear c3
  try clear c4
  try clear c5
  try clear p6
  try clear c7
  try clear c11
  try clear hcz10_0
  try clear hcz10_1
  try clear hcz10_2
  try clear hcz8_0
  try clear hcz8_1
  try clear hcz8_2
  try clear hcz9_0
  try clear hcz9_1
  try clear hcz9_2
  try clear hfz10_0
  try clear hfz10_1
  try clear hfz10_2
  try clear hfz8_0
  try clear hfz8_1
  try clear hfz8_2
  try clear hfz9_0
  try clear hfz9_1
  try clear hfz9_2
  try clear p2
  try clear p6
  obtain ⟨x3_2, rfl, HA, HK2, BK247, HB⟩ := hrel
  cases gk with
  | zero => exact absurd HA.out (by simp [spec_l13Good.l0])
  | succ k2 =>
   have H := HA.out
   clear HA
   simp only [spec_l13Good.l0] at H
   by_cases c12 : x3_2 < (l0_2.length : Int)
   case neg =>
    rw [if_neg c12] at H
    have c12b0 : decide (x3_2 < (l0_2.length : Int)) = false := decide_eq_false c12
    clear c12
    obtain rfl := Option.some.inj H
    have hcz18_0 := bz BK247.out 0 (.int .i64 a0_0)
    have hcz18_1 := bz BK247.out 1 (.int .i64 a0_1)
    have hcz18_2 := bz BK247.out 2 (.slice A0_2 l0_2.length c0_2)
    have hfz18_0 := blk_frozen BK247.out 0
    have hfz18_1 := blk_frozen BK247.out 1
    have hfz18_2 := blk_frozen BK247.out 2
    go_wp2
    go_ret
    exact ⟨zqE, zq30⟩
   rw [if_pos c12] at H
   have c12b0 : decide (x3_2 < (l0_2.length : Int)) = true := decide_eq_true c12
   clear c12
   by_cases c13 : 0 ≤ x3_2
   case neg =>
    rw [if_neg c13] at H
    exact absurd H (by simp)
   rw [if_pos c13] at H
   have c13b0 : decide (0 ≤ x3_2) = true := decide_eq_true c13
   clear c13
   replace H := Option.bind_eq_some_iff.mp H
   obtain ⟨t251, A140, H⟩ := H
   replace H : (if t251 = true then (spec_l13Good.l0 k2 (wrap64 (x3_2 + 1)) a0_0 a0_1 l0_2) else (some false)) = some r := H
   have A14 := Aside0.mk A140
   clear A140
   by_cases c15 : t251 = true
   case neg =>
    replace c15 := Bool.eq_false_iff.mpr c15
    subst c15
    have H1 : (some false) = some r := by rw [if_neg (show ¬ (false = true) by decide)] at H; exact H
    clear H
    have H := H1
    clear H1
    obtain rfl := Option.some.inj H
    have hcz17_0 := bz BK247.out 0 (.int .i64 a0_0)
    have hcz17_1 := bz BK247.out 1 (.int .i64 a0_1)
    have hcz17_2 := bz BK247.out 2 (.slice A0_2 l0_2.length c0_2)
    have hfz17_0 := blk_frozen BK247.out 0
    have hfz17_1 := blk_frozen BK247.out 1
    have hfz17_2 := blk_frozen BK247.out 2
    have p250 : 0 ≤ (x3_2 : Int) := of_decide_eq_true zq10
    have q250 : x3_2 < (l0_2.length : Int) := of_decide_eq_true zq10
    obtain ⟨ad250, e250, hx250_0⟩ := Kd.at_int HR0_2.out x3_2 p250 q250
    cases e250
    replace hx250_0 := bx HB.out hx250_0
    replace p250 := eq_true p250
    replace q250 := eq_true q250
    go_wp2_with (first | ((with_reducible refine gate_callee (f := 49) rfl ?_); refine goesL_ (some 37) rfl rfl Try.func49 (by kernel_rfl) rfl #[.int .i64 (rd l0_2 x3_2), .int .i64 0, .int .i64 9] rfl zq1 ?_; (with_reducible refine (spec_l1In.calls (rd l0_2 x3_2) 0 9 false _ A14.out).mono ?_); rintro e w' ⟨rfl, ⟨nd, rfl⟩⟩; refine ⟨_, rfl, ?_⟩))
    go_ret
    exact ⟨zqE, zq30⟩
   subst c15
   have H1 : (spec_l13Good.l0 k2 (wrap64 (x3_2 + 1)) a0_0 a0_1 l0_2) = some r := by rw [if_pos rfl] at H; exact H
   clear H
   have H := H1
   clear H1
   have H' := Aside0.mk H
   clear H
   have hcz16_0 := bz BK247.out 0 (.int .i64 a0_0)
   have hcz16_1 := bz BK247.out 1 (.int .i64 a0_1)
   have hcz16_2 := bz BK247.out 2 (.slice A0_2 l0_2.length c0_2)
   have hfz16_0 := blk_frozen BK247.out 0
   have hfz16_1 := blk_frozen BK247.out 1
   have hfz16_2 := blk_frozen BK247.out 2
   have p250 : 0 ≤ (x3_2 : Int) := of_decide_eq_true zq10
   have q250 : x3_2 < (l0_2.length : Int) := of_decide_eq_true zq10
   obtain ⟨ad250, e250, hx250_0⟩ := Kd.at_int HR0_2.out x3_2 p250 q250
   cases e250
   replace hx250_0 := bx HB.out hx250_0
   replace p250 := eq_true p250
   replace q250 := eq_true q250
   go_wp2_with (first | ((with_reducible refine gate_callee (f := 49) rfl ?_); refine goesL_ (some 37) rfl rfl Try.func49 (by kernel_rfl) rfl #[.int .i64 (rd l0_2 x3_2), .int .i64 0, .int .i64 9] rfl zq1 ?_; (with_reducible refine (spec_l1In.calls (rd l0_2 x3_2) 0 9 true _ A14.out).mono ?_); rintro e w' ⟨rfl, ⟨nd, rfl⟩⟩; refine ⟨_, rfl, ?_⟩))
   go_roundg k2
   case measure => have := HJ1.out; have := HK2.out; omega
   case rel => exact ⟨(wrap64 (x3_2 + 1)), (by first | rfl | (simp; done) | (simp [*]; done)), H', ⟨by have := HJ1.out; have := HK2.out; omega⟩, ⟨by (with_reducible repeat (first | refine blk_drewN ?_ _ | refine blk_drew ?_ | refine blk_alloc ?_ _)); exact BK247.out⟩, ⟨zq30⟩⟩

/-! ### spec_l1Has: function 35 -/
def spec_l1Has.l0 : Nat → List Int → Int → Int → Option (Bool)
 | 0, _, _, _ => none
 | k + 1, x0, x1, x5 => if x5 < (x0.length : Int) then (if 0 ≤ x5 then (if (rd x0 x5) = x1 then (some true) else (spec_l1Has.l0 k x0 x1 (wrap64 (x5 + 1)))) else (none)) else (some false)
def spec_l1Has.f (k : Nat) (l0 : List Int) (a1 : Int) : Option (Bool) := spec_l1Has.l0 k l0 a1 0
set_option maxHeartbeats 8000000 in
set_option maxRecDepth 100000 in
theorem spec_l1Has.calls (k : Nat) (A0 : Option Addr) (c0 : Nat) (l0 : List Int) (a1 : Int) (r : Bool) (w : World) (hr0 : Kd.C (Kd.int .i64) w A0 l0.length l0) (hc0 : l0.length ≤ c0) (h : spec_l1Has.f k l0 a1 = some r) :
  Calls Try.prog 35 #[.slice A0 l0.length c0, .int .i64 a1] w fun e w' => e = .returned (.bool r) ∧ Drawn0 w w' := by
 have HR0 := Aside0.mk hr0
 have HC0 := Aside0.mk hc0
 clear hr0 hc0
 have H : (spec_l1Has.l0 k l0 a1 0) = some r := h
 clear h
 have H' := Aside0.mk H
 clear H
 go_enter Try.func35, Try.ntmps35
 go_wp2
 go_loopg [5] k (fun kq v5 w' => ∃ (x5_1 : Int), v5 = .int .i64 x5_1 ∧ Aside0 (spec_l1Has.l0 kq l0 a1 x5_1 = some r) ∧ Aside0 (kq ≤ k) ∧ Drawn0 w w')
 case atStart => exact ⟨(0), (by first | rfl | (simp; done) | (simp [*]; done)), H', ⟨Nat.le_refl _⟩, zq23⟩
 clear H'
 try clear p2
 obtain ⟨x5_1, rfl, HA, HK1, ⟨m1, rfl⟩⟩ := hrel
 cases gk with
 | zero => exact absurd HA.out (by simp [spec_l1Has.l0])
 | succ k1 =>
  have H := HA.out
  clear HA
  simp only [spec_l1Has.l0] at H
  by_cases c3 : x5_1 < (l0.length : Int)
  case neg =>
   rw [if_neg c3] at H
   have c3b0 : decide (x5_1 < (l0.length : Int)) = false := decide_eq_false c3
   clear c3
   obtain rfl := Option.some.inj H
   go_wp2
   go_ret
   exact ⟨by first | rfl | (simp; done) | (simp [*]; done), zq23⟩
  rw [if_pos c3] at H
  have c3b0 : decide (x5_1 < (l0.length : Int)) = true := decide_eq_true c3
  clear c3
  by_cases c4 : 0 ≤ x5_1
  case neg =>
   rw [if_neg c4] at H
   exact absurd H (by simp)
  rw [if_pos c4] at H
  have c4b0 : decide (0 ≤ x5_1) = true := decide_eq_true c4
  clear c4
  by_cases c5 : (rd l0 x5_1) = a1
  case pos =>
   rw [if_pos c5] at H
   have c5b0 : ((rd l0 x5_1) == a1) = true := beq_iff_eq.mpr c5
   have c5b1 : ((rd l0 x5_1) != a1) = false := bne_eq_false_iff_eq.mpr c5
   clear c5
   obtain rfl := Option.some.inj H
   have p252 : 0 ≤ (x5_1 : Int) := of_decide_eq_true zq10
   have q252 : x5_1 < (l0.length : Int) := of_decide_eq_true zq10
   obtain ⟨ad252, e252, hx252_0⟩ := Kd.at_int HR0.out x5_1 p252 q252
   cases e252
   replace p252 := eq_true p252
   replace q252 := eq_true q252
   go_wp2
   go_ret
   exact ⟨by first | rfl | (simp; done) | (simp [*]; done), zq23⟩
  rw [if_neg c5] at H
  have c5b0 : ((rd l0 x5_1) == a1) = false := beq_eq_false_iff_ne.mpr c5
  have c5b1 : ((rd l0 x5_1) != a1) = true := bne_iff_ne.mpr c5
  have H' := Aside0.mk H
  clear H
  have p252 : 0 ≤ (x5_1 : Int) := of_decide_eq_true zq10
  have q252 : x5_1 < (l0.length : Int) := of_decide_eq_true zq10
  obtain ⟨ad252, e252, hx252_0⟩ := Kd.at_int HR0.out x5_1 p252 q252
  cases e252
  replace p252 := eq_true p252
  replace q252 := eq_true q252
  go_wp2
  go_roundg k1
  case measure => have := HK1.out; omega
  case rel => exact ⟨(wrap64 (x5_1 + 1)), (by first | rfl | (simp; done) | (simp [*]; done)), H', ⟨by have := HK1.out; omega⟩, zq23⟩

/-! ### spec_l13There: function 24 -/
def spec_l13There.f (k : Nat) (a0_0 : Int) (a0_1 : Int) (l0_2 : List Int) (a1 : Int) : Option (Bool) := (spec_l13Good.f k a0_0 a0_1 l0_2).bind fun t254 => (if t254 = true then (if a1 > 0 then ((spec_l1Has.f k l0_2 a1).bind fun t255 => (some t255)) else (some false)) else (some false))
set_option maxHeartbeats 8000000 in
set_option maxRecDepth 100000 in
theorem spec_l13There.calls (k : Nat) (a0_0 : Int) (a0_1 : Int) (A0_2 : Option Addr) (c0_2 : Nat) (l0_2 : List Int) (a1 : Int) (r : Bool) (w : World) (hr0_2 : Kd.C (Kd.int .i64) w A0_2 l0_2.length l0_2) (hc0_2 : l0_2.length ≤ c0_2) (h : spec_l13There.f k a0_0 a0_1 l0_2 a1 = some r) :
  Calls Try.prog 24 #[.agg #[.int .i64 a0_0, .int .i64 a0_1, .slice A0_2 l0_2.length c0_2], .int .i64 a1] w fun e w' => e = .returned (.bool r) ∧ Below w.heap.size w w' := by
 have hu26 := Try.underlying26
 have HR0_2 := Aside0.mk hr0_2
 have HC0_2 := Aside0.mk hc0_2
 clear hr0_2 hc0_2
 have HB := Aside0.mk (Below.refl w.heap.size w)
 have H : ((spec_l13Good.f k a0_0 a0_1 l0_2).bind fun t254 => (if t254 = true then (if a1 > 0 then ((spec_l1Has.f k l0_2 a1).bind fun t255 => (some t255)) else (some false)) else (some false))) = some r := h
 clear h
 replace H := Option.bind_eq_some_iff.mp H
 obtain ⟨t254, A30, H⟩ := H
 replace H : (if t254 = true then (if a1 > 0 then ((spec_l1Has.f k l0_2 a1).bind fun t255 => (some t255)) else (some false)) else (some false)) = some r := H
 have A3 := Aside0.mk A30
 clear A30
 by_cases c4 : t254 = true
 case neg =>
  replace c4 := Bool.eq_false_iff.mpr c4
  subst c4
  have H1 : (some false) = some r := by rw [if_neg (show ¬ (false = true) by decide)] at H; exact H
  clear H
  have H := H1
  clear H1
  obtain rfl := Option.some.inj H
  go_enter Try.func24, Try.ntmps24
  go_wp2_with (first | ((with_reducible refine gate_dst (N := 2) rfl ?_); refine box_event ?hg (N := 2) ?hd (cs := #[.int .i64 a0_0, .int .i64 a0_1, .slice A0_2 l0_2.length c0_2]) (t := 26) ?hr ?_; (case hd => rfl); (case hg => rfl); (case hr => exact zqS); intro gb253 hg w14 hbox hb; have BK253 := Aside0.mk (hbox); have GW253 := Aside0.mk ((by rw [hg]; exact (below_size zq0) : w.heap.size ≤ gb253)); replace HB := Aside0.mk (below_step zq0 hb); have GE253 := GW253; clear hb hbox hg; have hcz15_0 := bz BK253.out 0 (.int .i64 a0_0); have hcz15_1 := bz BK253.out 1 (.int .i64 a0_1); have hcz15_2 := bz BK253.out 2 (.slice A0_2 l0_2.length c0_2); have hfz15_0 := blk_frozen BK253.out 0; have hfz15_1 := blk_frozen BK253.out 1; have hfz15_2 := blk_frozen BK253.out 2) | ((with_reducible refine gate_callee (f := 34) rfl ?_); refine goesL_ (some 6) rfl rfl Try.func34 (by kernel_rfl) rfl #[.agg #[.int .i64 a0_0, .int .i64 a0_1, .slice A0_2 l0_2.length c0_2]] rfl zq1 ?_; (with_reducible refine (spec_l13Good.calls k a0_0 a0_1 _ _ l0_2 false _ ?side1 ?side2 A3.out).mono ?_); (case side1 => exact zqC (Kd.C_below HR0_2.out HB.out)); (case side2 => exact HC0_2.out); rintro e w16 ⟨rfl, hb⟩; refine ⟨_, rfl, ?_⟩; replace BK253 := Aside0.mk (blk_below (g := gb253) (o := .cells #[.int .i64 a0_0, .int .i64 a0_1, .slice A0_2 l0_2.length c0_2] 26 (0, 0)) (zqK BK253.out) hb); replace HB := Aside0.mk (below_step zq34 hb); (try clear hb); (try clear hb2); (try clear hk); (try clear hi)))
  go_ret
  exact ⟨zqE, zq34⟩
 subst c4
 have H1 : (if a1 > 0 then ((spec_l1Has.f k l0_2 a1).bind fun t255 => (some t255)) else (some false)) = some r := by rw [if_pos rfl] at H; exact H
 clear H
 have H := H1
 clear H1
 by_cases c5 : a1 > 0
 case neg =>
  rw [if_neg c5] at H
  have c5b0 : decide (0 < a1) = false := decide_eq_false c5
  clear c5
  obtain rfl := Option.some.inj H
  go_enter Try.func24, Try.ntmps24
  go_wp2_with (first | ((with_reducible refine gate_dst (N := 2) rfl ?_); refine box_event ?hg (N := 2) ?hd (cs := #[.int .i64 a0_0, .int .i64 a0_1, .slice A0_2 l0_2.length c0_2]) (t := 26) ?hr ?_; (case hd => rfl); (case hg => rfl); (case hr => exact zqS); intro gb253 hg w11 hbox hb; have BK253 := Aside0.mk (hbox); have GW253 := Aside0.mk ((by rw [hg]; exact (below_size zq0) : w.heap.size ≤ gb253)); replace HB := Aside0.mk (below_step zq0 hb); have GE253 := GW253; clear hb hbox hg; have hcz12_0 := bz BK253.out 0 (.int .i64 a0_0); have hcz12_1 := bz BK253.out 1 (.int .i64 a0_1); have hcz12_2 := bz BK253.out 2 (.slice A0_2 l0_2.length c0_2); have hfz12_0 := blk_frozen BK253.out 0; have hfz12_1 := blk_frozen BK253.out 1; have hfz12_2 := blk_frozen BK253.out 2) | ((with_reducible refine gate_callee (f := 34) rfl ?_); refine goesL_ (some 6) rfl rfl Try.func34 (by kernel_rfl) rfl #[.agg #[.int .i64 a0_0, .int .i64 a0_1, .slice A0_2 l0_2.length c0_2]] rfl zq1 ?_; (with_reducible refine (spec_l13Good.calls k a0_0 a0_1 _ _ l0_2 true _ ?side1 ?side2 A3.out).mono ?_); (case side1 => exact zqC (Kd.C_below HR0_2.out HB.out)); (case side2 => exact HC0_2.out); rintro e w13 ⟨rfl, hb⟩; refine ⟨_, rfl, ?_⟩; replace BK253 := Aside0.mk (blk_below (g := gb253) (o := .cells #[.int .i64 a0_0, .int .i64 a0_1, .slice A0_2 l0_2.length c0_2] 26 (0, 0)) (zqK BK253.out) hb); replace HB := Aside0.mk (below_step zq34 hb); (try clear hb); (try clear hb2); (try clear hk); (try clear hi)))
  go_ret
  exact ⟨zqE, zq34⟩
 rw [if_pos c5] at H
 have c5b0 : decide (0 < a1) = true := decide_eq_true c5
 clear c5
 replace H := Option.bind_eq_some_iff.mp H
 obtain ⟨t255, A60, H⟩ := H
 replace H : (some t255) = some r := H
 have A6 := Aside0.mk A60
 clear A60
 obtain rfl := Option.some.inj H
 go_enter Try.func24, Try.ntmps24
 go_wp2_with (first | ((with_reducible refine gate_dst (N := 2) rfl ?_); refine box_event ?hg (N := 2) ?hd (cs := #[.int .i64 a0_0, .int .i64 a0_1, .slice A0_2 l0_2.length c0_2]) (t := 26) ?hr ?_; (case hd => rfl); (case hg => rfl); (case hr => exact zqS); intro gb253 hg w7 hbox hb; have BK253 := Aside0.mk (hbox); have GW253 := Aside0.mk ((by rw [hg]; exact (below_size zq0) : w.heap.size ≤ gb253)); replace HB := Aside0.mk (below_step zq0 hb); have GE253 := GW253; clear hb hbox hg; have hcz8_0 := bz BK253.out 0 (.int .i64 a0_0); have hcz8_1 := bz BK253.out 1 (.int .i64 a0_1); have hcz8_2 := bz BK253.out 2 (.slice A0_2 l0_2.length c0_2); have hfz8_0 := blk_frozen BK253.out 0; have hfz8_1 := blk_frozen BK253.out 1; have hfz8_2 := blk_frozen BK253.out 2) | ((with_reducible refine gate_callee (f := 34) rfl ?_); refine goesL_ (some 6) rfl rfl Try.func34 (by kernel_rfl) rfl #[.agg #[.int .i64 a0_0, .int .i64 a0_1, .slice A0_2 l0_2.length c0_2]] rfl zq1 ?_; (with_reducible refine (spec_l13Good.calls k a0_0 a0_1 _ _ l0_2 true _ ?side1 ?side2 A3.out).mono ?_); (case side1 => exact zqC (Kd.C_below HR0_2.out HB.out)); (case side2 => exact HC0_2.out); rintro e w9 ⟨rfl, hb⟩; refine ⟨_, rfl, ?_⟩; replace BK253 := Aside0.mk (blk_below (g := gb253) (o := .cells #[.int .i64 a0_0, .int .i64 a0_1, .slice A0_2 l0_2.length c0_2] 26 (0, 0)) (zqK BK253.out) hb); replace HB := Aside0.mk (below_step zq34 hb); (try clear hb); (try clear hb2); (try clear hk); (try clear hi); have hcz10_0 := bz BK253.out 0 (.int .i64 a0_0); have hcz10_1 := bz BK253.out 1 (.int .i64 a0_1); have hcz10_2 := bz BK253.out 2 (.slice A0_2 l0_2.length c0_2); have hfz10_0 := blk_frozen BK253.out 0; have hfz10_1 := blk_frozen BK253.out 1; have hfz10_2 := blk_frozen BK253.out 2) | (go_at_call 35; (with_reducible refine (spec_l1Has.calls k _ _ l0_2 a1 t255 _ ?side1 ?side2 A6.out).mono ?_); (case side1 => exact zqC (Kd.C_below HR0_2.out HB.out)); (case side2 => exact HC0_2.out); rintro e w' ⟨rfl, ⟨nd, rfl⟩⟩))
 go_ret
 exact ⟨zqE, zq34⟩

/-! ### spec_l1Own: function 25 -/
def spec_l1Own.f (l0 : List Int) : Option (List Int) := (some (([] : List Int) : List Int)).bind fun y256 => (if y256.length + l0.length < 17592186044416 then (some (y256 ++ l0)) else (none))
set_option maxHeartbeats 8000000 in
set_option maxRecDepth 100000 in
theorem spec_l1Own.calls (A0 : Option Addr) (c0 : Nat) (l0 : List Int) (r : List Int) (w : World) (hr0 : Kd.C (Kd.int .i64) w A0 l0.length l0) (hc0 : l0.length ≤ c0) (h : spec_l1Own.f l0 = some r) :
  Calls Try.prog 25 #[.slice A0 l0.length c0] w fun e w' => ∃ v0_ : Value, e = .returned (v0_) ∧ Kd.R (Kd.int .i64) 3 w' w.heap.size (fun _ => True) v0_ r ∧ Below w.heap.size w w' := by
 have HR0 := Aside0.mk hr0
 have HC0 := Aside0.mk hc0
 clear hr0 hc0
 have HB := Aside0.mk (Below.refl w.heap.size w)
 have H : ((some (([] : List Int) : List Int)).bind fun y256 => (if y256.length + l0.length < 17592186044416 then (some (y256 ++ l0)) else (none))) = some r := h
 clear h
 obtain ⟨y256, hy256⟩ : ∃ y_ : List Int, y_ = (([] : List Int)) := ⟨_, rfl⟩
 replace H : (if y256.length + l0.length < 17592186044416 then (some (y256 ++ l0)) else (none)) = some r := zqH hy256 H
 have Ny256 := Aside0.mk hy256
 clear hy256
 by_cases c2 : y256.length + l0.length < 17592186044416
 case neg =>
  rw [if_neg c2] at H
  exact absurd H (by simp)
 rw [if_pos c2] at H
 have LMc2 := Aside0.mk c2
 clear c2
 obtain ⟨y259, hy259⟩ : ∃ y_ : List Int, y_ = (y256 ++ l0) := ⟨_, rfl⟩
 replace H : (some y259) = some r := zqH hy259 H
 have Ny259 := Aside0.mk hy259
 clear hy259
 obtain rfl := Option.some.inj H
 go_enter Try.func25, Try.ntmps25
 go_wp2_with (first | ((with_reducible refine gate_dst (N := 3) rfl ?_); refine Kd.R_lit (Kd.int .i64) _ 3 ?hg (N := 3) ?hd (xs := ([] : List Int)) (inner := []) (ok := fun _ => True) (okp := fun _ => True) ?hr ?hp (fun _ hk => hk) trivial (Below.refl _ _) (Nat.le_refl _) (by simp) ?_; (case hd => rfl); (case hg => rfl); (case hr => exact zqS); (case hp => exact (Reps.none _ _)); intro v257 w3 ho4 hb hg_ hnew_; clear hg_ hnew_; (first | rw [← Ny256.out] at ho4 | (simp only [Int.reduceToNat] at ho4; rw [← Ny256.out] at ho4)); have HO258 := Aside0.mk (Kd.R_lower ho4 (below_size zq0)); replace HB := Aside0.mk (below_step zq0 hb); clear hb ho4) | ((with_reducible refine gate_builtin (b := .append) (xs := #[.tmp 3, .tmp 4]) rfl ?_); at_builtin; refine Kd.R_append_rows (Kd.int .i64) (w0 := w) w.heap.size rfl (.tmp 3) (.tmp 4) 24 3 (.int .i64 0) 8 rfl Try.underlying24 info3 rfl (by decide) (by omega) v257 y256 l0 _ _ _ (fun _ => True) (fun _ => False) rfl rfl ?aO ?aR (fun _ _ h => h) (fun _ h => h.elim) ?aF ?aB ?aS ?aL ?_; (case aR => exact zqC (Kd.C_below HR0.out HB.out)); (case aB => exact zq0); (case aF => exact (fun _ _ => trivial)); (case aO => exact (zqR HO258.out)); (case aS => exact (below_size zq0)); (case aL => have := LMc2.out; omega); intro v260 w5 ho hb hg hat; rw [← Ny259.out] at ho; replace HB := Aside0.mk (hb); have HO261 := Aside0.mk (ho); clear HO258; clear ho hb hg hat))
 go_ret
 exact ⟨_, by first | rfl | (simp [errW_none, errW_some] <;> rfl) | (simp [*, errW_none, errW_some] <;> rfl), zqR HO261.out, zq0⟩
end Go.Proofs.Ytoaclbbkllpdaaa.Q
