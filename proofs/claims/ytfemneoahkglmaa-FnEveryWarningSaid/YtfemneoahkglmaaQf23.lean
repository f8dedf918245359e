-- Printed by a program of this session (wip/tools/seatprint.py) that runs over the kit's print.
import Derived.Test.YtfemneoahkglmaaQ0
import Derived.Test.YtfemneoahkglmaaQf28
import Derived.Test.YtfemneoahkglmaaQf42
import Derived.Test.YtfemneoahkglmaaQf47
import Derived.Test.YtfemneoahkglmaaQf50
namespace Go.Proofs.Ytfemneoahkglmaa.Q
open Go.RowKit Go.Proofs.YtfemneoahkglmaaW.PrintWords Go.Proofs.YtfemneoahkglmaaW.PrintLast Go.Proofs.YtfemneoahkglmaaW.PrintMore
attribute [local go_sem] max2_int min2_int max_two min_two max_three min_three max_four min_four   -- for this text's walks alone
set_option linter.unusedVariables false
set_option linter.unusedSimpArgs false

/-! ### spec_ExtendWarning: function 23 -/
def spec_ExtendWarning.j0 : Nat → List (S37) → Int → Int → Bool → Option ((List (S37)) × Bool)
 | 0, _, _, _, _ => none
 | k + 1, x0, x2, x8, x28 => if x28 = true then (some ((([] : List (S37))), false)) else (if 0 ≤ x8 then (if x8 < (x0.length : Int) then ((spec_l14With.f x0 x8 ((rd_T37 x0 x8).f0) ((rd_T37 x0 x8).f1) ((rd_T37 x0 x8).f2) ((rd_T37 x0 x8).f3) ((rd_T37 x0 x8).f4) x2).bind fun t563 => ((spec_l14Checked.f k t563).bind fun bt566 => (some (bt566.1, bt566.2)))) else (none)) else (none))
def spec_ExtendWarning.f (k : Nat) (l0 : List (S37)) (a1 : Int) (a2 : Int) : Option ((List (S37)) × Bool) := (spec_l14Find.f k l0 a1).bind fun t555 => ((spec_l14List.f k l0).bind fun t556 => (if t556 = true then (if t555 < 0 then (spec_ExtendWarning.j0 k l0 a2 t555 true) else (if 0 ≤ t555 then (if t555 < (l0.length : Int) then (spec_ExtendWarning.j0 k l0 a2 t555 (decide (a2 ≤ ((rd_T37 l0 t555).f5)))) else (none)) else (none))) else (spec_ExtendWarning.j0 k l0 a2 t555 true)))
theorem spec_ExtendWarning.mono_l : ∀ k, (∀ y0 y1 y2 y3, LeO (spec_ExtendWarning.j0 k y0 y1 y2 y3) (spec_ExtendWarning.j0 (k + 1) y0 y1 y2 y3))
 | 0 => fun _ _ _ _ r h => by simp [spec_ExtendWarning.j0] at h
 | k + 1 => by
  have ih0 := spec_ExtendWarning.mono_l k
  ·
   intro y0 y1 y2 y3
   unfold spec_ExtendWarning.j0
   repeat' first
   | (with_reducible exact ih0 _ _ _ _)
   | (with_reducible exact spec_l14Checked.mono _ _)
   | (with_reducible exact spec_l14Find.mono _ _ _)
   | (with_reducible exact spec_l14List.mono _ _)
   | (with_reducible exact LeO.refl _)
   | (with_reducible exact LeO.none _)
   | (with_reducible refine LeO.ite ?_ ?_)
   | (with_reducible refine LeO.bind ?_ (fun _ => ?_))
   | exact ih0 _ _ _ _
   | exact spec_l14Checked.mono _ _
   | exact spec_l14Find.mono _ _ _
   | exact spec_l14List.mono _ _
   | exact LeO.none _
   | refine LeO.ite ?_ ?_
   | refine LeO.bind ?_ (fun _ => ?_)
theorem spec_ExtendWarning.mono : ∀ a0 a1 a2 k, LeO (spec_ExtendWarning.f k a0 a1 a2) (spec_ExtendWarning.f (k + 1) a0 a1 a2) := by
 intro a0 a1 a2 k
 have ih0 := spec_ExtendWarning.mono_l k
 unfold spec_ExtendWarning.f
 repeat' first
   | (with_reducible exact ih0 _ _ _ _)
   | (with_reducible exact spec_l14Checked.mono _ _)
   | (with_reducible exact spec_l14Find.mono _ _ _)
   | (with_reducible exact spec_l14List.mono _ _)
   | (with_reducible exact LeO.refl _)
   | (with_reducible exact LeO.none _)
   | (with_reducible refine LeO.ite ?_ ?_)
   | (with_reducible refine LeO.bind ?_ (fun _ => ?_))
   | exact ih0 _ _ _ _
   | exact spec_l14Checked.mono _ _
   | exact spec_l14Find.mono _ _ _
   | exact spec_l14List.mono _ _
   | exact LeO.none _
   | refine LeO.ite ?_ ?_
   | refine LeO.bind ?_ (fun _ => ?_)
set_option maxHeartbeats 8000000 in
set_option maxRecDepth 100000 in
theorem spec_ExtendWarning.calls (k : Nat) (A0 : Option Addr) (c0 : Nat) (l0 : List (S37)) (a1 : Int) (a2 : Int) (r1 : List (S37)) (r2 : Bool) (w : World) (hr0 : Kd.C k37 w A0 l0.length l0) (hc0 : l0.length ≤ c0) (h : spec_ExtendWarning.f k l0 a1 a2 = some (r1, r2)) :
  Calls Try.prog 23 #[.slice A0 l0.length c0, .int .i64 a1, .int .i64 a2] w fun e w' => ∃ v0_ : Value, e = .returned (.tuple #[v0_, .bool r2]) ∧ Kd.R k37 37 w' w.heap.size (fun _ => True) v0_ r1 ∧ Below w.heap.size w w' := by
 have hu37 := Try.underlying37
 have HR0 := Aside0.mk hr0
 have HC0 := Aside0.mk hc0
 clear hr0 hc0
 have HB := Aside0.mk (Below.refl w.heap.size w)
 have H : ((spec_l14Find.f k l0 a1).bind fun t555 => ((spec_l14List.f k l0).bind fun t556 => (if t556 = true then (if t555 < 0 then (spec_ExtendWarning.j0 k l0 a2 t555 true) else (if 0 ≤ t555 then (if t555 < (l0.length : Int) then (spec_ExtendWarning.j0 k l0 a2 t555 (decide (a2 ≤ ((rd_T37 l0 t555).f5)))) else (none)) else (none))) else (spec_ExtendWarning.j0 k l0 a2 t555 true)))) = some (r1, r2) := h
 clear h
 replace H := Option.bind_eq_some_iff.mp H
 obtain ⟨t555, A40, H⟩ := H
 replace H : ((spec_l14List.f k l0).bind fun t556 => (if t556 = true then (if t555 < 0 then (spec_ExtendWarning.j0 k l0 a2 t555 true) else (if 0 ≤ t555 then (if t555 < (l0.length : Int) then (spec_ExtendWarning.j0 k l0 a2 t555 (decide (a2 ≤ ((rd_T37 l0 t555).f5)))) else (none)) else (none))) else (spec_ExtendWarning.j0 k l0 a2 t555 true))) = some (r1, r2) := H
 have A4 := Aside0.mk A40
 clear A40
 have HC5 := Aside0.mk H
 clear H
 go_enter Try.func23, Try.ntmps23
 go_upto_region 2 with (first | ((with_reducible refine gate_callee (f := 42) rfl ?_); refine goesL_ (some 12) rfl rfl Try.func42 (by kernel_rfl) rfl #[.slice A0 l0.length c0, .int .i64 a1] rfl (by (try simp only [List.map_toArray, List.map_cons, List.map_nil]); first | done | rfl | (simp only [List.length_drop, List.length_take]; rfl)) ?_; (with_reducible refine (spec_l14Find.calls k _ _ l0 a1 t555 _ ?side1 ?side2 A4.out).mono ?_); (case side1 => repeat (first | exact HR0.out | (with_reducible refine Kd.C_alloc ?_ _) | (with_reducible refine Kd.C_drewN ?_ _) | (with_reducible refine Kd.C_drew ?_))); (case side2 => exact HC0.out); rintro e w' ⟨rfl, ⟨nd, rfl⟩⟩; refine ⟨_, rfl, ?_⟩))
 (try simp only [Act.put, List.setIfInBounds_toArray, List.set_cons_zero, List.set_cons_succ])
 go_cut [28] (fun v28 wc => ∃ (kq : Nat) (x28_4 : Bool), v28 = .bool x28_4 ∧ Aside0 (spec_ExtendWarning.j0 kq l0 a2 t555 x28_4 = some (r1, r2)) ∧ Aside0 (kq ≤ k) ∧ Aside0 (Below w.heap.size w wc))
 case first =>
  have H := HC5.out
  clear HC5
  replace H := Option.bind_eq_some_iff.mp H
  obtain ⟨t556, A60, H⟩ := H
  replace H : (if t556 = true then (if t555 < 0 then (spec_ExtendWarning.j0 k l0 a2 t555 true) else (if 0 ≤ t555 then (if t555 < (l0.length : Int) then (spec_ExtendWarning.j0 k l0 a2 t555 (decide (a2 ≤ ((rd_T37 l0 t555).f5)))) else (none)) else (none))) else (spec_ExtendWarning.j0 k l0 a2 t555 true)) = some (r1, r2) := H
  have A6 := Aside0.mk A60
  clear A60
  by_cases c7 : t556 = true
  ·
   subst c7
   have H1 : (if t555 < 0 then (spec_ExtendWarning.j0 k l0 a2 t555 true) else (if 0 ≤ t555 then (if t555 < (l0.length : Int) then (spec_ExtendWarning.j0 k l0 a2 t555 (decide (a2 ≤ ((rd_T37 l0 t555).f5)))) else (none)) else (none))) = some (r1, r2) := by rw [if_pos rfl] at H; exact H
   clear H
   have H := H1
   clear H1
   by_cases c8 : t555 < 0
   ·
    rw [if_pos c8] at H
    have c8b0 : decide (t555 < 0) = true := decide_eq_true c8
    clear c8
    (first | rw [c8b0] | (simp only [i64_w, i32_w]; rw [c8b0]) | skip)
    have H' := Aside0.mk H
    clear H
    go_wp2_with (first | ((with_reducible refine gate_callee (f := 28) rfl ?_); refine goesL_ (some 14) rfl rfl Try.func28 (by kernel_rfl) rfl #[.slice A0 l0.length c0] rfl (by (try simp only [List.map_toArray, List.map_cons, List.map_nil]); first | done | rfl | (simp only [List.length_drop, List.length_take]; rfl)) ?_; (with_reducible refine (spec_l14List.calls k _ _ l0 true _ ?side1 ?side2 A6.out).mono ?_); (case side1 => repeat (first | exact (Kd.C_below HR0.out HB.out) | (with_reducible refine Kd.C_alloc ?_ _) | (with_reducible refine Kd.C_drewN ?_ _) | (with_reducible refine Kd.C_drew ?_))); (case side2 => exact HC0.out); rintro e w9 ⟨rfl, hb⟩; refine ⟨_, rfl, ?_⟩; have n0_ := Aside0.mk (below_step (by repeat (first | (with_reducible first | exact HB.out | apply below_alloc | apply pw_below_drewN | apply below_drew1) | exact HB.out)) hb); clear HB; have HB := n0_; clear n0_; (try clear hb); (try clear hb2); (try clear hk); (try clear hi)))
    go_meet
    case rel => exact ⟨_, (true), (by first | rfl | (simp; done) | (simp [*]; done)), H', ⟨by first | omega | exact Nat.le_refl _⟩, ⟨by repeat (first | (with_reducible first | exact HB.out | apply below_alloc | apply pw_below_drewN | apply below_drew1) | exact HB.out)⟩⟩
   ·
    rw [if_neg c8] at H
    have c8b0 : decide (t555 < 0) = false := decide_eq_false c8
    clear c8
    (first | rw [c8b0] | (simp only [i64_w, i32_w]; rw [c8b0]) | skip)
    by_cases c10 : 0 ≤ t555
    ·
     rw [if_pos c10] at H
     have c10b0 : decide (0 ≤ t555) = true := decide_eq_true c10
     clear c10
     by_cases c11 : t555 < (l0.length : Int)
     ·
      rw [if_pos c11] at H
      have c11b0 : decide (t555 < (l0.length : Int)) = true := decide_eq_true c11
      clear c11
      have H' := Aside0.mk H
      clear H
      go_wp2_with (first | ((with_reducible refine gate_callee (f := 28) rfl ?_); refine goesL_ (some 14) rfl rfl Try.func28 (by kernel_rfl) rfl #[.slice A0 l0.length c0] rfl (by (try simp only [List.map_toArray, List.map_cons, List.map_nil]); first | done | rfl | (simp only [List.length_drop, List.length_take]; rfl)) ?_; (with_reducible refine (spec_l14List.calls k _ _ l0 true _ ?side1 ?side2 A6.out).mono ?_); (case side1 => repeat (first | exact (Kd.C_below HR0.out HB.out) | (with_reducible refine Kd.C_alloc ?_ _) | (with_reducible refine Kd.C_drewN ?_ _) | (with_reducible refine Kd.C_drew ?_))); (case side2 => exact HC0.out); rintro e w12 ⟨rfl, hb⟩; refine ⟨_, rfl, ?_⟩; have n0_ := Aside0.mk (below_step (by repeat (first | (with_reducible first | exact HB.out | apply below_alloc | apply pw_below_drewN | apply below_drew1) | exact HB.out)) hb); clear HB; have HB := n0_; clear n0_; (try clear hb); (try clear hb2); (try clear hk); (try clear hi); have p557 : 0 ≤ (t555 : Int) := of_decide_eq_true (by first | (with_reducible assumption) | assumption); have q557 : t555 < (l0.length : Int) := of_decide_eq_true (by first | (with_reducible assumption) | assumption); obtain ⟨ad557, e557, hx557_0, hx557_1, hx557_2, hx557_3, hx557_4, hx557_5⟩ := at_T37 HR0.out t555 p557 q557; cases e557; replace hx557_0 := (HB.out.cell (World.block_lt_of_cell? w _ hx557_0)).trans hx557_0; replace hx557_1 := (HB.out.cell (World.block_lt_of_cell? w _ hx557_1)).trans hx557_1; replace hx557_2 := (HB.out.cell (World.block_lt_of_cell? w _ hx557_2)).trans hx557_2; replace hx557_3 := (HB.out.cell (World.block_lt_of_cell? w _ hx557_3)).trans hx557_3; replace hx557_4 := (HB.out.cell (World.block_lt_of_cell? w _ hx557_4)).trans hx557_4; replace hx557_5 := (HB.out.cell (World.block_lt_of_cell? w _ hx557_5)).trans hx557_5; replace p557 := eq_true p557; replace q557 := eq_true q557))
      go_meet
      case rel => exact ⟨_, (decide (a2 ≤ ((rd_T37 l0 t555).f5))), (by first | rfl | (simp; done) | (simp [*]; done)), H', ⟨by first | omega | exact Nat.le_refl _⟩, ⟨by repeat (first | (with_reducible first | exact HB.out | apply below_alloc | apply pw_below_drewN | apply below_drew1) | exact HB.out)⟩⟩
     ·
      rw [if_neg c11] at H
      exact absurd H (by simp)
    ·
     rw [if_neg c10] at H
     exact absurd H (by simp)
  ·
   replace c7 := Bool.eq_false_iff.mpr c7
   subst c7
   have H1 : (spec_ExtendWarning.j0 k l0 a2 t555 true) = some (r1, r2) := by rw [if_neg (show ¬ (false = true) by decide)] at H; exact H
   clear H
   have H := H1
   clear H1
   have H' := Aside0.mk H
   clear H
   go_wp2_with (first | ((with_reducible refine gate_callee (f := 28) rfl ?_); refine goesL_ (some 14) rfl rfl Try.func28 (by kernel_rfl) rfl #[.slice A0 l0.length c0] rfl (by (try simp only [List.map_toArray, List.map_cons, List.map_nil]); first | done | rfl | (simp only [List.length_drop, List.length_take]; rfl)) ?_; (with_reducible refine (spec_l14List.calls k _ _ l0 false _ ?side1 ?side2 A6.out).mono ?_); (case side1 => repeat (first | exact (Kd.C_below HR0.out HB.out) | (with_reducible refine Kd.C_alloc ?_ _) | (with_reducible refine Kd.C_drewN ?_ _) | (with_reducible refine Kd.C_drew ?_))); (case side2 => exact HC0.out); rintro e w13 ⟨rfl, hb⟩; refine ⟨_, rfl, ?_⟩; have n0_ := Aside0.mk (below_step (by repeat (first | (with_reducible first | exact HB.out | apply below_alloc | apply pw_below_drewN | apply below_drew1) | exact HB.out)) hb); clear HB; have HB := n0_; clear n0_; (try clear hb); (try clear hb2); (try clear hk); (try clear hi)))
   go_meet
   case rel => exact ⟨_, (true), (by first | rfl | (simp; done) | (simp [*]; done)), H', ⟨by first | omega | exact Nat.le_refl _⟩, ⟨by repeat (first | (with_reducible first | exact HB.out | apply below_alloc | apply pw_below_drewN | apply below_drew1) | exact HB.out)⟩⟩
 case rest =>
  clear HC5
  try clear c1
  try clear c2
  try clear p2
  try clear c4
  try clear p5
  try clear q5
  try clear hx5
  try clear c7
  try clear c8
  try clear c8b0
  try clear c10
  try clear c10b0
  try clear c11
  try clear c11b0
  try clear hx557_0
  try clear hx557_1
  try clear hx557_2
  try clear hx557_3
  try clear hx557_4
  try clear hx557_5
  try clear p557
  try clear q557
  obtain ⟨kq, x28_4, rfl, HA, HJ4, HB⟩ := hcut
  cases kq with
  | zero => exact absurd HA.out (by simp [spec_ExtendWarning.j0])
  | succ kj4 =>
   have H := HA.out
   clear HA
   simp only [spec_ExtendWarning.j0] at H
   by_cases c14 : x28_4 = true
   ·
    subst c14
    have H1 : (some ((([] : List (S37))), false)) = some (r1, r2) := by rw [if_pos rfl] at H; exact H
    clear H
    have H := H1
    clear H1
    obtain ⟨y558, hy558⟩ : ∃ y_ : List (S37), y_ = (([] : List (S37))) := ⟨_, rfl⟩
    replace H : (some (y558, false)) = some (r1, r2) := by first | (rw [hy558]; with_reducible exact H) | (have H2_ := (Option.bind_some _ _).symm.trans H; rw [hy558]; with_reducible exact H2_) | (have H2_ := (Option.bind_some _ _).symm.trans H; with_reducible exact H2_) | with_reducible exact H | (rw [hy558]; exact H) | exact H
    have Ny558 := Aside0.mk hy558
    clear hy558
    simp only [Option.some.injEq, Prod.mk.injEq] at H
    obtain ⟨rfl, rfl⟩ := H
    go_wp2_with (first | ((with_reducible refine gate_dst (N := 29) rfl ?_); refine Kd.R_lit k37 _ 37 ?hg (N := 29) ?hd (xs := ([] : List (S37))) (inner := []) (ok := fun _ => True) (okp := fun _ => True) ?hr ?hp (fun _ hk => hk) trivial (Below.refl _ _) (Nat.le_refl _) (by simp) ?_; (case hd => rfl); (case hg => rfl); (case hr => first | (go_simp; done) | (go_simp; rfl)); (case hp => exact (Reps.none _ _)); intro v559 w15 ho16 hb hg_ hnew_; clear hg_ hnew_; (first | rw [← Ny558.out] at ho16 | (simp only [Int.reduceToNat] at ho16; rw [← Ny558.out] at ho16)); have n0_ := Aside0.mk (Kd.R_lower ho16 (below_size (by repeat (first | (with_reducible first | exact HB.out | apply below_alloc | apply pw_below_drewN | apply below_drew1) | exact HB.out)))); have n1_ := Aside0.mk (below_step (by repeat (first | (with_reducible first | exact HB.out | apply below_alloc | apply pw_below_drewN | apply below_drew1) | exact HB.out)) hb); clear HB; have HO560 := n0_; have HB := n1_; clear n0_ n1_; clear hb ho16))
    go_ret2
    exact ⟨_, by first | rfl | (simp [errW_none, errW_some] <;> rfl) | (simp [*, errW_none, errW_some] <;> rfl), by (with_reducible repeat (first | apply Kd.R_alloc | apply Kd.R_drewN | apply Kd.R_drew)); exact HO560.out, by repeat (first | (with_reducible first | exact HB.out | apply below_alloc | apply pw_below_drewN | apply below_drew1) | exact HB.out)⟩
   ·
    replace c14 := Bool.eq_false_iff.mpr c14
    subst c14
    have H1 : (if 0 ≤ t555 then (if t555 < (l0.length : Int) then ((spec_l14With.f l0 t555 ((rd_T37 l0 t555).f0) ((rd_T37 l0 t555).f1) ((rd_T37 l0 t555).f2) ((rd_T37 l0 t555).f3) ((rd_T37 l0 t555).f4) a2).bind fun t563 => ((spec_l14Checked.f kj4 t563).bind fun bt566 => (some (bt566.1, bt566.2)))) else (none)) else (none)) = some (r1, r2) := by rw [if_neg (show ¬ (false = true) by decide)] at H; exact H
    clear H
    have H := H1
    clear H1
    by_cases c17 : 0 ≤ t555
    ·
     rw [if_pos c17] at H
     have c17b0 : decide (0 ≤ t555) = true := decide_eq_true c17
     clear c17
     by_cases c18 : t555 < (l0.length : Int)
     ·
      rw [if_pos c18] at H
      have c18b0 : decide (t555 < (l0.length : Int)) = true := decide_eq_true c18
      clear c18
      replace H := Option.bind_eq_some_iff.mp H
      obtain ⟨t563, A190, H⟩ := H
      replace H : ((spec_l14Checked.f kj4 t563).bind fun bt566 => (some (bt566.1, bt566.2))) = some (r1, r2) := H
      have A19 := Aside0.mk A190
      clear A190
      replace H := Option.bind_eq_some_iff.mp H
      obtain ⟨⟨t566, t569⟩, A200, H⟩ := H
      replace H : (some (t566, t569)) = some (r1, r2) := H
      have A20 := Aside0.mk A200
      clear A200
      simp only [Option.some.injEq, Prod.mk.injEq] at H
      obtain ⟨rfl, rfl⟩ := H
      have p561 : 0 ≤ (t555 : Int) := of_decide_eq_true (by first | (with_reducible assumption) | assumption)
      have q561 : t555 < (l0.length : Int) := of_decide_eq_true (by first | (with_reducible assumption) | assumption)
      obtain ⟨ad561, e561, hx561_0, hx561_1, hx561_2, hx561_3, hx561_4, hx561_5⟩ := at_T37 HR0.out t555 p561 q561
      cases e561
      replace hx561_0 := (HB.out.cell (World.block_lt_of_cell? w _ hx561_0)).trans hx561_0
      replace hx561_1 := (HB.out.cell (World.block_lt_of_cell? w _ hx561_1)).trans hx561_1
      replace hx561_2 := (HB.out.cell (World.block_lt_of_cell? w _ hx561_2)).trans hx561_2
      replace hx561_3 := (HB.out.cell (World.block_lt_of_cell? w _ hx561_3)).trans hx561_3
      replace hx561_4 := (HB.out.cell (World.block_lt_of_cell? w _ hx561_4)).trans hx561_4
      replace hx561_5 := (HB.out.cell (World.block_lt_of_cell? w _ hx561_5)).trans hx561_5
      replace p561 := eq_true p561
      replace q561 := eq_true q561
      go_wp2_with (first | ((with_reducible refine gate_dst (N := 9) rfl ?_); refine box_event ?hg (N := 9) ?hd (cs := #[.int .i64 0, .int .i64 0, .int .i64 0, .int .i64 0, .int .i64 0, .int .i64 0]) (t := 37) ?hr ?_; (case hd => rfl); (case hg => rfl); (case hr => first | (go_simp; done) | (go_simp; rfl)); intro gb562 hg w21 hbox hb; have n0_ := Aside0.mk (below_step (by repeat (first | (with_reducible first | exact HB.out | apply below_alloc | apply pw_below_drewN | apply below_drew1) | exact HB.out)) hb); have n1_ := Aside0.mk (hbox); have n2_ := Aside0.mk ((by rw [hg]; exact (below_size (by repeat (first | (with_reducible first | exact HB.out | apply below_alloc | apply pw_below_drewN | apply below_drew1) | exact HB.out))) : w.heap.size ≤ gb562)); have n3_ := Aside0.mk ((by rw [hg]; exact (below_size (by repeat (first | (with_reducible first | exact HB.out | apply below_alloc | apply pw_below_drewN | apply below_drew1) | exact HB.out))) : w.heap.size ≤ gb562)); clear HB; have HB := n0_; have BK562 := n1_; have GW562 := n2_; have GE562 := n3_; clear n0_ n1_ n2_ n3_; clear hb hbox hg; have hcz22_0 : w21.cell? ⟨gb562, 0, none⟩ = some (.int .i64 0) := (blk_cell BK562.out 0).trans rfl; have hcz22_1 : w21.cell? ⟨gb562, 1, none⟩ = some (.int .i64 0) := (blk_cell BK562.out 1).trans rfl; have hcz22_2 : w21.cell? ⟨gb562, 2, none⟩ = some (.int .i64 0) := (blk_cell BK562.out 2).trans rfl; have hcz22_3 : w21.cell? ⟨gb562, 3, none⟩ = some (.int .i64 0) := (blk_cell BK562.out 3).trans rfl; have hcz22_4 : w21.cell? ⟨gb562, 4, none⟩ = some (.int .i64 0) := (blk_cell BK562.out 4).trans rfl; have hcz22_5 : w21.cell? ⟨gb562, 5, none⟩ = some (.int .i64 0) := (blk_cell BK562.out 5).trans rfl; have hl22_0 : ∀ v0 v1 v2 v3 v4 v5 u0 : Value, (((((((w21.setCell ⟨gb562, 0, none⟩ v0).setCell ⟨gb562, 1, none⟩ v1).setCell ⟨gb562, 2, none⟩ v2).setCell ⟨gb562, 3, none⟩ v3).setCell ⟨gb562, 4, none⟩ v4).setCell ⟨gb562, 5, none⟩ v5).setCell ⟨gb562, 5, none⟩ u0).cell? ⟨gb562, 5, none⟩ = some u0 := fun v0 v1 v2 v3 v4 v5 u0 => (blk_cell (blk_set (blk_set (blk_set (blk_set (blk_set (blk_set (blk_set BK562.out 0 v0) 1 v1) 2 v2) 3 v3) 4 v4) 5 v5) 5 u0) 5).trans (by simp); have hfz22_0 := blk_frozen BK562.out 0; have hfz22_1 := blk_frozen BK562.out 1; have hfz22_2 := blk_frozen BK562.out 2; have hfz22_3 := blk_frozen BK562.out 3; have hfz22_4 := blk_frozen BK562.out 4; have hfz22_5 := blk_frozen BK562.out 5) | ((with_reducible refine gate_callee (f := 47) rfl ?_); refine goesL_ (some 39) rfl rfl Try.func47 (by kernel_rfl) rfl #[.slice (some ad561) l0.length c0, .int .i64 t555, .agg #[.int .i64 ((rd_T37 l0 t555).f0), .int .i64 ((rd_T37 l0 t555).f1), .int .i64 ((rd_T37 l0 t555).f2), .int .i64 ((rd_T37 l0 t555).f3), .int .i64 ((rd_T37 l0 t555).f4), .int .i64 a2]] rfl (by (try simp only [List.map_toArray, List.map_cons, List.map_nil]); first | done | rfl | (simp only [List.length_drop, List.length_take]; rfl)) ?_; (with_reducible refine (spec_l14With.calls _ _ l0 t555 ((rd_T37 l0 t555).f0) ((rd_T37 l0 t555).f1) ((rd_T37 l0 t555).f2) ((rd_T37 l0 t555).f3) ((rd_T37 l0 t555).f4) a2 t563 _ ?side1 ?side2 A19.out).mono ?_); (case side1 => exact Kd.C_below HR0.out (by repeat (first | (with_reducible first | exact HB.out | apply below_alloc | apply pw_below_drewN | apply below_drew1 | refine below_set ?_ GE562.out) | exact HB.out))); (case side2 => exact HC0.out); rintro e w23 ⟨v564, rfl, ho0, hb⟩; refine ⟨_, rfl, ?_⟩; have n0_ := Aside0.mk (Kd.R_lower (Kd.R_newB ho0 (g := gb562) (o := .cells #[.int .i64 ((rd_T37 l0 t555).f0), .int .i64 ((rd_T37 l0 t555).f1), .int .i64 ((rd_T37 l0 t555).f2), .int .i64 ((rd_T37 l0 t555).f3), .int .i64 ((rd_T37 l0 t555).f4), .int .i64 a2] 37 (0, 0)) (by (with_reducible repeat (first | refine blk_drewN ?_ _ | refine blk_drew ?_ | refine blk_alloc ?_ _)); refine blk_put (cs := #[.int .i64 ((rd_T37 l0 t555).f0), .int .i64 ((rd_T37 l0 t555).f1), .int .i64 ((rd_T37 l0 t555).f2), .int .i64 ((rd_T37 l0 t555).f3), .int .i64 ((rd_T37 l0 t555).f4), .int .i64 ((rd_T37 l0 t555).f5)]) ?_ 5 _ rfl; (with_reducible repeat (first | refine blk_drewN ?_ _ | refine blk_drew ?_ | refine blk_alloc ?_ _)); refine blk_put (cs := #[.int .i64 ((rd_T37 l0 t555).f0), .int .i64 ((rd_T37 l0 t555).f1), .int .i64 ((rd_T37 l0 t555).f2), .int .i64 ((rd_T37 l0 t555).f3), .int .i64 ((rd_T37 l0 t555).f4), .int .i64 0]) ?_ 5 _ rfl; (with_reducible repeat (first | refine blk_drewN ?_ _ | refine blk_drew ?_ | refine blk_alloc ?_ _)); refine blk_put (cs := #[.int .i64 ((rd_T37 l0 t555).f0), .int .i64 ((rd_T37 l0 t555).f1), .int .i64 ((rd_T37 l0 t555).f2), .int .i64 ((rd_T37 l0 t555).f3), .int .i64 0, .int .i64 0]) ?_ 4 _ rfl; (with_reducible repeat (first | refine blk_drewN ?_ _ | refine blk_drew ?_ | refine blk_alloc ?_ _)); refine blk_put (cs := #[.int .i64 ((rd_T37 l0 t555).f0), .int .i64 ((rd_T37 l0 t555).f1), .int .i64 ((rd_T37 l0 t555).f2), .int .i64 0, .int .i64 0, .int .i64 0]) ?_ 3 _ rfl; (with_reducible repeat (first | refine blk_drewN ?_ _ | refine blk_drew ?_ | refine blk_alloc ?_ _)); refine blk_put (cs := #[.int .i64 ((rd_T37 l0 t555).f0), .int .i64 ((rd_T37 l0 t555).f1), .int .i64 0, .int .i64 0, .int .i64 0, .int .i64 0]) ?_ 2 _ rfl; (with_reducible repeat (first | refine blk_drewN ?_ _ | refine blk_drew ?_ | refine blk_alloc ?_ _)); refine blk_put (cs := #[.int .i64 ((rd_T37 l0 t555).f0), .int .i64 0, .int .i64 0, .int .i64 0, .int .i64 0, .int .i64 0]) ?_ 1 _ rfl; (with_reducible repeat (first | refine blk_drewN ?_ _ | refine blk_drew ?_ | refine blk_alloc ?_ _)); refine blk_put (cs := #[.int .i64 0, .int .i64 0, .int .i64 0, .int .i64 0, .int .i64 0, .int .i64 0]) ?_ 0 _ rfl; (with_reducible repeat (first | refine blk_drewN ?_ _ | refine blk_drew ?_ | refine blk_alloc ?_ _)); exact BK562.out)) (below_size (by repeat (first | (with_reducible first | exact HB.out | apply below_alloc | apply pw_below_drewN | apply below_drew1 | refine below_set ?_ GE562.out) | exact HB.out)))); have n1_ := Aside0.mk (blk_below (g := gb562) (o := .cells #[.int .i64 ((rd_T37 l0 t555).f0), .int .i64 ((rd_T37 l0 t555).f1), .int .i64 ((rd_T37 l0 t555).f2), .int .i64 ((rd_T37 l0 t555).f3), .int .i64 ((rd_T37 l0 t555).f4), .int .i64 a2] 37 (0, 0)) (by (with_reducible repeat (first | refine blk_drewN ?_ _ | refine blk_drew ?_ | refine blk_alloc ?_ _)); refine blk_put (cs := #[.int .i64 ((rd_T37 l0 t555).f0), .int .i64 ((rd_T37 l0 t555).f1), .int .i64 ((rd_T37 l0 t555).f2), .int .i64 ((rd_T37 l0 t555).f3), .int .i64 ((rd_T37 l0 t555).f4), .int .i64 ((rd_T37 l0 t555).f5)]) ?_ 5 _ rfl; (with_reducible repeat (first | refine blk_drewN ?_ _ | refine blk_drew ?_ | refine blk_alloc ?_ _)); refine blk_put (cs := #[.int .i64 ((rd_T37 l0 t555).f0), .int .i64 ((rd_T37 l0 t555).f1), .int .i64 ((rd_T37 l0 t555).f2), .int .i64 ((rd_T37 l0 t555).f3), .int .i64 ((rd_T37 l0 t555).f4), .int .i64 0]) ?_ 5 _ rfl; (with_reducible repeat (first | refine blk_drewN ?_ _ | refine blk_drew ?_ | refine blk_alloc ?_ _)); refine blk_put (cs := #[.int .i64 ((rd_T37 l0 t555).f0), .int .i64 ((rd_T37 l0 t555).f1), .int .i64 ((rd_T37 l0 t555).f2), .int .i64 ((rd_T37 l0 t555).f3), .int .i64 0, .int .i64 0]) ?_ 4 _ rfl; (with_reducible repeat (first | refine blk_drewN ?_ _ | refine blk_drew ?_ | refine blk_alloc ?_ _)); refine blk_put (cs := #[.int .i64 ((rd_T37 l0 t555).f0), .int .i64 ((rd_T37 l0 t555).f1), .int .i64 ((rd_T37 l0 t555).f2), .int .i64 0, .int .i64 0, .int .i64 0]) ?_ 3 _ rfl; (with_reducible repeat (first | refine blk_drewN ?_ _ | refine blk_drew ?_ | refine blk_alloc ?_ _)); refine blk_put (cs := #[.int .i64 ((rd_T37 l0 t555).f0), .int .i64 ((rd_T37 l0 t555).f1), .int .i64 0, .int .i64 0, .int .i64 0, .int .i64 0]) ?_ 2 _ rfl; (with_reducible repeat (first | refine blk_drewN ?_ _ | refine blk_drew ?_ | refine blk_alloc ?_ _)); refine blk_put (cs := #[.int .i64 ((rd_T37 l0 t555).f0), .int .i64 0, .int .i64 0, .int .i64 0, .int .i64 0, .int .i64 0]) ?_ 1 _ rfl; (with_reducible repeat (first | refine blk_drewN ?_ _ | refine blk_drew ?_ | refine blk_alloc ?_ _)); refine blk_put (cs := #[.int .i64 0, .int .i64 0, .int .i64 0, .int .i64 0, .int .i64 0, .int .i64 0]) ?_ 0 _ rfl; (with_reducible repeat (first | refine blk_drewN ?_ _ | refine blk_drew ?_ | refine blk_alloc ?_ _)); exact BK562.out) hb); have n2_ := Aside0.mk (below_step (by repeat (first | (with_reducible first | exact HB.out | apply below_alloc | apply pw_below_drewN | apply below_drew1 | refine below_set ?_ GE562.out) | exact HB.out)) hb); clear BK562; clear HB; have HO565 := n0_; have BK562 := n1_; have HB := n2_; clear n0_ n1_ n2_; (try clear hb); (try clear hb2); (try clear hk); (try clear hi); (try clear ho0); obtain ⟨Ao24, co24, eo24⟩ := Kd.R_slice HO565.out; subst eo24) | ((with_reducible refine gate_callee (f := 50) rfl ?_); refine goesL_ (some 40) rfl rfl Try.func50 (by kernel_rfl) rfl #[.slice Ao24 t563.length co24] rfl (by (try simp only [List.map_toArray, List.map_cons, List.map_nil]); first | done | rfl | (simp only [List.length_drop, List.length_take]; rfl)) ?_; (with_reducible refine (spec_l14Checked.calls kj4 (fun k_ => some k_ = (.slice Ao24 t563.length co24 : Value).ownBlock) (.slice Ao24 t563.length co24) t563 t566 t569 w _ ?side1 ?side2 A20.out).mono ?_); (case side1 => repeat (first | (with_reducible first | exact HB.out | apply below_alloc | apply pw_below_drewN | apply below_drew1 | refine below_set ?_ GE562.out) | exact HB.out)); (case side2 => exact Kd.R_tight rfl HO565.out); rintro e w25 ⟨v567, rfl, ho0, hb, hkp⟩; refine ⟨_, rfl, ?_⟩; have n0_ := Aside0.mk (blk_kept (by (with_reducible repeat (first | refine blk_drewN ?_ _ | refine blk_drew ?_ | refine blk_alloc ?_ _)); exact BK562.out) hkp (fun hs_ => (fun e_ => (Kd.R_away HO565.out (fun _ hk => hk.2)) e_) hs_)); have n1_ := Aside0.mk (Kd.R_mono (ok' := fun k_ => k_ ≠ gb562) ho0 (fun k_ hk_ => Or.elim hk_ (fun hs_ => fun e_ => (Kd.R_away HO565.out (fun _ hk => hk.2)) (by rw [← e_]; exact hs_)) (fun hn_ => (Kd.freshB (g := gb562) (o := .cells #[.int .i64 ((rd_T37 l0 t555).f0), .int .i64 ((rd_T37 l0 t555).f1), .int .i64 ((rd_T37 l0 t555).f2), .int .i64 ((rd_T37 l0 t555).f3), .int .i64 ((rd_T37 l0 t555).f4), .int .i64 a2] 37 (0, 0)) (by (with_reducible repeat (first | refine blk_drewN ?_ _ | refine blk_drew ?_ | refine blk_alloc ?_ _)); exact BK562.out) k_ hn_)))); have n2_ := Aside0.mk (hb); clear BK562; clear HB; clear HO565; have BK562 := n0_; have HO568 := n1_; have HB := n2_; clear n0_ n1_ n2_; (try clear hb); (try clear hkp); (try clear ho0)))
      go_ret2
      exact ⟨_, by first | rfl | (simp [errW_none, errW_some] <;> rfl) | (simp [*, errW_none, errW_some] <;> rfl), by (with_reducible repeat (first | apply Kd.R_alloc | apply Kd.R_drewN | apply Kd.R_drew)); exact Kd.R_mono HO568.out (fun _ hk => trivial), by repeat (first | (with_reducible first | exact HB.out | apply below_alloc | apply pw_below_drewN | apply below_drew1 | refine below_set ?_ GE562.out) | exact HB.out)⟩
     ·
      rw [if_neg c18] at H
      exact absurd H (by simp)
    ·
     rw [if_neg c17] at H
     exact absurd H (by simp)

end Go.Proofs.Ytfemneoahkglmaa.Q
