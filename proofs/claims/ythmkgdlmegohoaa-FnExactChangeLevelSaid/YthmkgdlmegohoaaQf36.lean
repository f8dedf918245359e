-- Printed by a program of this session (wip/tools/seatprint.py) that runs over the kit's print.
import Derived.Test.YthmkgdlmegohoaaQ0
import Derived.Test.YthmkgdlmegohoaaQf55
import Derived.Test.YthmkgdlmegohoaaQf56
import Derived.Test.YthmkgdlmegohoaaQf60
namespace Go.Proofs.Ythmkgdlmegohoaa.Q
open Go.RowKit Go.Proofs.YthmkgdlmegohoaaW.PrintWords Go.Proofs.YthmkgdlmegohoaaW.PrintLast Go.Proofs.YthmkgdlmegohoaaW.PrintMore
attribute [local go_sem] max2_int min2_int max_two min_two max_three min_three max_four min_four   -- for this text's walks alone
set_option linter.unusedVariables false
set_option linter.unusedSimpArgs false

/-! ### spec_ChangeLevel: function 36 -/
def spec_ChangeLevel.j0 : Nat → List (S30) → Int → Int → Int → Int → Bool → Option ((List (S30)) × Int × Bool)
 | 0, _, _, _, _, _, _ => none
 | k + 1, x0, x1, x2, x3, x11, x42 => if x42 = true then (some ((([] : List (S30))), 0, false)) else (if 0 ≤ x11 then (if x11 < (x0.length : Int) then (if x3 ≤ ((rd_T30 x0 x11).f4) then ((spec_l14With.f x0 x11 ((rd_T30 x0 x11).f0) ((rd_T30 x0 x11).f1) x2 ((rd_T30 x0 x11).f3) ((rd_T30 x0 x11).f4) ((rd_T30 x0 x11).f5)).bind fun t720 => ((spec_l14List.f k t720).bind fun t723 => (if t723 = true then (some (t720, x1, true)) else (some ((([] : List (S30))), 0, false))))) else ((spec_l14With.f x0 x11 ((rd_T30 x0 x11).f0) ((rd_T30 x0 x11).f1) ((rd_T30 x0 x11).f2) ((rd_T30 x0 x11).f3) ((rd_T30 x0 x11).f4) x3).bind fun t728 => ((spec_l14Issue.f t728 ((rd_T30 x0 x11).f0) ((rd_T30 x0 x11).f1) x2 ((rd_T30 x0 x11).f3) x3 ((rd_T30 x0 x11).f5)).bind fun bt731 => ((spec_l14List.f k bt731.1).bind fun t735 => (if t735 = true then (some (bt731.1, bt731.2, true)) else (some ((([] : List (S30))), 0, false))))))) else (none)) else (none))
def spec_ChangeLevel.f (k : Nat) (l0 : List (S30)) (a1 : Int) (a2 : Int) (a3 : Int) : Option ((List (S30)) × Int × Bool) := (spec_l14Find.f k l0 a1).bind fun t711 => ((spec_l14List.f k l0).bind fun t712 => (if t712 = true then (if t711 < 0 then (spec_ChangeLevel.j0 k l0 a1 a2 a3 t711 true) else (if 0 ≤ t711 then (if t711 < (l0.length : Int) then (if ((rd_T30 l0 t711).f2) = a2 then (spec_ChangeLevel.j0 k l0 a1 a2 a3 t711 true) else (spec_ChangeLevel.j0 k l0 a1 a2 a3 t711 (decide (a3 ≥ ((rd_T30 l0 t711).f5))))) else (none)) else (none))) else (spec_ChangeLevel.j0 k l0 a1 a2 a3 t711 true)))
theorem spec_ChangeLevel.mono_l : ∀ k, (∀ y0 y1 y2 y3 y4 y5, LeO (spec_ChangeLevel.j0 k y0 y1 y2 y3 y4 y5) (spec_ChangeLevel.j0 (k + 1) y0 y1 y2 y3 y4 y5))
 | 0 => fun _ _ _ _ _ _ r h => by simp [spec_ChangeLevel.j0] at h
 | k + 1 => by
  have ih0 := spec_ChangeLevel.mono_l k
  ·
   intro y0 y1 y2 y3 y4 y5
   unfold spec_ChangeLevel.j0
   repeat' first
   | (with_reducible exact ih0 _ _ _ _ _ _)
   | (with_reducible exact spec_l14Find.mono _ _ _)
   | (with_reducible exact spec_l14List.mono _ _)
   | (with_reducible exact LeO.refl _)
   | (with_reducible exact LeO.none _)
   | (with_reducible refine LeO.ite ?_ ?_)
   | (with_reducible refine LeO.bind ?_ (fun _ => ?_))
   | exact ih0 _ _ _ _ _ _
   | exact spec_l14Find.mono _ _ _
   | exact spec_l14List.mono _ _
   | exact LeO.none _
   | refine LeO.ite ?_ ?_
   | refine LeO.bind ?_ (fun _ => ?_)
theorem spec_ChangeLevel.mono : ∀ a0 a1 a2 a3 k, LeO (spec_ChangeLevel.f k a0 a1 a2 a3) (spec_ChangeLevel.f (k + 1) a0 a1 a2 a3) := by
 intro a0 a1 a2 a3 k
 have ih0 := spec_ChangeLevel.mono_l k
 unfold spec_ChangeLevel.f
 repeat' first
   | (with_reducible exact ih0 _ _ _ _ _ _)
   | (with_reducible exact spec_l14Find.mono _ _ _)
   | (with_reducible exact spec_l14List.mono _ _)
   | (with_reducible exact LeO.refl _)
   | (with_reducible exact LeO.none _)
   | (with_reducible refine LeO.ite ?_ ?_)
   | (with_reducible refine LeO.bind ?_ (fun _ => ?_))
   | exact ih0 _ _ _ _ _ _
   | exact spec_l14Find.mono _ _ _
   | exact spec_l14List.mono _ _
   | exact LeO.none _
   | refine LeO.ite ?_ ?_
   | refine LeO.bind ?_ (fun _ => ?_)
def spec_ChangeLevel.T13 : Bool × List (List Nat × List Nat) := (true, [([], []), ([], []), ([], []), ([0, 1, 2], [0, 1, 2]), ([], []), ([3, 4, 3], [3, 4]), ([5], [5]), ([6], [6]), ([6], [6]), ([7, 5, 0, 1, 2, 3, 4, 5, 6, 7], [7]), ([8, 9, 0, 1, 2, 3, 4, 5, 6, 7, 8, 9], [8])])
def spec_ChangeLevel.B13 : List Nat := [0, 0, 0, 7, 0, 31, 63, 127, 127, 255, 1023]
theorem spec_ChangeLevel.tab13 : rtab .any (opsOf Try.f36 13) = spec_ChangeLevel.T13 := by kernel_rfl
theorem spec_ChangeLevel.bits13 : waitsOk spec_ChangeLevel.T13.2 spec_ChangeLevel.B13 = true := by kernel_rfl
set_option maxHeartbeats 8000000 in
set_option maxRecDepth 100000 in
theorem spec_ChangeLevel.calls (k : Nat) (A0 : Option Addr) (c0 : Nat) (l0 : List (S30)) (a1 : Int) (a2 : Int) (a3 : Int) (r1 : List (S30)) (r2 : Int) (r3 : Bool) (w : World) (hr0 : Kd.C k30 w A0 l0.length l0) (hc0 : l0.length ≤ c0) (h : spec_ChangeLevel.f k l0 a1 a2 a3 = some (r1, r2, r3)) :
  Calls Try.prog 36 #[.slice A0 l0.length c0, .int .i64 a1, .int .i64 a2, .int .i64 a3] w fun e w' => ∃ v0_ : Value, e = .returned (.tuple #[v0_, .int .i64 r2, .bool r3]) ∧ Kd.R k30 30 w' w.heap.size (fun _ => True) v0_ r1 ∧ Below w.heap.size w w' := by
 have hu30 := Try.underlying30
 have HR0 := Aside0.mk hr0
 have HC0 := Aside0.mk hc0
 clear hr0 hc0
 have HB := Aside0.mk (Below.refl w.heap.size w)
 have H : ((spec_l14Find.f k l0 a1).bind fun t711 => ((spec_l14List.f k l0).bind fun t712 => (if t712 = true then (if t711 < 0 then (spec_ChangeLevel.j0 k l0 a1 a2 a3 t711 true) else (if 0 ≤ t711 then (if t711 < (l0.length : Int) then (if ((rd_T30 l0 t711).f2) = a2 then (spec_ChangeLevel.j0 k l0 a1 a2 a3 t711 true) else (spec_ChangeLevel.j0 k l0 a1 a2 a3 t711 (decide (a3 ≥ ((rd_T30 l0 t711).f5))))) else (none)) else (none))) else (spec_ChangeLevel.j0 k l0 a1 a2 a3 t711 true)))) = some (r1, r2, r3) := h
 clear h
 replace H := Option.bind_eq_some_iff.mp H
 obtain ⟨t711, A50, H⟩ := H
 replace H : ((spec_l14List.f k l0).bind fun t712 => (if t712 = true then (if t711 < 0 then (spec_ChangeLevel.j0 k l0 a1 a2 a3 t711 true) else (if 0 ≤ t711 then (if t711 < (l0.length : Int) then (if ((rd_T30 l0 t711).f2) = a2 then (spec_ChangeLevel.j0 k l0 a1 a2 a3 t711 true) else (spec_ChangeLevel.j0 k l0 a1 a2 a3 t711 (decide (a3 ≥ ((rd_T30 l0 t711).f5))))) else (none)) else (none))) else (spec_ChangeLevel.j0 k l0 a1 a2 a3 t711 true))) = some (r1, r2, r3) := H
 have A5 := Aside0.mk A50
 clear A50
 have HC6 := Aside0.mk H
 clear H
 go_enter Try.func36, Try.ntmps36
 go_upto_region 2 with (first | ((with_reducible refine gate_callee (f := 60) rfl ?_); refine goesL_ (some 17) rfl rfl Try.func60 (by kernel_rfl) rfl #[.slice A0 l0.length c0, .int .i64 a1] rfl (by (try simp only [List.map_toArray, List.map_cons, List.map_nil]); first | done | rfl | (simp only [List.length_drop, List.length_take]; rfl)) ?_; (with_reducible refine (spec_l14Find.calls k _ _ l0 a1 t711 _ ?side1 ?side2 A5.out).mono ?_); (case side1 => repeat (first | exact HR0.out | (with_reducible refine Kd.C_alloc ?_ _) | (with_reducible refine Kd.C_drewN ?_ _) | (with_reducible refine Kd.C_drew ?_))); (case side2 => exact HC0.out); rintro e w' ⟨rfl, ⟨nd, rfl⟩⟩; refine ⟨_, rfl, ?_⟩))
 (try simp only [Act.put, List.setIfInBounds_toArray, List.set_cons_zero, List.set_cons_succ])
 go_cut [42] (fun v42 wc => ∃ (kq : Nat) (x42_5 : Bool), v42 = .bool x42_5 ∧ Aside0 (spec_ChangeLevel.j0 kq l0 a1 a2 a3 t711 x42_5 = some (r1, r2, r3)) ∧ Aside0 (kq ≤ k) ∧ Aside0 (Below w.heap.size w wc))
 case first =>
  have H := HC6.out
  clear HC6
  replace H := Option.bind_eq_some_iff.mp H
  obtain ⟨t712, A70, H⟩ := H
  replace H : (if t712 = true then (if t711 < 0 then (spec_ChangeLevel.j0 k l0 a1 a2 a3 t711 true) else (if 0 ≤ t711 then (if t711 < (l0.length : Int) then (if ((rd_T30 l0 t711).f2) = a2 then (spec_ChangeLevel.j0 k l0 a1 a2 a3 t711 true) else (spec_ChangeLevel.j0 k l0 a1 a2 a3 t711 (decide (a3 ≥ ((rd_T30 l0 t711).f5))))) else (none)) else (none))) else (spec_ChangeLevel.j0 k l0 a1 a2 a3 t711 true)) = some (r1, r2, r3) := H
  have A7 := Aside0.mk A70
  clear A70
  by_cases c8 : t712 = true
  ·
   subst c8
   have H1 : (if t711 < 0 then (spec_ChangeLevel.j0 k l0 a1 a2 a3 t711 true) else (if 0 ≤ t711 then (if t711 < (l0.length : Int) then (if ((rd_T30 l0 t711).f2) = a2 then (spec_ChangeLevel.j0 k l0 a1 a2 a3 t711 true) else (spec_ChangeLevel.j0 k l0 a1 a2 a3 t711 (decide (a3 ≥ ((rd_T30 l0 t711).f5))))) else (none)) else (none))) = some (r1, r2, r3) := by rw [if_pos rfl] at H; exact H
   clear H
   have H := H1
   clear H1
   by_cases c9 : t711 < 0
   ·
    rw [if_pos c9] at H
    have c9b0 : decide (t711 < 0) = true := decide_eq_true c9
    clear c9
    (first | rw [c9b0] | (simp only [i64_w, i32_w]; rw [c9b0]) | skip)
    have H' := Aside0.mk H
    clear H
    go_wp2_with (first | ((with_reducible refine gate_callee (f := 55) rfl ?_); refine goesL_ (some 19) rfl rfl Try.func55 (by kernel_rfl) rfl #[.slice A0 l0.length c0] rfl (by (try simp only [List.map_toArray, List.map_cons, List.map_nil]); first | done | rfl | (simp only [List.length_drop, List.length_take]; rfl)) ?_; (with_reducible refine (spec_l14List.calls k _ _ l0 true _ ?side1 ?side2 A7.out).mono ?_); (case side1 => repeat (first | exact (Kd.C_below HR0.out HB.out) | (with_reducible refine Kd.C_alloc ?_ _) | (with_reducible refine Kd.C_drewN ?_ _) | (with_reducible refine Kd.C_drew ?_))); (case side2 => exact HC0.out); rintro e w10 ⟨rfl, hb⟩; refine ⟨_, rfl, ?_⟩; have n0_ := Aside0.mk (below_step (by repeat (first | (with_reducible first | exact HB.out | apply below_alloc | apply pw_below_drewN | apply below_drew1) | exact HB.out)) hb); clear HB; have HB := n0_; clear n0_; (try clear hb); (try clear hb2); (try clear hk); (try clear hi)))
    go_meet
    case rel => exact ⟨_, (true), (by first | rfl | (simp; done) | (simp [*]; done)), H', ⟨by first | omega | exact Nat.le_refl _⟩, ⟨by repeat (first | (with_reducible first | exact HB.out | apply below_alloc | apply pw_below_drewN | apply below_drew1) | exact HB.out)⟩⟩
   ·
    rw [if_neg c9] at H
    have c9b0 : decide (t711 < 0) = false := decide_eq_false c9
    clear c9
    (first | rw [c9b0] | (simp only [i64_w, i32_w]; rw [c9b0]) | skip)
    by_cases c11 : 0 ≤ t711
    ·
     rw [if_pos c11] at H
     have c11b0 : decide (0 ≤ t711) = true := decide_eq_true c11
     clear c11
     by_cases c12 : t711 < (l0.length : Int)
     ·
      rw [if_pos c12] at H
      have c12b0 : decide (t711 < (l0.length : Int)) = true := decide_eq_true c12
      clear c12
      by_cases c13 : ((rd_T30 l0 t711).f2) = a2
      ·
       rw [if_pos c13] at H
       have c13b0 : (((rd_T30 l0 t711).f2) == a2) = true := beq_iff_eq.mpr c13
       have c13b1 : (((rd_T30 l0 t711).f2) != a2) = false := bne_eq_false_iff_eq.mpr c13
       clear c13
       have H' := Aside0.mk H
       clear H
       go_wp2_with (first | ((with_reducible refine gate_callee (f := 55) rfl ?_); refine goesL_ (some 19) rfl rfl Try.func55 (by kernel_rfl) rfl #[.slice A0 l0.length c0] rfl (by (try simp only [List.map_toArray, List.map_cons, List.map_nil]); first | done | rfl | (simp only [List.length_drop, List.length_take]; rfl)) ?_; (with_reducible refine (spec_l14List.calls k _ _ l0 true _ ?side1 ?side2 A7.out).mono ?_); (case side1 => repeat (first | exact (Kd.C_below HR0.out HB.out) | (with_reducible refine Kd.C_alloc ?_ _) | (with_reducible refine Kd.C_drewN ?_ _) | (with_reducible refine Kd.C_drew ?_))); (case side2 => exact HC0.out); rintro e w14 ⟨rfl, hb⟩; refine ⟨_, rfl, ?_⟩; have n0_ := Aside0.mk (below_step (by repeat (first | (with_reducible first | exact HB.out | apply below_alloc | apply pw_below_drewN | apply below_drew1) | exact HB.out)) hb); clear HB; have HB := n0_; clear n0_; (try clear hb); (try clear hb2); (try clear hk); (try clear hi); have p713 : 0 ≤ (t711 : Int) := of_decide_eq_true (by first | (with_reducible assumption) | assumption); have q713 : t711 < (l0.length : Int) := of_decide_eq_true (by first | (with_reducible assumption) | assumption); obtain ⟨ad713, e713, hx713_0, hx713_1, hx713_2, hx713_3, hx713_4, hx713_5⟩ := at_T30 HR0.out t711 p713 q713; cases e713; replace hx713_0 := (HB.out.cell (World.block_lt_of_cell? w _ hx713_0)).trans hx713_0; replace hx713_1 := (HB.out.cell (World.block_lt_of_cell? w _ hx713_1)).trans hx713_1; replace hx713_2 := (HB.out.cell (World.block_lt_of_cell? w _ hx713_2)).trans hx713_2; replace hx713_3 := (HB.out.cell (World.block_lt_of_cell? w _ hx713_3)).trans hx713_3; replace hx713_4 := (HB.out.cell (World.block_lt_of_cell? w _ hx713_4)).trans hx713_4; replace hx713_5 := (HB.out.cell (World.block_lt_of_cell? w _ hx713_5)).trans hx713_5; replace p713 := eq_true p713; replace q713 := eq_true q713))
       go_meet
       case rel => exact ⟨_, (true), (by first | rfl | (simp; done) | (simp [*]; done)), H', ⟨by first | omega | exact Nat.le_refl _⟩, ⟨by repeat (first | (with_reducible first | exact HB.out | apply below_alloc | apply pw_below_drewN | apply below_drew1) | exact HB.out)⟩⟩
      ·
       rw [if_neg c13] at H
       have c13b0 : (((rd_T30 l0 t711).f2) == a2) = false := beq_eq_false_iff_ne.mpr c13
       have c13b1 : (((rd_T30 l0 t711).f2) != a2) = true := bne_iff_ne.mpr c13
       have H' := Aside0.mk H
       clear H
       go_wp2_with (first | ((with_reducible refine gate_callee (f := 55) rfl ?_); refine goesL_ (some 19) rfl rfl Try.func55 (by kernel_rfl) rfl #[.slice A0 l0.length c0] rfl (by (try simp only [List.map_toArray, List.map_cons, List.map_nil]); first | done | rfl | (simp only [List.length_drop, List.length_take]; rfl)) ?_; (with_reducible refine (spec_l14List.calls k _ _ l0 true _ ?side1 ?side2 A7.out).mono ?_); (case side1 => repeat (first | exact (Kd.C_below HR0.out HB.out) | (with_reducible refine Kd.C_alloc ?_ _) | (with_reducible refine Kd.C_drewN ?_ _) | (with_reducible refine Kd.C_drew ?_))); (case side2 => exact HC0.out); rintro e w15 ⟨rfl, hb⟩; refine ⟨_, rfl, ?_⟩; have n0_ := Aside0.mk (below_step (by repeat (first | (with_reducible first | exact HB.out | apply below_alloc | apply pw_below_drewN | apply below_drew1) | exact HB.out)) hb); clear HB; have HB := n0_; clear n0_; (try clear hb); (try clear hb2); (try clear hk); (try clear hi); have p713 : 0 ≤ (t711 : Int) := of_decide_eq_true (by first | (with_reducible assumption) | assumption); have q713 : t711 < (l0.length : Int) := of_decide_eq_true (by first | (with_reducible assumption) | assumption); obtain ⟨ad713, e713, hx713_0, hx713_1, hx713_2, hx713_3, hx713_4, hx713_5⟩ := at_T30 HR0.out t711 p713 q713; cases e713; replace hx713_0 := (HB.out.cell (World.block_lt_of_cell? w _ hx713_0)).trans hx713_0; replace hx713_1 := (HB.out.cell (World.block_lt_of_cell? w _ hx713_1)).trans hx713_1; replace hx713_2 := (HB.out.cell (World.block_lt_of_cell? w _ hx713_2)).trans hx713_2; replace hx713_3 := (HB.out.cell (World.block_lt_of_cell? w _ hx713_3)).trans hx713_3; replace hx713_4 := (HB.out.cell (World.block_lt_of_cell? w _ hx713_4)).trans hx713_4; replace hx713_5 := (HB.out.cell (World.block_lt_of_cell? w _ hx713_5)).trans hx713_5; replace p713 := eq_true p713; replace q713 := eq_true q713; have p714 : 0 ≤ (t711 : Int) := of_decide_eq_true (by first | (with_reducible assumption) | assumption); have q714 : t711 < (l0.length : Int) := of_decide_eq_true (by first | (with_reducible assumption) | assumption); obtain ⟨ad714, e714, hx714_0, hx714_1, hx714_2, hx714_3, hx714_4, hx714_5⟩ := at_T30 HR0.out t711 p714 q714; obtain rfl : ad713 = ad714 := (by injection e714); replace hx714_0 := (HB.out.cell (World.block_lt_of_cell? w _ hx714_0)).trans hx714_0; replace hx714_1 := (HB.out.cell (World.block_lt_of_cell? w _ hx714_1)).trans hx714_1; replace hx714_2 := (HB.out.cell (World.block_lt_of_cell? w _ hx714_2)).trans hx714_2; replace hx714_3 := (HB.out.cell (World.block_lt_of_cell? w _ hx714_3)).trans hx714_3; replace hx714_4 := (HB.out.cell (World.block_lt_of_cell? w _ hx714_4)).trans hx714_4; replace hx714_5 := (HB.out.cell (World.block_lt_of_cell? w _ hx714_5)).trans hx714_5; replace p714 := eq_true p714; replace q714 := eq_true q714))
       go_meet
       case rel => exact ⟨_, (decide (a3 ≥ ((rd_T30 l0 t711).f5))), (by first | rfl | (simp; done) | (simp [*]; done)), H', ⟨by first | omega | exact Nat.le_refl _⟩, ⟨by repeat (first | (with_reducible first | exact HB.out | apply below_alloc | apply pw_below_drewN | apply below_drew1) | exact HB.out)⟩⟩
     ·
      rw [if_neg c12] at H
      exact absurd H (by simp)
    ·
     rw [if_neg c11] at H
     exact absurd H (by simp)
  ·
   replace c8 := Bool.eq_false_iff.mpr c8
   subst c8
   have H1 : (spec_ChangeLevel.j0 k l0 a1 a2 a3 t711 true) = some (r1, r2, r3) := by rw [if_neg (show ¬ (false = true) by decide)] at H; exact H
   clear H
   have H := H1
   clear H1
   have H' := Aside0.mk H
   clear H
   go_wp2_with (first | ((with_reducible refine gate_callee (f := 55) rfl ?_); refine goesL_ (some 19) rfl rfl Try.func55 (by kernel_rfl) rfl #[.slice A0 l0.length c0] rfl (by (try simp only [List.map_toArray, List.map_cons, List.map_nil]); first | done | rfl | (simp only [List.length_drop, List.length_take]; rfl)) ?_; (with_reducible refine (spec_l14List.calls k _ _ l0 false _ ?side1 ?side2 A7.out).mono ?_); (case side1 => repeat (first | exact (Kd.C_below HR0.out HB.out) | (with_reducible refine Kd.C_alloc ?_ _) | (with_reducible refine Kd.C_drewN ?_ _) | (with_reducible refine Kd.C_drew ?_))); (case side2 => exact HC0.out); rintro e w16 ⟨rfl, hb⟩; refine ⟨_, rfl, ?_⟩; have n0_ := Aside0.mk (below_step (by repeat (first | (with_reducible first | exact HB.out | apply below_alloc | apply pw_below_drewN | apply below_drew1) | exact HB.out)) hb); clear HB; have HB := n0_; clear n0_; (try clear hb); (try clear hb2); (try clear hk); (try clear hi)))
   go_meet
   case rel => exact ⟨_, (true), (by first | rfl | (simp; done) | (simp [*]; done)), H', ⟨by first | omega | exact Nat.le_refl _⟩, ⟨by repeat (first | (with_reducible first | exact HB.out | apply below_alloc | apply pw_below_drewN | apply below_drew1) | exact HB.out)⟩⟩
 case rest =>
  clear HC6
  try clear c1
  try clear p2
  try clear c3
  try clear c5
  try clear c6
  try clear p7
  try clear q7
  try clear hx7
  try clear c8
  try clear c9
  try clear c9b0
  try clear c11
  try clear c11b0
  try clear c12
  try clear c12b0
  try clear c13
  try clear c13b0
  try clear c13b1
  try clear hx713_0
  try clear hx713_1
  try clear hx713_2
  try clear hx713_3
  try clear hx713_4
  try clear hx713_5
  try clear hx714_0
  try clear hx714_1
  try clear hx714_2
  try clear hx714_3
  try clear hx714_4
  try clear hx714_5
  try clear p713
  try clear p714
  try clear q713
  try clear q714
  obtain ⟨kq, x42_5, rfl, HA, HJ5, HB⟩ := hcut
  cases kq with
  | zero => exact absurd HA.out (by simp [spec_ChangeLevel.j0])
  | succ kj5 =>
   have H := HA.out
   clear HA
   simp only [spec_ChangeLevel.j0] at H
   by_cases c17 : x42_5 = true
   ·
    subst c17
    have H1 : (some ((([] : List (S30))), 0, false)) = some (r1, r2, r3) := by rw [if_pos rfl] at H; exact H
    clear H
    have H := H1
    clear H1
    obtain ⟨y715, hy715⟩ : ∃ y_ : List (S30), y_ = (([] : List (S30))) := ⟨_, rfl⟩
    replace H : (some (y715, 0, false)) = some (r1, r2, r3) := by first | (rw [hy715]; with_reducible exact H) | (have H2_ := (Option.bind_some _ _).symm.trans H; rw [hy715]; with_reducible exact H2_) | (have H2_ := (Option.bind_some _ _).symm.trans H; with_reducible exact H2_) | with_reducible exact H | (rw [hy715]; exact H) | exact H
    have Ny715 := Aside0.mk hy715
    clear hy715
    simp only [Option.some.injEq, Prod.mk.injEq] at H
    obtain ⟨rfl, rfl, rfl⟩ := H
    go_wp2_with (first | ((with_reducible refine gate_dst (N := 43) rfl ?_); refine Kd.R_lit k30 _ 30 ?hg (N := 43) ?hd (xs := ([] : List (S30))) (inner := []) (ok := fun _ => True) (okp := fun _ => True) ?hr ?hp (fun _ hk => hk) trivial (Below.refl _ _) (Nat.le_refl _) (by simp) ?_; (case hd => rfl); (case hg => rfl); (case hr => first | (go_simp; done) | (go_simp; rfl)); (case hp => exact (Reps.none _ _)); intro v716 w18 ho19 hb hg_ hnew_; clear hg_ hnew_; (first | rw [← Ny715.out] at ho19 | (simp only [Int.reduceToNat] at ho19; rw [← Ny715.out] at ho19)); have n0_ := Aside0.mk (Kd.R_lower ho19 (below_size (by repeat (first | (with_reducible first | exact HB.out | apply below_alloc | apply pw_below_drewN | apply below_drew1) | exact HB.out)))); have n1_ := Aside0.mk (below_step (by repeat (first | (with_reducible first | exact HB.out | apply below_alloc | apply pw_below_drewN | apply below_drew1) | exact HB.out)) hb); clear HB; have HO717 := n0_; have HB := n1_; clear n0_ n1_; clear hb ho19))
    go_ret3
    exact ⟨_, by first | rfl | (simp [errW_none, errW_some] <;> rfl) | (simp [*, errW_none, errW_some] <;> rfl), by (with_reducible repeat (first | apply Kd.R_alloc | apply Kd.R_drewN | apply Kd.R_drew)); exact HO717.out, by repeat (first | (with_reducible first | exact HB.out | apply below_alloc | apply pw_below_drewN | apply below_drew1) | exact HB.out)⟩
   ·
    replace c17 := Bool.eq_false_iff.mpr c17
    subst c17
    have H1 : (if 0 ≤ t711 then (if t711 < (l0.length : Int) then (if a3 ≤ ((rd_T30 l0 t711).f4) then ((spec_l14With.f l0 t711 ((rd_T30 l0 t711).f0) ((rd_T30 l0 t711).f1) a2 ((rd_T30 l0 t711).f3) ((rd_T30 l0 t711).f4) ((rd_T30 l0 t711).f5)).bind fun t720 => ((spec_l14List.f kj5 t720).bind fun t723 => (if t723 = true then (some (t720, a1, true)) else (some ((([] : List (S30))), 0, false))))) else ((spec_l14With.f l0 t711 ((rd_T30 l0 t711).f0) ((rd_T30 l0 t711).f1) ((rd_T30 l0 t711).f2) ((rd_T30 l0 t711).f3) ((rd_T30 l0 t711).f4) a3).bind fun t728 => ((spec_l14Issue.f t728 ((rd_T30 l0 t711).f0) ((rd_T30 l0 t711).f1) a2 ((rd_T30 l0 t711).f3) a3 ((rd_T30 l0 t711).f5)).bind fun bt731 => ((spec_l14List.f kj5 bt731.1).bind fun t735 => (if t735 = true then (some (bt731.1, bt731.2, true)) else (some ((([] : List (S30))), 0, false))))))) else (none)) else (none)) = some (r1, r2, r3) := by rw [if_neg (show ¬ (false = true) by decide)] at H; exact H
    clear H
    have H := H1
    clear H1
    by_cases c20 : 0 ≤ t711
    ·
     rw [if_pos c20] at H
     have c20b0 : decide (0 ≤ t711) = true := decide_eq_true c20
     clear c20
     by_cases c21 : t711 < (l0.length : Int)
     ·
      rw [if_pos c21] at H
      have c21b0 : decide (t711 < (l0.length : Int)) = true := decide_eq_true c21
      clear c21
      by_cases c22 : a3 ≤ ((rd_T30 l0 t711).f4)
      ·
       rw [if_pos c22] at H
       have c22b0 : decide (a3 ≤ ((rd_T30 l0 t711).f4)) = true := decide_eq_true c22
       clear c22
       replace H := Option.bind_eq_some_iff.mp H
       obtain ⟨t720, A230, H⟩ := H
       replace H : ((spec_l14List.f kj5 t720).bind fun t723 => (if t723 = true then (some (t720, a1, true)) else (some ((([] : List (S30))), 0, false)))) = some (r1, r2, r3) := H
       have A23 := Aside0.mk A230
       clear A230
       replace H := Option.bind_eq_some_iff.mp H
       obtain ⟨t723, A240, H⟩ := H
       replace H : (if t723 = true then (some (t720, a1, true)) else (some ((([] : List (S30))), 0, false))) = some (r1, r2, r3) := H
       have A24 := Aside0.mk A240
       clear A240
       by_cases c25 : t723 = true
       ·
        subst c25
        have H1 : (some (t720, a1, true)) = some (r1, r2, r3) := by rw [if_pos rfl] at H; exact H
        clear H
        have H := H1
        clear H1
        simp only [Option.some.injEq, Prod.mk.injEq] at H
        obtain ⟨rfl, rfl, rfl⟩ := H
        have p718 : 0 ≤ (t711 : Int) := of_decide_eq_true (by first | (with_reducible assumption) | assumption)
        have q718 : t711 < (l0.length : Int) := of_decide_eq_true (by first | (with_reducible assumption) | assumption)
        obtain ⟨ad718, e718, hx718_0, hx718_1, hx718_2, hx718_3, hx718_4, hx718_5⟩ := at_T30 HR0.out t711 p718 q718
        cases e718
        replace hx718_0 := (HB.out.cell (World.block_lt_of_cell? w _ hx718_0)).trans hx718_0
        replace hx718_1 := (HB.out.cell (World.block_lt_of_cell? w _ hx718_1)).trans hx718_1
        replace hx718_2 := (HB.out.cell (World.block_lt_of_cell? w _ hx718_2)).trans hx718_2
        replace hx718_3 := (HB.out.cell (World.block_lt_of_cell? w _ hx718_3)).trans hx718_3
        replace hx718_4 := (HB.out.cell (World.block_lt_of_cell? w _ hx718_4)).trans hx718_4
        replace hx718_5 := (HB.out.cell (World.block_lt_of_cell? w _ hx718_5)).trans hx718_5
        replace p718 := eq_true p718
        replace q718 := eq_true q718
        go_wp2_with (first | ((with_reducible refine gate_dst (N := 12) rfl ?_); refine box_event ?hg (N := 12) ?hd (cs := #[.int .i64 0, .int .i64 0, .int .i64 0, .int .i64 0, .int .i64 0, .int .i64 0]) (t := 30) ?hr ?_; (case hd => rfl); (case hg => rfl); (case hr => first | (go_simp; done) | (go_simp; rfl)); intro gb719 hg w26 hbox hb; have n0_ := Aside0.mk (below_step (by repeat (first | (with_reducible first | exact HB.out | apply below_alloc | apply pw_below_drewN | apply below_drew1) | exact HB.out)) hb); have n1_ := Aside0.mk (hbox); have n2_ := Aside0.mk ((by rw [hg]; exact (below_size (by repeat (first | (with_reducible first | exact HB.out | apply below_alloc | apply pw_below_drewN | apply below_drew1) | exact HB.out))) : w.heap.size ≤ gb719)); have n3_ := Aside0.mk ((by rw [hg]; exact (below_size (by repeat (first | (with_reducible first | exact HB.out | apply below_alloc | apply pw_below_drewN | apply below_drew1) | exact HB.out))) : w.heap.size ≤ gb719)); clear HB; have HB := n0_; have BK719 := n1_; have GW719 := n2_; have GE719 := n3_; clear n0_ n1_ n2_ n3_; clear hb hbox hg; have hcz27_0 : w26.cell? ⟨gb719, 0, none⟩ = some (.int .i64 0) := (blk_cell BK719.out 0).trans rfl; have hcz27_1 : w26.cell? ⟨gb719, 1, none⟩ = some (.int .i64 0) := (blk_cell BK719.out 1).trans rfl; have hcz27_2 : w26.cell? ⟨gb719, 2, none⟩ = some (.int .i64 0) := (blk_cell BK719.out 2).trans rfl; have hcz27_3 : w26.cell? ⟨gb719, 3, none⟩ = some (.int .i64 0) := (blk_cell BK719.out 3).trans rfl; have hcz27_4 : w26.cell? ⟨gb719, 4, none⟩ = some (.int .i64 0) := (blk_cell BK719.out 4).trans rfl; have hcz27_5 : w26.cell? ⟨gb719, 5, none⟩ = some (.int .i64 0) := (blk_cell BK719.out 5).trans rfl; have hl27_0 : ∀ v0 v1 v2 v3 v4 v5 u0 : Value, (((((((w26.setCell ⟨gb719, 0, none⟩ v0).setCell ⟨gb719, 1, none⟩ v1).setCell ⟨gb719, 2, none⟩ v2).setCell ⟨gb719, 3, none⟩ v3).setCell ⟨gb719, 4, none⟩ v4).setCell ⟨gb719, 5, none⟩ v5).setCell ⟨gb719, 2, none⟩ u0).cell? ⟨gb719, 2, none⟩ = some u0 := fun v0 v1 v2 v3 v4 v5 u0 => (blk_cell (blk_set (blk_set (blk_set (blk_set (blk_set (blk_set (blk_set BK719.out 0 v0) 1 v1) 2 v2) 3 v3) 4 v4) 5 v5) 2 u0) 2).trans (by simp); have hl27_1 : ∀ v0 v1 v2 v3 v4 v5 u0 u1 : Value, ((((((((w26.setCell ⟨gb719, 0, none⟩ v0).setCell ⟨gb719, 1, none⟩ v1).setCell ⟨gb719, 2, none⟩ v2).setCell ⟨gb719, 3, none⟩ v3).setCell ⟨gb719, 4, none⟩ v4).setCell ⟨gb719, 5, none⟩ v5).setCell ⟨gb719, 2, none⟩ u0).setCell ⟨gb719, 4, none⟩ u1).cell? ⟨gb719, 4, none⟩ = some u1 := fun v0 v1 v2 v3 v4 v5 u0 u1 => (blk_cell (blk_set (blk_set (blk_set (blk_set (blk_set (blk_set (blk_set (blk_set BK719.out 0 v0) 1 v1) 2 v2) 3 v3) 4 v4) 5 v5) 2 u0) 4 u1) 4).trans (by simp); have hl27_2 : ∀ v0 v1 v2 v3 v4 v5 u0 : Value, (((((((w26.setCell ⟨gb719, 0, none⟩ v0).setCell ⟨gb719, 1, none⟩ v1).setCell ⟨gb719, 2, none⟩ v2).setCell ⟨gb719, 3, none⟩ v3).setCell ⟨gb719, 4, none⟩ v4).setCell ⟨gb719, 5, none⟩ v5).setCell ⟨gb719, 5, none⟩ u0).cell? ⟨gb719, 5, none⟩ = some u0 := fun v0 v1 v2 v3 v4 v5 u0 => (blk_cell (blk_set (blk_set (blk_set (blk_set (blk_set (blk_set (blk_set BK719.out 0 v0) 1 v1) 2 v2) 3 v3) 4 v4) 5 v5) 5 u0) 5).trans (by simp); have hfz27_0 := blk_frozen BK719.out 0; have hfz27_1 := blk_frozen BK719.out 1; have hfz27_2 := blk_frozen BK719.out 2; have hfz27_3 := blk_frozen BK719.out 3; have hfz27_4 := blk_frozen BK719.out 4; have hfz27_5 := blk_frozen BK719.out 5) | ((with_reducible refine gate_callee (f := 62) rfl ?_); refine goesL_ (some 58) rfl rfl Try.func62 (by kernel_rfl) rfl #[.slice (some ad718) l0.length c0, .int .i64 t711, .agg #[.int .i64 ((rd_T30 l0 t711).f0), .int .i64 ((rd_T30 l0 t711).f1), .int .i64 a2, .int .i64 ((rd_T30 l0 t711).f3), .int .i64 ((rd_T30 l0 t711).f4), .int .i64 ((rd_T30 l0 t711).f5)]] rfl (by (try simp only [List.map_toArray, List.map_cons, List.map_nil]); first | done | rfl | (simp only [List.length_drop, List.length_take]; rfl)) ?_; (with_reducible refine (spec_l14With.calls _ _ l0 t711 ((rd_T30 l0 t711).f0) ((rd_T30 l0 t711).f1) a2 ((rd_T30 l0 t711).f3) ((rd_T30 l0 t711).f4) ((rd_T30 l0 t711).f5) t720 _ ?side1 ?side2 A23.out).mono ?_); (case side1 => exact Kd.C_below HR0.out (by repeat (first | (with_reducible first | exact HB.out | apply below_alloc | apply pw_below_drewN | apply below_drew1 | refine below_set ?_ GE719.out) | exact HB.out))); (case side2 => exact HC0.out); rintro e w28 ⟨v721, rfl, ho0, hb⟩; refine ⟨_, rfl, ?_⟩; have n0_ := Aside0.mk (Kd.R_lower (Kd.R_newB ho0 (g := gb719) (o := .cells #[.int .i64 ((rd_T30 l0 t711).f0), .int .i64 ((rd_T30 l0 t711).f1), .int .i64 a2, .int .i64 ((rd_T30 l0 t711).f3), .int .i64 ((rd_T30 l0 t711).f4), .int .i64 ((rd_T30 l0 t711).f5)] 30 (0, 0)) (by (with_reducible repeat (first | refine blk_drewN ?_ _ | refine blk_drew ?_ | refine blk_alloc ?_ _)); refine blk_put (cs := #[.int .i64 ((rd_T30 l0 t711).f0), .int .i64 ((rd_T30 l0 t711).f1), .int .i64 ((rd_T30 l0 t711).f2), .int .i64 ((rd_T30 l0 t711).f3), .int .i64 ((rd_T30 l0 t711).f4), .int .i64 ((rd_T30 l0 t711).f5)]) ?_ 2 _ rfl; (with_reducible repeat (first | refine blk_drewN ?_ _ | refine blk_drew ?_ | refine blk_alloc ?_ _)); refine blk_put (cs := #[.int .i64 ((rd_T30 l0 t711).f0), .int .i64 ((rd_T30 l0 t711).f1), .int .i64 ((rd_T30 l0 t711).f2), .int .i64 ((rd_T30 l0 t711).f3), .int .i64 ((rd_T30 l0 t711).f4), .int .i64 0]) ?_ 5 _ rfl; (with_reducible repeat (first | refine blk_drewN ?_ _ | refine blk_drew ?_ | refine blk_alloc ?_ _)); refine blk_put (cs := #[.int .i64 ((rd_T30 l0 t711).f0), .int .i64 ((rd_T30 l0 t711).f1), .int .i64 ((rd_T30 l0 t711).f2), .int .i64 ((rd_T30 l0 t711).f3), .int .i64 0, .int .i64 0]) ?_ 4 _ rfl; (with_reducible repeat (first | refine blk_drewN ?_ _ | refine blk_drew ?_ | refine blk_alloc ?_ _)); refine blk_put (cs := #[.int .i64 ((rd_T30 l0 t711).f0), .int .i64 ((rd_T30 l0 t711).f1), .int .i64 ((rd_T30 l0 t711).f2), .int .i64 0, .int .i64 0, .int .i64 0]) ?_ 3 _ rfl; (with_reducible repeat (first | refine blk_drewN ?_ _ | refine blk_drew ?_ | refine blk_alloc ?_ _)); refine blk_put (cs := #[.int .i64 ((rd_T30 l0 t711).f0), .int .i64 ((rd_T30 l0 t711).f1), .int .i64 0, .int .i64 0, .int .i64 0, .int .i64 0]) ?_ 2 _ rfl; (with_reducible repeat (first | refine blk_drewN ?_ _ | refine blk_drew ?_ | refine blk_alloc ?_ _)); refine blk_put (cs := #[.int .i64 ((rd_T30 l0 t711).f0), .int .i64 0, .int .i64 0, .int .i64 0, .int .i64 0, .int .i64 0]) ?_ 1 _ rfl; (with_reducible repeat (first | refine blk_drewN ?_ _ | refine blk_drew ?_ | refine blk_alloc ?_ _)); refine blk_put (cs := #[.int .i64 0, .int .i64 0, .int .i64 0, .int .i64 0, .int .i64 0, .int .i64 0]) ?_ 0 _ rfl; (with_reducible repeat (first | refine blk_drewN ?_ _ | refine blk_drew ?_ | refine blk_alloc ?_ _)); exact BK719.out)) (below_size (by repeat (first | (with_reducible first | exact HB.out | apply below_alloc | apply pw_below_drewN | apply below_drew1 | refine below_set ?_ GE719.out) | exact HB.out)))); have n1_ := Aside0.mk (blk_below (g := gb719) (o := .cells #[.int .i64 ((rd_T30 l0 t711).f0), .int .i64 ((rd_T30 l0 t711).f1), .int .i64 a2, .int .i64 ((rd_T30 l0 t711).f3), .int .i64 ((rd_T30 l0 t711).f4), .int .i64 ((rd_T30 l0 t711).f5)] 30 (0, 0)) (by (with_reducible repeat (first | refine blk_drewN ?_ _ | refine blk_drew ?_ | refine blk_alloc ?_ _)); refine blk_put (cs := #[.int .i64 ((rd_T30 l0 t711).f0), .int .i64 ((rd_T30 l0 t711).f1), .int .i64 ((rd_T30 l0 t711).f2), .int .i64 ((rd_T30 l0 t711).f3), .int .i64 ((rd_T30 l0 t711).f4), .int .i64 ((rd_T30 l0 t711).f5)]) ?_ 2 _ rfl; (with_reducible repeat (first | refine blk_drewN ?_ _ | refine blk_drew ?_ | refine blk_alloc ?_ _)); refine blk_put (cs := #[.int .i64 ((rd_T30 l0 t711).f0), .int .i64 ((rd_T30 l0 t711).f1), .int .i64 ((rd_T30 l0 t711).f2), .int .i64 ((rd_T30 l0 t711).f3), .int .i64 ((rd_T30 l0 t711).f4), .int .i64 0]) ?_ 5 _ rfl; (with_reducible repeat (first | refine blk_drewN ?_ _ | refine blk_drew ?_ | refine blk_alloc ?_ _)); refine blk_put (cs := #[.int .i64 ((rd_T30 l0 t711).f0), .int .i64 ((rd_T30 l0 t711).f1), .int .i64 ((rd_T30 l0 t711).f2), .int .i64 ((rd_T30 l0 t711).f3), .int .i64 0, .int .i64 0]) ?_ 4 _ rfl; (with_reducible repeat (first | refine blk_drewN ?_ _ | refine blk_drew ?_ | refine blk_alloc ?_ _)); refine blk_put (cs := #[.int .i64 ((rd_T30 l0 t711).f0), .int .i64 ((rd_T30 l0 t711).f1), .int .i64 ((rd_T30 l0 t711).f2), .int .i64 0, .int .i64 0, .int .i64 0]) ?_ 3 _ rfl; (with_reducible repeat (first | refine blk_drewN ?_ _ | refine blk_drew ?_ | refine blk_alloc ?_ _)); refine blk_put (cs := #[.int .i64 ((rd_T30 l0 t711).f0), .int .i64 ((rd_T30 l0 t711).f1), .int .i64 0, .int .i64 0, .int .i64 0, .int .i64 0]) ?_ 2 _ rfl; (with_reducible repeat (first | refine blk_drewN ?_ _ | refine blk_drew ?_ | refine blk_alloc ?_ _)); refine blk_put (cs := #[.int .i64 ((rd_T30 l0 t711).f0), .int .i64 0, .int .i64 0, .int .i64 0, .int .i64 0, .int .i64 0]) ?_ 1 _ rfl; (with_reducible repeat (first | refine blk_drewN ?_ _ | refine blk_drew ?_ | refine blk_alloc ?_ _)); refine blk_put (cs := #[.int .i64 0, .int .i64 0, .int .i64 0, .int .i64 0, .int .i64 0, .int .i64 0]) ?_ 0 _ rfl; (with_reducible repeat (first | refine blk_drewN ?_ _ | refine blk_drew ?_ | refine blk_alloc ?_ _)); exact BK719.out) hb); have n2_ := Aside0.mk (below_step (by repeat (first | (with_reducible first | exact HB.out | apply below_alloc | apply pw_below_drewN | apply below_drew1 | refine below_set ?_ GE719.out) | exact HB.out)) hb); clear BK719; clear HB; have HO722 := n0_; have BK719 := n1_; have HB := n2_; clear n0_ n1_ n2_; (try clear hb); (try clear hb2); (try clear hk); (try clear hi); (try clear ho0); obtain ⟨Ao29, co29, eo29⟩ := Kd.R_slice HO722.out; subst eo29) | ((with_reducible refine gate_callee (f := 55) rfl ?_); refine goesL_ (some 76) rfl rfl Try.func55 (by kernel_rfl) rfl #[.slice Ao29 t720.length co29] rfl (by (try simp only [List.map_toArray, List.map_cons, List.map_nil]); first | done | rfl | (simp only [List.length_drop, List.length_take]; rfl)) ?_; (with_reducible refine (spec_l14List.calls kj5 _ _ t720 true _ ?side1 ?side2 A24.out).mono ?_); (case side1 => repeat (first | exact (Kd.R_reads' HO722.out).2.2 | (with_reducible refine Kd.C_alloc ?_ _) | (with_reducible refine Kd.C_drewN ?_ _) | (with_reducible refine Kd.C_drew ?_))); (case side2 => exact (Kd.R_reads' HO722.out).2.1); rintro e w30 ⟨rfl, hb⟩; refine ⟨_, rfl, ?_⟩; have n0_ := Aside0.mk (Kd.R_below (by (with_reducible repeat (first | apply Kd.R_alloc | apply Kd.R_drewN | apply Kd.R_drew)); exact HO722.out) hb); have n1_ := Aside0.mk (blk_below (g := gb719) (o := .cells #[.int .i64 ((rd_T30 l0 t711).f0), .int .i64 ((rd_T30 l0 t711).f1), .int .i64 a2, .int .i64 ((rd_T30 l0 t711).f3), .int .i64 ((rd_T30 l0 t711).f4), .int .i64 ((rd_T30 l0 t711).f5)] 30 (0, 0)) (by (with_reducible repeat (first | refine blk_drewN ?_ _ | refine blk_drew ?_ | refine blk_alloc ?_ _)); exact BK719.out) hb); have n2_ := Aside0.mk (below_step (by repeat (first | (with_reducible first | exact HB.out | apply below_alloc | apply pw_below_drewN | apply below_drew1 | refine below_set ?_ GE719.out) | exact HB.out)) hb); clear HO722; clear BK719; clear HB; have HO722 := n0_; have BK719 := n1_; have HB := n2_; clear n0_ n1_ n2_; (try clear hb); (try clear hb2); (try clear hk); (try clear hi)))
        go_ret3
        exact ⟨_, by first | rfl | (simp [errW_none, errW_some] <;> rfl) | (simp [*, errW_none, errW_some] <;> rfl), by (with_reducible repeat (first | apply Kd.R_alloc | apply Kd.R_drewN | apply Kd.R_drew)); exact Kd.R_mono HO722.out (fun _ hk => trivial), by repeat (first | (with_reducible first | exact HB.out | apply below_alloc | apply pw_below_drewN | apply below_drew1 | refine below_set ?_ GE719.out) | exact HB.out)⟩
       ·
        replace c25 := Bool.eq_false_iff.mpr c25
        subst c25
        have H1 : (some ((([] : List (S30))), 0, false)) = some (r1, r2, r3) := by rw [if_neg (show ¬ (false = true) by decide)] at H; exact H
        clear H
        have H := H1
        clear H1
        obtain ⟨y724, hy724⟩ : ∃ y_ : List (S30), y_ = (([] : List (S30))) := ⟨_, rfl⟩
        replace H : (some (y724, 0, false)) = some (r1, r2, r3) := by first | (rw [hy724]; with_reducible exact H) | (have H2_ := (Option.bind_some _ _).symm.trans H; rw [hy724]; with_reducible exact H2_) | (have H2_ := (Option.bind_some _ _).symm.trans H; with_reducible exact H2_) | with_reducible exact H | (rw [hy724]; exact H) | exact H
        have Ny724 := Aside0.mk hy724
        clear hy724
        simp only [Option.some.injEq, Prod.mk.injEq] at H
        obtain ⟨rfl, rfl, rfl⟩ := H
        have p718 : 0 ≤ (t711 : Int) := of_decide_eq_true (by first | (with_reducible assumption) | assumption)
        have q718 : t711 < (l0.length : Int) := of_decide_eq_true (by first | (with_reducible assumption) | assumption)
        obtain ⟨ad718, e718, hx718_0, hx718_1, hx718_2, hx718_3, hx718_4, hx718_5⟩ := at_T30 HR0.out t711 p718 q718
        cases e718
        replace hx718_0 := (HB.out.cell (World.block_lt_of_cell? w _ hx718_0)).trans hx718_0
        replace hx718_1 := (HB.out.cell (World.block_lt_of_cell? w _ hx718_1)).trans hx718_1
        replace hx718_2 := (HB.out.cell (World.block_lt_of_cell? w _ hx718_2)).trans hx718_2
        replace hx718_3 := (HB.out.cell (World.block_lt_of_cell? w _ hx718_3)).trans hx718_3
        replace hx718_4 := (HB.out.cell (World.block_lt_of_cell? w _ hx718_4)).trans hx718_4
        replace hx718_5 := (HB.out.cell (World.block_lt_of_cell? w _ hx718_5)).trans hx718_5
        replace p718 := eq_true p718
        replace q718 := eq_true q718
        go_wp2_with (first | ((with_reducible refine gate_dst (N := 12) rfl ?_); refine box_event ?hg (N := 12) ?hd (cs := #[.int .i64 0, .int .i64 0, .int .i64 0, .int .i64 0, .int .i64 0, .int .i64 0]) (t := 30) ?hr ?_; (case hd => rfl); (case hg => rfl); (case hr => first | (go_simp; done) | (go_simp; rfl)); intro gb719 hg w31 hbox hb; have n0_ := Aside0.mk (below_step (by repeat (first | (with_reducible first | exact HB.out | apply below_alloc | apply pw_below_drewN | apply below_drew1) | exact HB.out)) hb); have n1_ := Aside0.mk (hbox); have n2_ := Aside0.mk ((by rw [hg]; exact (below_size (by repeat (first | (with_reducible first | exact HB.out | apply below_alloc | apply pw_below_drewN | apply below_drew1) | exact HB.out))) : w.heap.size ≤ gb719)); have n3_ := Aside0.mk ((by rw [hg]; exact (below_size (by repeat (first | (with_reducible first | exact HB.out | apply below_alloc | apply pw_below_drewN | apply below_drew1) | exact HB.out))) : w.heap.size ≤ gb719)); clear HB; have HB := n0_; have BK719 := n1_; have GW719 := n2_; have GE719 := n3_; clear n0_ n1_ n2_ n3_; clear hb hbox hg; have hcz32_0 : w31.cell? ⟨gb719, 0, none⟩ = some (.int .i64 0) := (blk_cell BK719.out 0).trans rfl; have hcz32_1 : w31.cell? ⟨gb719, 1, none⟩ = some (.int .i64 0) := (blk_cell BK719.out 1).trans rfl; have hcz32_2 : w31.cell? ⟨gb719, 2, none⟩ = some (.int .i64 0) := (blk_cell BK719.out 2).trans rfl; have hcz32_3 : w31.cell? ⟨gb719, 3, none⟩ = some (.int .i64 0) := (blk_cell BK719.out 3).trans rfl; have hcz32_4 : w31.cell? ⟨gb719, 4, none⟩ = some (.int .i64 0) := (blk_cell BK719.out 4).trans rfl; have hcz32_5 : w31.cell? ⟨gb719, 5, none⟩ = some (.int .i64 0) := (blk_cell BK719.out 5).trans rfl; have hl32_0 : ∀ v0 v1 v2 v3 v4 v5 u0 : Value, (((((((w31.setCell ⟨gb719, 0, none⟩ v0).setCell ⟨gb719, 1, none⟩ v1).setCell ⟨gb719, 2, none⟩ v2).setCell ⟨gb719, 3, none⟩ v3).setCell ⟨gb719, 4, none⟩ v4).setCell ⟨gb719, 5, none⟩ v5).setCell ⟨gb719, 2, none⟩ u0).cell? ⟨gb719, 2, none⟩ = some u0 := fun v0 v1 v2 v3 v4 v5 u0 => (blk_cell (blk_set (blk_set (blk_set (blk_set (blk_set (blk_set (blk_set BK719.out 0 v0) 1 v1) 2 v2) 3 v3) 4 v4) 5 v5) 2 u0) 2).trans (by simp); have hl32_1 : ∀ v0 v1 v2 v3 v4 v5 u0 u1 : Value, ((((((((w31.setCell ⟨gb719, 0, none⟩ v0).setCell ⟨gb719, 1, none⟩ v1).setCell ⟨gb719, 2, none⟩ v2).setCell ⟨gb719, 3, none⟩ v3).setCell ⟨gb719, 4, none⟩ v4).setCell ⟨gb719, 5, none⟩ v5).setCell ⟨gb719, 2, none⟩ u0).setCell ⟨gb719, 4, none⟩ u1).cell? ⟨gb719, 4, none⟩ = some u1 := fun v0 v1 v2 v3 v4 v5 u0 u1 => (blk_cell (blk_set (blk_set (blk_set (blk_set (blk_set (blk_set (blk_set (blk_set BK719.out 0 v0) 1 v1) 2 v2) 3 v3) 4 v4) 5 v5) 2 u0) 4 u1) 4).trans (by simp); have hl32_2 : ∀ v0 v1 v2 v3 v4 v5 u0 : Value, (((((((w31.setCell ⟨gb719, 0, none⟩ v0).setCell ⟨gb719, 1, none⟩ v1).setCell ⟨gb719, 2, none⟩ v2).setCell ⟨gb719, 3, none⟩ v3).setCell ⟨gb719, 4, none⟩ v4).setCell ⟨gb719, 5, none⟩ v5).setCell ⟨gb719, 5, none⟩ u0).cell? ⟨gb719, 5, none⟩ = some u0 := fun v0 v1 v2 v3 v4 v5 u0 => (blk_cell (blk_set (blk_set (blk_set (blk_set (blk_set (blk_set (blk_set BK719.out 0 v0) 1 v1) 2 v2) 3 v3) 4 v4) 5 v5) 5 u0) 5).trans (by simp); have hfz32_0 := blk_frozen BK719.out 0; have hfz32_1 := blk_frozen BK719.out 1; have hfz32_2 := blk_frozen BK719.out 2; have hfz32_3 := blk_frozen BK719.out 3; have hfz32_4 := blk_frozen BK719.out 4; have hfz32_5 := blk_frozen BK719.out 5) | ((with_reducible refine gate_callee (f := 62) rfl ?_); refine goesL_ (some 58) rfl rfl Try.func62 (by kernel_rfl) rfl #[.slice (some ad718) l0.length c0, .int .i64 t711, .agg #[.int .i64 ((rd_T30 l0 t711).f0), .int .i64 ((rd_T30 l0 t711).f1), .int .i64 a2, .int .i64 ((rd_T30 l0 t711).f3), .int .i64 ((rd_T30 l0 t711).f4), .int .i64 ((rd_T30 l0 t711).f5)]] rfl (by (try simp only [List.map_toArray, List.map_cons, List.map_nil]); first | done | rfl | (simp only [List.length_drop, List.length_take]; rfl)) ?_; (with_reducible refine (spec_l14With.calls _ _ l0 t711 ((rd_T30 l0 t711).f0) ((rd_T30 l0 t711).f1) a2 ((rd_T30 l0 t711).f3) ((rd_T30 l0 t711).f4) ((rd_T30 l0 t711).f5) t720 _ ?side1 ?side2 A23.out).mono ?_); (case side1 => exact Kd.C_below HR0.out (by repeat (first | (with_reducible first | exact HB.out | apply below_alloc | apply pw_below_drewN | apply below_drew1 | refine below_set ?_ GE719.out) | exact HB.out))); (case side2 => exact HC0.out); rintro e w33 ⟨v721, rfl, ho0, hb⟩; refine ⟨_, rfl, ?_⟩; have n0_ := Aside0.mk (Kd.R_lower (Kd.R_newB ho0 (g := gb719) (o := .cells #[.int .i64 ((rd_T30 l0 t711).f0), .int .i64 ((rd_T30 l0 t711).f1), .int .i64 a2, .int .i64 ((rd_T30 l0 t711).f3), .int .i64 ((rd_T30 l0 t711).f4), .int .i64 ((rd_T30 l0 t711).f5)] 30 (0, 0)) (by (with_reducible repeat (first | refine blk_drewN ?_ _ | refine blk_drew ?_ | refine blk_alloc ?_ _)); refine blk_put (cs := #[.int .i64 ((rd_T30 l0 t711).f0), .int .i64 ((rd_T30 l0 t711).f1), .int .i64 ((rd_T30 l0 t711).f2), .int .i64 ((rd_T30 l0 t711).f3), .int .i64 ((rd_T30 l0 t711).f4), .int .i64 ((rd_T30 l0 t711).f5)]) ?_ 2 _ rfl; (with_reducible repeat (first | refine blk_drewN ?_ _ | refine blk_drew ?_ | refine blk_alloc ?_ _)); refine blk_put (cs := #[.int .i64 ((rd_T30 l0 t711).f0), .int .i64 ((rd_T30 l0 t711).f1), .int .i64 ((rd_T30 l0 t711).f2), .int .i64 ((rd_T30 l0 t711).f3), .int .i64 ((rd_T30 l0 t711).f4), .int .i64 0]) ?_ 5 _ rfl; (with_reducible repeat (first | refine blk_drewN ?_ _ | refine blk_drew ?_ | refine blk_alloc ?_ _)); refine blk_put (cs := #[.int .i64 ((rd_T30 l0 t711).f0), .int .i64 ((rd_T30 l0 t711).f1), .int .i64 ((rd_T30 l0 t711).f2), .int .i64 ((rd_T30 l0 t711).f3), .int .i64 0, .int .i64 0]) ?_ 4 _ rfl; (with_reducible repeat (first | refine blk_drewN ?_ _ | refine blk_drew ?_ | refine blk_alloc ?_ _)); refine blk_put (cs := #[.int .i64 ((rd_T30 l0 t711).f0), .int .i64 ((rd_T30 l0 t711).f1), .int .i64 ((rd_T30 l0 t711).f2), .int .i64 0, .int .i64 0, .int .i64 0]) ?_ 3 _ rfl; (with_reducible repeat (first | refine blk_drewN ?_ _ | refine blk_drew ?_ | refine blk_alloc ?_ _)); refine blk_put (cs := #[.int .i64 ((rd_T30 l0 t711).f0), .int .i64 ((rd_T30 l0 t711).f1), .int .i64 0, .int .i64 0, .int .i64 0, .int .i64 0]) ?_ 2 _ rfl; (with_reducible repeat (first | refine blk_drewN ?_ _ | refine blk_drew ?_ | refine blk_alloc ?_ _)); refine blk_put (cs := #[.int .i64 ((rd_T30 l0 t711).f0), .int .i64 0, .int .i64 0, .int .i64 0, .int .i64 0, .int .i64 0]) ?_ 1 _ rfl; (with_reducible repeat (first | refine blk_drewN ?_ _ | refine blk_drew ?_ | refine blk_alloc ?_ _)); refine blk_put (cs := #[.int .i64 0, .int .i64 0, .int .i64 0, .int .i64 0, .int .i64 0, .int .i64 0]) ?_ 0 _ rfl; (with_reducible repeat (first | refine blk_drewN ?_ _ | refine blk_drew ?_ | refine blk_alloc ?_ _)); exact BK719.out)) (below_size (by repeat (first | (with_reducible first | exact HB.out | apply below_alloc | apply pw_below_drewN | apply below_drew1 | refine below_set ?_ GE719.out) | exact HB.out)))); have n1_ := Aside0.mk (blk_below (g := gb719) (o := .cells #[.int .i64 ((rd_T30 l0 t711).f0), .int .i64 ((rd_T30 l0 t711).f1), .int .i64 a2, .int .i64 ((rd_T30 l0 t711).f3), .int .i64 ((rd_T30 l0 t711).f4), .int .i64 ((rd_T30 l0 t711).f5)] 30 (0, 0)) (by (with_reducible repeat (first | refine blk_drewN ?_ _ | refine blk_drew ?_ | refine blk_alloc ?_ _)); refine blk_put (cs := #[.int .i64 ((rd_T30 l0 t711).f0), .int .i64 ((rd_T30 l0 t711).f1), .int .i64 ((rd_T30 l0 t711).f2), .int .i64 ((rd_T30 l0 t711).f3), .int .i64 ((rd_T30 l0 t711).f4), .int .i64 ((rd_T30 l0 t711).f5)]) ?_ 2 _ rfl; (with_reducible repeat (first | refine blk_drewN ?_ _ | refine blk_drew ?_ | refine blk_alloc ?_ _)); refine blk_put (cs := #[.int .i64 ((rd_T30 l0 t711).f0), .int .i64 ((rd_T30 l0 t711).f1), .int .i64 ((rd_T30 l0 t711).f2), .int .i64 ((rd_T30 l0 t711).f3), .int .i64 ((rd_T30 l0 t711).f4), .int .i64 0]) ?_ 5 _ rfl; (with_reducible repeat (first | refine blk_drewN ?_ _ | refine blk_drew ?_ | refine blk_alloc ?_ _)); refine blk_put (cs := #[.int .i64 ((rd_T30 l0 t711).f0), .int .i64 ((rd_T30 l0 t711).f1), .int .i64 ((rd_T30 l0 t711).f2), .int .i64 ((rd_T30 l0 t711).f3), .int .i64 0, .int .i64 0]) ?_ 4 _ rfl; (with_reducible repeat (first | refine blk_drewN ?_ _ | refine blk_drew ?_ | refine blk_alloc ?_ _)); refine blk_put (cs := #[.int .i64 ((rd_T30 l0 t711).f0), .int .i64 ((rd_T30 l0 t711).f1), .int .i64 ((rd_T30 l0 t711).f2), .int .i64 0, .int .i64 0, .int .i64 0]) ?_ 3 _ rfl; (with_reducible repeat (first | refine blk_drewN ?_ _ | refine blk_drew ?_ | refine blk_alloc ?_ _)); refine blk_put (cs := #[.int .i64 ((rd_T30 l0 t711).f0), .int .i64 ((rd_T30 l0 t711).f1), .int .i64 0, .int .i64 0, .int .i64 0, .int .i64 0]) ?_ 2 _ rfl; (with_reducible repeat (first | refine blk_drewN ?_ _ | refine blk_drew ?_ | refine blk_alloc ?_ _)); refine blk_put (cs := #[.int .i64 ((rd_T30 l0 t711).f0), .int .i64 0, .int .i64 0, .int .i64 0, .int .i64 0, .int .i64 0]) ?_ 1 _ rfl; (with_reducible repeat (first | refine blk_drewN ?_ _ | refine blk_drew ?_ | refine blk_alloc ?_ _)); refine blk_put (cs := #[.int .i64 0, .int .i64 0, .int .i64 0, .int .i64 0, .int .i64 0, .int .i64 0]) ?_ 0 _ rfl; (with_reducible repeat (first | refine blk_drewN ?_ _ | refine blk_drew ?_ | refine blk_alloc ?_ _)); exact BK719.out) hb); have n2_ := Aside0.mk (below_step (by repeat (first | (with_reducible first | exact HB.out | apply below_alloc | apply pw_below_drewN | apply below_drew1 | refine below_set ?_ GE719.out) | exact HB.out)) hb); clear BK719; clear HB; have HO722 := n0_; have BK719 := n1_; have HB := n2_; clear n0_ n1_ n2_; (try clear hb); (try clear hb2); (try clear hk); (try clear hi); (try clear ho0); obtain ⟨Ao34, co34, eo34⟩ := Kd.R_slice HO722.out; subst eo34) | ((with_reducible refine gate_callee (f := 55) rfl ?_); refine goesL_ (some 76) rfl rfl Try.func55 (by kernel_rfl) rfl #[.slice Ao34 t720.length co34] rfl (by (try simp only [List.map_toArray, List.map_cons, List.map_nil]); first | done | rfl | (simp only [List.length_drop, List.length_take]; rfl)) ?_; (with_reducible refine (spec_l14List.calls kj5 _ _ t720 false _ ?side1 ?side2 A24.out).mono ?_); (case side1 => repeat (first | exact (Kd.R_reads' HO722.out).2.2 | (with_reducible refine Kd.C_alloc ?_ _) | (with_reducible refine Kd.C_drewN ?_ _) | (with_reducible refine Kd.C_drew ?_))); (case side2 => exact (Kd.R_reads' HO722.out).2.1); rintro e w35 ⟨rfl, hb⟩; refine ⟨_, rfl, ?_⟩; have n0_ := Aside0.mk (Kd.R_below (by (with_reducible repeat (first | apply Kd.R_alloc | apply Kd.R_drewN | apply Kd.R_drew)); exact HO722.out) hb); have n1_ := Aside0.mk (blk_below (g := gb719) (o := .cells #[.int .i64 ((rd_T30 l0 t711).f0), .int .i64 ((rd_T30 l0 t711).f1), .int .i64 a2, .int .i64 ((rd_T30 l0 t711).f3), .int .i64 ((rd_T30 l0 t711).f4), .int .i64 ((rd_T30 l0 t711).f5)] 30 (0, 0)) (by (with_reducible repeat (first | refine blk_drewN ?_ _ | refine blk_drew ?_ | refine blk_alloc ?_ _)); exact BK719.out) hb); have n2_ := Aside0.mk (below_step (by repeat (first | (with_reducible first | exact HB.out | apply below_alloc | apply pw_below_drewN | apply below_drew1 | refine below_set ?_ GE719.out) | exact HB.out)) hb); clear HO722; clear BK719; clear HB; have HO722 := n0_; have BK719 := n1_; have HB := n2_; clear n0_ n1_ n2_; (try clear hb); (try clear hb2); (try clear hk); (try clear hi)) | ((with_reducible refine gate_dst (N := 78) rfl ?_); refine Kd.R_lit k30 _ 30 ?hg (N := 78) ?hd (xs := ([] : List (S30))) (inner := []) (ok := fun _ => True) (okp := fun _ => True) ?hr ?hp (fun _ hk => hk) trivial (Below.refl _ _) (Nat.le_refl _) (by simp) ?_; (case hd => rfl); (case hg => rfl); (case hr => first | (go_simp; done) | (go_simp; rfl)); (case hp => exact (Reps.none _ _)); intro v725 w36 ho37 hb hg_ hnew_; clear hg_ hnew_; (first | rw [← Ny724.out] at ho37 | (simp only [Int.reduceToNat] at ho37; rw [← Ny724.out] at ho37)); have n0_ := Aside0.mk (Kd.R_elder' (by (with_reducible repeat (first | apply Kd.R_alloc | apply Kd.R_drewN | apply Kd.R_drew)); exact HO722.out) (Kd.R_base ho37) hb); have n1_ := Aside0.mk (Kd.R_lower (Kd.R_newB (Kd.R_new' ho37 (Kd.R_lt (by (with_reducible repeat (first | apply Kd.R_alloc | apply Kd.R_drewN | apply Kd.R_drew)); exact HO722.out))) (g := gb719) (o := .cells #[.int .i64 ((rd_T30 l0 t711).f0), .int .i64 ((rd_T30 l0 t711).f1), .int .i64 a2, .int .i64 ((rd_T30 l0 t711).f3), .int .i64 ((rd_T30 l0 t711).f4), .int .i64 ((rd_T30 l0 t711).f5)] 30 (0, 0)) (by (with_reducible repeat (first | refine blk_drewN ?_ _ | refine blk_drew ?_ | refine blk_alloc ?_ _)); exact BK719.out)) (below_size (by repeat (first | (with_reducible first | exact HB.out | apply below_alloc | apply pw_below_drewN | apply below_drew1 | refine below_set ?_ GE719.out) | exact HB.out)))); have n2_ := Aside0.mk (blk_below (g := gb719) (o := .cells #[.int .i64 ((rd_T30 l0 t711).f0), .int .i64 ((rd_T30 l0 t711).f1), .int .i64 a2, .int .i64 ((rd_T30 l0 t711).f3), .int .i64 ((rd_T30 l0 t711).f4), .int .i64 ((rd_T30 l0 t711).f5)] 30 (0, 0)) (by (with_reducible repeat (first | refine blk_drewN ?_ _ | refine blk_drew ?_ | refine blk_alloc ?_ _)); exact BK719.out) hb); have n3_ := Aside0.mk (below_step (by repeat (first | (with_reducible first | exact HB.out | apply below_alloc | apply pw_below_drewN | apply below_drew1 | refine below_set ?_ GE719.out) | exact HB.out)) hb); clear HO722; clear BK719; clear HB; have HO722 := n0_; have HO726 := n1_; have BK719 := n2_; have HB := n3_; clear n0_ n1_ n2_ n3_; clear hb ho37))
        go_ret3
        exact ⟨_, by first | rfl | (simp [errW_none, errW_some] <;> rfl) | (simp [*, errW_none, errW_some] <;> rfl), by (with_reducible repeat (first | apply Kd.R_alloc | apply Kd.R_drewN | apply Kd.R_drew)); exact Kd.R_mono HO726.out (fun _ hk => trivial), by repeat (first | (with_reducible first | exact HB.out | apply below_alloc | apply pw_below_drewN | apply below_drew1 | refine below_set ?_ GE719.out) | exact HB.out)⟩
      ·
       rw [if_neg c22] at H
       have c22b0 : decide (a3 ≤ ((rd_T30 l0 t711).f4)) = false := decide_eq_false c22
       clear c22
       replace H := Option.bind_eq_some_iff.mp H
       obtain ⟨t728, A380, H⟩ := H
       replace H : ((spec_l14Issue.f t728 ((rd_T30 l0 t711).f0) ((rd_T30 l0 t711).f1) a2 ((rd_T30 l0 t711).f3) a3 ((rd_T30 l0 t711).f5)).bind fun bt731 => ((spec_l14List.f kj5 bt731.1).bind fun t735 => (if t735 = true then (some (bt731.1, bt731.2, true)) else (some ((([] : List (S30))), 0, false))))) = some (r1, r2, r3) := H
       have A38 := Aside0.mk A380
       clear A380
       replace H := Option.bind_eq_some_iff.mp H
       obtain ⟨⟨t731, t734⟩, A390, H⟩ := H
       replace H : ((spec_l14List.f kj5 t731).bind fun t735 => (if t735 = true then (some (t731, t734, true)) else (some ((([] : List (S30))), 0, false)))) = some (r1, r2, r3) := H
       have A39 := Aside0.mk A390
       clear A390
       replace H := Option.bind_eq_some_iff.mp H
       obtain ⟨t735, A400, H⟩ := H
       replace H : (if t735 = true then (some (t731, t734, true)) else (some ((([] : List (S30))), 0, false))) = some (r1, r2, r3) := H
       have A40 := Aside0.mk A400
       clear A400
       by_cases c41 : t735 = true
       ·
        subst c41
        have H1 : (some (t731, t734, true)) = some (r1, r2, r3) := by rw [if_pos rfl] at H; exact H
        clear H
        have H := H1
        clear H1
        simp only [Option.some.injEq, Prod.mk.injEq] at H
        obtain ⟨rfl, rfl, rfl⟩ := H
        have p718 : 0 ≤ (t711 : Int) := of_decide_eq_true (by first | (with_reducible assumption) | assumption)
        have q718 : t711 < (l0.length : Int) := of_decide_eq_true (by first | (with_reducible assumption) | assumption)
        obtain ⟨ad718, e718, hx718_0, hx718_1, hx718_2, hx718_3, hx718_4, hx718_5⟩ := at_T30 HR0.out t711 p718 q718
        cases e718
        replace hx718_0 := (HB.out.cell (World.block_lt_of_cell? w _ hx718_0)).trans hx718_0
        replace hx718_1 := (HB.out.cell (World.block_lt_of_cell? w _ hx718_1)).trans hx718_1
        replace hx718_2 := (HB.out.cell (World.block_lt_of_cell? w _ hx718_2)).trans hx718_2
        replace hx718_3 := (HB.out.cell (World.block_lt_of_cell? w _ hx718_3)).trans hx718_3
        replace hx718_4 := (HB.out.cell (World.block_lt_of_cell? w _ hx718_4)).trans hx718_4
        replace hx718_5 := (HB.out.cell (World.block_lt_of_cell? w _ hx718_5)).trans hx718_5
        replace p718 := eq_true p718
        replace q718 := eq_true q718
        try go_wp2_with (first | ((with_reducible refine gate_dst (N := 12) rfl ?_); refine box_event ?hg (N := 12) ?hd (cs := #[.int .i64 0, .int .i64 0, .int .i64 0, .int .i64 0, .int .i64 0, .int .i64 0]) (t := 30) ?hr ?_; (case hd => rfl); (case hg => rfl); (case hr => first | (go_simp; done) | (go_simp; rfl)); intro gb719 hg w42 hbox hb; have n0_ := Aside0.mk (below_step (by repeat (first | (with_reducible first | exact HB.out | apply below_alloc | apply pw_below_drewN | apply below_drew1) | exact HB.out)) hb); have n1_ := Aside0.mk (hbox); have n2_ := Aside0.mk ((by rw [hg]; exact (below_size (by repeat (first | (with_reducible first | exact HB.out | apply below_alloc | apply pw_below_drewN | apply below_drew1) | exact HB.out))) : w.heap.size ≤ gb719)); have n3_ := Aside0.mk ((by rw [hg]; exact (below_size (by repeat (first | (with_reducible first | exact HB.out | apply below_alloc | apply pw_below_drewN | apply below_drew1) | exact HB.out))) : w.heap.size ≤ gb719)); clear HB; have HB := n0_; have BK719 := n1_; have GW719 := n2_; have GE719 := n3_; clear n0_ n1_ n2_ n3_; clear hb hbox hg; have hcz43_0 : w42.cell? ⟨gb719, 0, none⟩ = some (.int .i64 0) := (blk_cell BK719.out 0).trans rfl; have hcz43_1 : w42.cell? ⟨gb719, 1, none⟩ = some (.int .i64 0) := (blk_cell BK719.out 1).trans rfl; have hcz43_2 : w42.cell? ⟨gb719, 2, none⟩ = some (.int .i64 0) := (blk_cell BK719.out 2).trans rfl; have hcz43_3 : w42.cell? ⟨gb719, 3, none⟩ = some (.int .i64 0) := (blk_cell BK719.out 3).trans rfl; have hcz43_4 : w42.cell? ⟨gb719, 4, none⟩ = some (.int .i64 0) := (blk_cell BK719.out 4).trans rfl; have hcz43_5 : w42.cell? ⟨gb719, 5, none⟩ = some (.int .i64 0) := (blk_cell BK719.out 5).trans rfl; have hl43_0 : ∀ v0 v1 v2 v3 v4 v5 u0 : Value, (((((((w42.setCell ⟨gb719, 0, none⟩ v0).setCell ⟨gb719, 1, none⟩ v1).setCell ⟨gb719, 2, none⟩ v2).setCell ⟨gb719, 3, none⟩ v3).setCell ⟨gb719, 4, none⟩ v4).setCell ⟨gb719, 5, none⟩ v5).setCell ⟨gb719, 2, none⟩ u0).cell? ⟨gb719, 2, none⟩ = some u0 := fun v0 v1 v2 v3 v4 v5 u0 => (blk_cell (blk_set (blk_set (blk_set (blk_set (blk_set (blk_set (blk_set BK719.out 0 v0) 1 v1) 2 v2) 3 v3) 4 v4) 5 v5) 2 u0) 2).trans (by simp); have hl43_1 : ∀ v0 v1 v2 v3 v4 v5 u0 u1 : Value, ((((((((w42.setCell ⟨gb719, 0, none⟩ v0).setCell ⟨gb719, 1, none⟩ v1).setCell ⟨gb719, 2, none⟩ v2).setCell ⟨gb719, 3, none⟩ v3).setCell ⟨gb719, 4, none⟩ v4).setCell ⟨gb719, 5, none⟩ v5).setCell ⟨gb719, 2, none⟩ u0).setCell ⟨gb719, 4, none⟩ u1).cell? ⟨gb719, 4, none⟩ = some u1 := fun v0 v1 v2 v3 v4 v5 u0 u1 => (blk_cell (blk_set (blk_set (blk_set (blk_set (blk_set (blk_set (blk_set (blk_set BK719.out 0 v0) 1 v1) 2 v2) 3 v3) 4 v4) 5 v5) 2 u0) 4 u1) 4).trans (by simp); have hl43_2 : ∀ v0 v1 v2 v3 v4 v5 u0 : Value, (((((((w42.setCell ⟨gb719, 0, none⟩ v0).setCell ⟨gb719, 1, none⟩ v1).setCell ⟨gb719, 2, none⟩ v2).setCell ⟨gb719, 3, none⟩ v3).setCell ⟨gb719, 4, none⟩ v4).setCell ⟨gb719, 5, none⟩ v5).setCell ⟨gb719, 5, none⟩ u0).cell? ⟨gb719, 5, none⟩ = some u0 := fun v0 v1 v2 v3 v4 v5 u0 => (blk_cell (blk_set (blk_set (blk_set (blk_set (blk_set (blk_set (blk_set BK719.out 0 v0) 1 v1) 2 v2) 3 v3) 4 v4) 5 v5) 5 u0) 5).trans (by simp); have hfz43_0 := blk_frozen BK719.out 0; have hfz43_1 := blk_frozen BK719.out 1; have hfz43_2 := blk_frozen BK719.out 2; have hfz43_3 := blk_frozen BK719.out 3; have hfz43_4 := blk_frozen BK719.out 4; have hfz43_5 := blk_frozen BK719.out 5) | ((with_reducible refine gate_dst (N := 14) rfl ?_); refine box_event ?hg (N := 14) ?hd (cs := #[.int .i64 0, .int .i64 0, .int .i64 0, .int .i64 0, .int .i64 0, .int .i64 0]) (t := 30) ?hr ?_; (case hd => rfl); (case hg => rfl); (case hr => first | (go_simp; done) | (go_simp; rfl)); intro gb727 hg w44 hbox hb; have n0_ := Aside0.mk (blk_below (g := gb719) (o := .cells #[.int .i64 ((rd_T30 l0 t711).f0), .int .i64 ((rd_T30 l0 t711).f1), .int .i64 ((rd_T30 l0 t711).f2), .int .i64 ((rd_T30 l0 t711).f3), .int .i64 ((rd_T30 l0 t711).f4), .int .i64 ((rd_T30 l0 t711).f5)] 30 (0, 0)) (by (with_reducible repeat (first | refine blk_drewN ?_ _ | refine blk_drew ?_ | refine blk_alloc ?_ _)); refine blk_put (cs := #[.int .i64 ((rd_T30 l0 t711).f0), .int .i64 ((rd_T30 l0 t711).f1), .int .i64 ((rd_T30 l0 t711).f2), .int .i64 ((rd_T30 l0 t711).f3), .int .i64 ((rd_T30 l0 t711).f4), .int .i64 0]) ?_ 5 _ rfl; (with_reducible repeat (first | refine blk_drewN ?_ _ | refine blk_drew ?_ | refine blk_alloc ?_ _)); refine blk_put (cs := #[.int .i64 ((rd_T30 l0 t711).f0), .int .i64 ((rd_T30 l0 t711).f1), .int .i64 ((rd_T30 l0 t711).f2), .int .i64 ((rd_T30 l0 t711).f3), .int .i64 0, .int .i64 0]) ?_ 4 _ rfl; (with_reducible repeat (first | refine blk_drewN ?_ _ | refine blk_drew ?_ | refine blk_alloc ?_ _)); refine blk_put (cs := #[.int .i64 ((rd_T30 l0 t711).f0), .int .i64 ((rd_T30 l0 t711).f1), .int .i64 ((rd_T30 l0 t711).f2), .int .i64 0, .int .i64 0, .int .i64 0]) ?_ 3 _ rfl; (with_reducible repeat (first | refine blk_drewN ?_ _ | refine blk_drew ?_ | refine blk_alloc ?_ _)); refine blk_put (cs := #[.int .i64 ((rd_T30 l0 t711).f0), .int .i64 ((rd_T30 l0 t711).f1), .int .i64 0, .int .i64 0, .int .i64 0, .int .i64 0]) ?_ 2 _ rfl; (with_reducible repeat (first | refine blk_drewN ?_ _ | refine blk_drew ?_ | refine blk_alloc ?_ _)); refine blk_put (cs := #[.int .i64 ((rd_T30 l0 t711).f0), .int .i64 0, .int .i64 0, .int .i64 0, .int .i64 0, .int .i64 0]) ?_ 1 _ rfl; (with_reducible repeat (first | refine blk_drewN ?_ _ | refine blk_drew ?_ | refine blk_alloc ?_ _)); refine blk_put (cs := #[.int .i64 0, .int .i64 0, .int .i64 0, .int .i64 0, .int .i64 0, .int .i64 0]) ?_ 0 _ rfl; (with_reducible repeat (first | refine blk_drewN ?_ _ | refine blk_drew ?_ | refine blk_alloc ?_ _)); exact BK719.out) hb); have n1_ := Aside0.mk (below_step (by repeat (first | (with_reducible first | exact HB.out | apply below_alloc | apply pw_below_drewN | apply below_drew1 | refine below_set ?_ GE719.out) | exact HB.out)) hb); have n2_ := Aside0.mk (hbox); have n3_ := Aside0.mk ((by rw [hg]; exact (below_size (by repeat (first | (with_reducible first | exact HB.out | apply below_alloc | apply pw_below_drewN | apply below_drew1 | refine below_set ?_ GE719.out) | exact HB.out))) : w.heap.size ≤ gb727)); have n4_ := Aside0.mk ((by rw [hg]; exact (below_size (by repeat (first | (with_reducible first | exact HB.out | apply below_alloc | apply pw_below_drewN | apply below_drew1 | refine below_set ?_ GE719.out) | exact HB.out))) : w.heap.size ≤ gb727)); have n5_ := Aside0.mk ((by rw [hg]; exact Nat.ne_of_lt (blk_lt (g := gb719) (o := .cells #[.int .i64 ((rd_T30 l0 t711).f0), .int .i64 ((rd_T30 l0 t711).f1), .int .i64 ((rd_T30 l0 t711).f2), .int .i64 ((rd_T30 l0 t711).f3), .int .i64 ((rd_T30 l0 t711).f4), .int .i64 ((rd_T30 l0 t711).f5)] 30 (0, 0)) (by (with_reducible repeat (first | refine blk_drewN ?_ _ | refine blk_drew ?_ | refine blk_alloc ?_ _)); refine blk_put (cs := #[.int .i64 ((rd_T30 l0 t711).f0), .int .i64 ((rd_T30 l0 t711).f1), .int .i64 ((rd_T30 l0 t711).f2), .int .i64 ((rd_T30 l0 t711).f3), .int .i64 ((rd_T30 l0 t711).f4), .int .i64 0]) ?_ 5 _ rfl; (with_reducible repeat (first | refine blk_drewN ?_ _ | refine blk_drew ?_ | refine blk_alloc ?_ _)); refine blk_put (cs := #[.int .i64 ((rd_T30 l0 t711).f0), .int .i64 ((rd_T30 l0 t711).f1), .int .i64 ((rd_T30 l0 t711).f2), .int .i64 ((rd_T30 l0 t711).f3), .int .i64 0, .int .i64 0]) ?_ 4 _ rfl; (with_reducible repeat (first | refine blk_drewN ?_ _ | refine blk_drew ?_ | refine blk_alloc ?_ _)); refine blk_put (cs := #[.int .i64 ((rd_T30 l0 t711).f0), .int .i64 ((rd_T30 l0 t711).f1), .int .i64 ((rd_T30 l0 t711).f2), .int .i64 0, .int .i64 0, .int .i64 0]) ?_ 3 _ rfl; (with_reducible repeat (first | refine blk_drewN ?_ _ | refine blk_drew ?_ | refine blk_alloc ?_ _)); refine blk_put (cs := #[.int .i64 ((rd_T30 l0 t711).f0), .int .i64 ((rd_T30 l0 t711).f1), .int .i64 0, .int .i64 0, .int .i64 0, .int .i64 0]) ?_ 2 _ rfl; (with_reducible repeat (first | refine blk_drewN ?_ _ | refine blk_drew ?_ | refine blk_alloc ?_ _)); refine blk_put (cs := #[.int .i64 ((rd_T30 l0 t711).f0), .int .i64 0, .int .i64 0, .int .i64 0, .int .i64 0, .int .i64 0]) ?_ 1 _ rfl; (with_reducible repeat (first | refine blk_drewN ?_ _ | refine blk_drew ?_ | refine blk_alloc ?_ _)); refine blk_put (cs := #[.int .i64 0, .int .i64 0, .int .i64 0, .int .i64 0, .int .i64 0, .int .i64 0]) ?_ 0 _ rfl; (with_reducible repeat (first | refine blk_drewN ?_ _ | refine blk_drew ?_ | refine blk_alloc ?_ _)); exact BK719.out)) : gb719 ≠ gb727)); have n6_ := Aside0.mk ((by rw [hg]; exact Nat.ne_of_gt (blk_lt (g := gb719) (o := .cells #[.int .i64 ((rd_T30 l0 t711).f0), .int .i64 ((rd_T30 l0 t711).f1), .int .i64 ((rd_T30 l0 t711).f2), .int .i64 ((rd_T30 l0 t711).f3), .int .i64 ((rd_T30 l0 t711).f4), .int .i64 ((rd_T30 l0 t711).f5)] 30 (0, 0)) (by (with_reducible repeat (first | refine blk_drewN ?_ _ | refine blk_drew ?_ | refine blk_alloc ?_ _)); refine blk_put (cs := #[.int .i64 ((rd_T30 l0 t711).f0), .int .i64 ((rd_T30 l0 t711).f1), .int .i64 ((rd_T30 l0 t711).f2), .int .i64 ((rd_T30 l0 t711).f3), .int .i64 ((rd_T30 l0 t711).f4), .int .i64 0]) ?_ 5 _ rfl; (with_reducible repeat (first | refine blk_drewN ?_ _ | refine blk_drew ?_ | refine blk_alloc ?_ _)); refine blk_put (cs := #[.int .i64 ((rd_T30 l0 t711).f0), .int .i64 ((rd_T30 l0 t711).f1), .int .i64 ((rd_T30 l0 t711).f2), .int .i64 ((rd_T30 l0 t711).f3), .int .i64 0, .int .i64 0]) ?_ 4 _ rfl; (with_reducible repeat (first | refine blk_drewN ?_ _ | refine blk_drew ?_ | refine blk_alloc ?_ _)); refine blk_put (cs := #[.int .i64 ((rd_T30 l0 t711).f0), .int .i64 ((rd_T30 l0 t711).f1), .int .i64 ((rd_T30 l0 t711).f2), .int .i64 0, .int .i64 0, .int .i64 0]) ?_ 3 _ rfl; (with_reducible repeat (first | refine blk_drewN ?_ _ | refine blk_drew ?_ | refine blk_alloc ?_ _)); refine blk_put (cs := #[.int .i64 ((rd_T30 l0 t711).f0), .int .i64 ((rd_T30 l0 t711).f1), .int .i64 0, .int .i64 0, .int .i64 0, .int .i64 0]) ?_ 2 _ rfl; (with_reducible repeat (first | refine blk_drewN ?_ _ | refine blk_drew ?_ | refine blk_alloc ?_ _)); refine blk_put (cs := #[.int .i64 ((rd_T30 l0 t711).f0), .int .i64 0, .int .i64 0, .int .i64 0, .int .i64 0, .int .i64 0]) ?_ 1 _ rfl; (with_reducible repeat (first | refine blk_drewN ?_ _ | refine blk_drew ?_ | refine blk_alloc ?_ _)); refine blk_put (cs := #[.int .i64 0, .int .i64 0, .int .i64 0, .int .i64 0, .int .i64 0, .int .i64 0]) ?_ 0 _ rfl; (with_reducible repeat (first | refine blk_drewN ?_ _ | refine blk_drew ?_ | refine blk_alloc ?_ _)); exact BK719.out)) : gb727 ≠ gb719)); clear BK719; clear HB; have BK719 := n0_; have HB := n1_; have BK727 := n2_; have GW727 := n3_; have GE727 := n4_; have NB719_727 := n5_; have NB727_719 := n6_; clear n0_ n1_ n2_ n3_ n4_ n5_ n6_; clear hb hbox hg; have hnb45 := NB727_719.out; have hnc45 := NB719_727.out; have hcz46_0 : w44.cell? ⟨gb727, 0, none⟩ = some (.int .i64 0) := (blk_cell BK727.out 0).trans rfl; have hcz46_1 : w44.cell? ⟨gb727, 1, none⟩ = some (.int .i64 0) := (blk_cell BK727.out 1).trans rfl; have hcz46_2 : w44.cell? ⟨gb727, 2, none⟩ = some (.int .i64 0) := (blk_cell BK727.out 2).trans rfl; have hcz46_3 : w44.cell? ⟨gb727, 3, none⟩ = some (.int .i64 0) := (blk_cell BK727.out 3).trans rfl; have hcz46_4 : w44.cell? ⟨gb727, 4, none⟩ = some (.int .i64 0) := (blk_cell BK727.out 4).trans rfl; have hcz46_5 : w44.cell? ⟨gb727, 5, none⟩ = some (.int .i64 0) := (blk_cell BK727.out 5).trans rfl; have hl46_0 : ∀ v0 v1 v2 v3 v4 v5 u0 : Value, (((((((w44.setCell ⟨gb727, 0, none⟩ v0).setCell ⟨gb727, 1, none⟩ v1).setCell ⟨gb727, 2, none⟩ v2).setCell ⟨gb727, 3, none⟩ v3).setCell ⟨gb727, 4, none⟩ v4).setCell ⟨gb727, 5, none⟩ v5).setCell ⟨gb727, 2, none⟩ u0).cell? ⟨gb727, 2, none⟩ = some u0 := fun v0 v1 v2 v3 v4 v5 u0 => (blk_cell (blk_set (blk_set (blk_set (blk_set (blk_set (blk_set (blk_set BK727.out 0 v0) 1 v1) 2 v2) 3 v3) 4 v4) 5 v5) 2 u0) 2).trans (by simp); have hl46_1 : ∀ v0 v1 v2 v3 v4 v5 u0 u1 : Value, ((((((((w44.setCell ⟨gb727, 0, none⟩ v0).setCell ⟨gb727, 1, none⟩ v1).setCell ⟨gb727, 2, none⟩ v2).setCell ⟨gb727, 3, none⟩ v3).setCell ⟨gb727, 4, none⟩ v4).setCell ⟨gb727, 5, none⟩ v5).setCell ⟨gb727, 2, none⟩ u0).setCell ⟨gb727, 4, none⟩ u1).cell? ⟨gb727, 4, none⟩ = some u1 := fun v0 v1 v2 v3 v4 v5 u0 u1 => (blk_cell (blk_set (blk_set (blk_set (blk_set (blk_set (blk_set (blk_set (blk_set BK727.out 0 v0) 1 v1) 2 v2) 3 v3) 4 v4) 5 v5) 2 u0) 4 u1) 4).trans (by simp); have hl46_2 : ∀ v0 v1 v2 v3 v4 v5 u0 : Value, (((((((w44.setCell ⟨gb727, 0, none⟩ v0).setCell ⟨gb727, 1, none⟩ v1).setCell ⟨gb727, 2, none⟩ v2).setCell ⟨gb727, 3, none⟩ v3).setCell ⟨gb727, 4, none⟩ v4).setCell ⟨gb727, 5, none⟩ v5).setCell ⟨gb727, 5, none⟩ u0).cell? ⟨gb727, 5, none⟩ = some u0 := fun v0 v1 v2 v3 v4 v5 u0 => (blk_cell (blk_set (blk_set (blk_set (blk_set (blk_set (blk_set (blk_set BK727.out 0 v0) 1 v1) 2 v2) 3 v3) 4 v4) 5 v5) 5 u0) 5).trans (by simp); have hfz46_0 := blk_frozen BK727.out 0; have hfz46_1 := blk_frozen BK727.out 1; have hfz46_2 := blk_frozen BK727.out 2; have hfz46_3 := blk_frozen BK727.out 3; have hfz46_4 := blk_frozen BK727.out 4; have hfz46_5 := blk_frozen BK727.out 5; have hcz47_0 : w44.cell? ⟨gb719, 0, none⟩ = some (.int .i64 ((rd_T30 l0 t711).f0)) := (blk_cell BK719.out 0).trans rfl; have hcz47_1 : w44.cell? ⟨gb719, 1, none⟩ = some (.int .i64 ((rd_T30 l0 t711).f1)) := (blk_cell BK719.out 1).trans rfl; have hcz47_2 : w44.cell? ⟨gb719, 2, none⟩ = some (.int .i64 ((rd_T30 l0 t711).f2)) := (blk_cell BK719.out 2).trans rfl; have hcz47_3 : w44.cell? ⟨gb719, 3, none⟩ = some (.int .i64 ((rd_T30 l0 t711).f3)) := (blk_cell BK719.out 3).trans rfl; have hcz47_4 : w44.cell? ⟨gb719, 4, none⟩ = some (.int .i64 ((rd_T30 l0 t711).f4)) := (blk_cell BK719.out 4).trans rfl; have hcz47_5 : w44.cell? ⟨gb719, 5, none⟩ = some (.int .i64 ((rd_T30 l0 t711).f5)) := (blk_cell BK719.out 5).trans rfl; have hfz47_0 := blk_frozen BK719.out 0; have hfz47_1 := blk_frozen BK719.out 1; have hfz47_2 := blk_frozen BK719.out 2; have hfz47_3 := blk_frozen BK719.out 3; have hfz47_4 := blk_frozen BK719.out 4; have hfz47_5 := blk_frozen BK719.out 5))
        have n0_ : Aside0 ((((((((((w44.setCell ⟨gb727, 0, none⟩ (.int .i64 ((rd_T30 l0 t711).f0))).setCell ⟨gb727, 1, none⟩ (.int .i64 ((rd_T30 l0 t711).f1))).setCell ⟨gb727, 2, none⟩ (.int .i64 ((rd_T30 l0 t711).f2))).setCell ⟨gb727, 3, none⟩ (.int .i64 ((rd_T30 l0 t711).f3))).setCell ⟨gb727, 4, none⟩ (.int .i64 ((rd_T30 l0 t711).f4))).setCell ⟨gb727, 5, none⟩ (.int .i64 ((rd_T30 l0 t711).f5))).setCell ⟨gb727, 2, none⟩ (.int .i64 a2)).setCell ⟨gb727, 4, none⟩ (.int .i64 a3)).setCell ⟨gb719, 5, none⟩ (.int .i64 a3)).heap[gb719]? = some (.cells #[.int .i64 ((rd_T30 l0 t711).f0), .int .i64 ((rd_T30 l0 t711).f1), .int .i64 ((rd_T30 l0 t711).f2), .int .i64 ((rd_T30 l0 t711).f3), .int .i64 ((rd_T30 l0 t711).f4), .int .i64 a3] 30 (0, 0))) := ⟨by (with_reducible repeat (first | refine blk_drewN ?_ _ | refine blk_drew ?_ | refine blk_alloc ?_ _)); refine blk_put (cs := #[.int .i64 ((rd_T30 l0 t711).f0), .int .i64 ((rd_T30 l0 t711).f1), .int .i64 ((rd_T30 l0 t711).f2), .int .i64 ((rd_T30 l0 t711).f3), .int .i64 ((rd_T30 l0 t711).f4), .int .i64 ((rd_T30 l0 t711).f5)]) ?_ 5 _ rfl; (with_reducible repeat (first | refine blk_drewN ?_ _ | refine blk_drew ?_ | refine blk_alloc ?_ _)); refine blk_far ?_ NB719_727.out _; (with_reducible repeat (first | refine blk_drewN ?_ _ | refine blk_drew ?_ | refine blk_alloc ?_ _)); refine blk_far ?_ NB719_727.out _; (with_reducible repeat (first | refine blk_drewN ?_ _ | refine blk_drew ?_ | refine blk_alloc ?_ _)); refine blk_far ?_ NB719_727.out _; (with_reducible repeat (first | refine blk_drewN ?_ _ | refine blk_drew ?_ | refine blk_alloc ?_ _)); refine blk_far ?_ NB719_727.out _; (with_reducible repeat (first | refine blk_drewN ?_ _ | refine blk_drew ?_ | refine blk_alloc ?_ _)); refine blk_far ?_ NB719_727.out _; (with_reducible repeat (first | refine blk_drewN ?_ _ | refine blk_drew ?_ | refine blk_alloc ?_ _)); refine blk_far ?_ NB719_727.out _; (with_reducible repeat (first | refine blk_drewN ?_ _ | refine blk_drew ?_ | refine blk_alloc ?_ _)); refine blk_far ?_ NB719_727.out _; (with_reducible repeat (first | refine blk_drewN ?_ _ | refine blk_drew ?_ | refine blk_alloc ?_ _)); refine blk_far ?_ NB719_727.out _; (with_reducible repeat (first | refine blk_drewN ?_ _ | refine blk_drew ?_ | refine blk_alloc ?_ _)); exact BK719.out⟩
        have n1_ : Aside0 ((((((((((w44.setCell ⟨gb727, 0, none⟩ (.int .i64 ((rd_T30 l0 t711).f0))).setCell ⟨gb727, 1, none⟩ (.int .i64 ((rd_T30 l0 t711).f1))).setCell ⟨gb727, 2, none⟩ (.int .i64 ((rd_T30 l0 t711).f2))).setCell ⟨gb727, 3, none⟩ (.int .i64 ((rd_T30 l0 t711).f3))).setCell ⟨gb727, 4, none⟩ (.int .i64 ((rd_T30 l0 t711).f4))).setCell ⟨gb727, 5, none⟩ (.int .i64 ((rd_T30 l0 t711).f5))).setCell ⟨gb727, 2, none⟩ (.int .i64 a2)).setCell ⟨gb727, 4, none⟩ (.int .i64 a3)).setCell ⟨gb719, 5, none⟩ (.int .i64 a3)).heap[gb727]? = some (.cells #[.int .i64 ((rd_T30 l0 t711).f0), .int .i64 ((rd_T30 l0 t711).f1), .int .i64 a2, .int .i64 ((rd_T30 l0 t711).f3), .int .i64 a3, .int .i64 ((rd_T30 l0 t711).f5)] 30 (0, 0))) := ⟨by (with_reducible repeat (first | refine blk_drewN ?_ _ | refine blk_drew ?_ | refine blk_alloc ?_ _)); refine blk_far ?_ NB727_719.out _; (with_reducible repeat (first | refine blk_drewN ?_ _ | refine blk_drew ?_ | refine blk_alloc ?_ _)); refine blk_put (cs := #[.int .i64 ((rd_T30 l0 t711).f0), .int .i64 ((rd_T30 l0 t711).f1), .int .i64 a2, .int .i64 ((rd_T30 l0 t711).f3), .int .i64 ((rd_T30 l0 t711).f4), .int .i64 ((rd_T30 l0 t711).f5)]) ?_ 4 _ rfl; (with_reducible repeat (first | refine blk_drewN ?_ _ | refine blk_drew ?_ | refine blk_alloc ?_ _)); refine blk_put (cs := #[.int .i64 ((rd_T30 l0 t711).f0), .int .i64 ((rd_T30 l0 t711).f1), .int .i64 ((rd_T30 l0 t711).f2), .int .i64 ((rd_T30 l0 t711).f3), .int .i64 ((rd_T30 l0 t711).f4), .int .i64 ((rd_T30 l0 t711).f5)]) ?_ 2 _ rfl; (with_reducible repeat (first | refine blk_drewN ?_ _ | refine blk_drew ?_ | refine blk_alloc ?_ _)); refine blk_put (cs := #[.int .i64 ((rd_T30 l0 t711).f0), .int .i64 ((rd_T30 l0 t711).f1), .int .i64 ((rd_T30 l0 t711).f2), .int .i64 ((rd_T30 l0 t711).f3), .int .i64 ((rd_T30 l0 t711).f4), .int .i64 0]) ?_ 5 _ rfl; (with_reducible repeat (first | refine blk_drewN ?_ _ | refine blk_drew ?_ | refine blk_alloc ?_ _)); refine blk_put (cs := #[.int .i64 ((rd_T30 l0 t711).f0), .int .i64 ((rd_T30 l0 t711).f1), .int .i64 ((rd_T30 l0 t711).f2), .int .i64 ((rd_T30 l0 t711).f3), .int .i64 0, .int .i64 0]) ?_ 4 _ rfl; (with_reducible repeat (first | refine blk_drewN ?_ _ | refine blk_drew ?_ | refine blk_alloc ?_ _)); refine blk_put (cs := #[.int .i64 ((rd_T30 l0 t711).f0), .int .i64 ((rd_T30 l0 t711).f1), .int .i64 ((rd_T30 l0 t711).f2), .int .i64 0, .int .i64 0, .int .i64 0]) ?_ 3 _ rfl; (with_reducible repeat (first | refine blk_drewN ?_ _ | refine blk_drew ?_ | refine blk_alloc ?_ _)); refine blk_put (cs := #[.int .i64 ((rd_T30 l0 t711).f0), .int .i64 ((rd_T30 l0 t711).f1), .int .i64 0, .int .i64 0, .int .i64 0, .int .i64 0]) ?_ 2 _ rfl; (with_reducible repeat (first | refine blk_drewN ?_ _ | refine blk_drew ?_ | refine blk_alloc ?_ _)); refine blk_put (cs := #[.int .i64 ((rd_T30 l0 t711).f0), .int .i64 0, .int .i64 0, .int .i64 0, .int .i64 0, .int .i64 0]) ?_ 1 _ rfl; (with_reducible repeat (first | refine blk_drewN ?_ _ | refine blk_drew ?_ | refine blk_alloc ?_ _)); refine blk_put (cs := #[.int .i64 0, .int .i64 0, .int .i64 0, .int .i64 0, .int .i64 0, .int .i64 0]) ?_ 0 _ rfl; (with_reducible repeat (first | refine blk_drewN ?_ _ | refine blk_drew ?_ | refine blk_alloc ?_ _)); exact BK727.out⟩
        have n2_ : Aside0 (Below w.heap.size w (((((((((w44.setCell ⟨gb727, 0, none⟩ (.int .i64 ((rd_T30 l0 t711).f0))).setCell ⟨gb727, 1, none⟩ (.int .i64 ((rd_T30 l0 t711).f1))).setCell ⟨gb727, 2, none⟩ (.int .i64 ((rd_T30 l0 t711).f2))).setCell ⟨gb727, 3, none⟩ (.int .i64 ((rd_T30 l0 t711).f3))).setCell ⟨gb727, 4, none⟩ (.int .i64 ((rd_T30 l0 t711).f4))).setCell ⟨gb727, 5, none⟩ (.int .i64 ((rd_T30 l0 t711).f5))).setCell ⟨gb727, 2, none⟩ (.int .i64 a2)).setCell ⟨gb727, 4, none⟩ (.int .i64 a3)).setCell ⟨gb719, 5, none⟩ (.int .i64 a3))) := ⟨by repeat (first | (with_reducible first | exact HB.out | apply below_alloc | apply pw_below_drewN | apply below_drew1 | refine below_set ?_ GE719.out | refine below_set ?_ GE727.out) | exact HB.out)⟩
        (try clear BK719)
        (try clear BK727)
        (try clear HB)
        generalize (((((((((w44.setCell ⟨gb727, 0, none⟩ (.int .i64 ((rd_T30 l0 t711).f0))).setCell ⟨gb727, 1, none⟩ (.int .i64 ((rd_T30 l0 t711).f1))).setCell ⟨gb727, 2, none⟩ (.int .i64 ((rd_T30 l0 t711).f2))).setCell ⟨gb727, 3, none⟩ (.int .i64 ((rd_T30 l0 t711).f3))).setCell ⟨gb727, 4, none⟩ (.int .i64 ((rd_T30 l0 t711).f4))).setCell ⟨gb727, 5, none⟩ (.int .i64 ((rd_T30 l0 t711).f5))).setCell ⟨gb727, 2, none⟩ (.int .i64 a2)).setCell ⟨gb727, 4, none⟩ (.int .i64 a3)).setCell ⟨gb719, 5, none⟩ (.int .i64 a3)) = w48 at n0_ n1_ n2_ ⊢
        have BK719 := n0_
        have BK727 := n1_
        have HB := n2_
        clear n0_ n1_ n2_
        have n0_ := Aside0.mk (blk_drew BK719.out)
        have n1_ := Aside0.mk (blk_drew BK727.out)
        have n2_ := Aside0.mk (below_drew1 HB.out)
        clear BK719
        clear BK727
        clear HB
        have BK719 := n0_
        have BK727 := n1_
        have HB := n2_
        clear n0_ n1_ n2_
        refine start_ (n := 11) (S := fun w' => w'.cell? ⟨gb719, 0, none⟩ = some (.int .i64 ((rd_T30 l0 t711).f0)) ∧ w'.cell? ⟨gb719, 1, none⟩ = some (.int .i64 ((rd_T30 l0 t711).f1)) ∧ w'.cell? ⟨gb719, 2, none⟩ = some (.int .i64 ((rd_T30 l0 t711).f2)) ∧ w'.cell? ⟨gb719, 3, none⟩ = some (.int .i64 ((rd_T30 l0 t711).f3)) ∧ w'.cell? ⟨gb719, 4, none⟩ = some (.int .i64 ((rd_T30 l0 t711).f4)) ∧ w'.cell? ⟨gb719, 5, none⟩ = some (.int .i64 a3) ∧ w'.cell? ⟨gb727, 0, none⟩ = some (.int .i64 ((rd_T30 l0 t711).f0)) ∧ w'.cell? ⟨gb727, 1, none⟩ = some (.int .i64 ((rd_T30 l0 t711).f1)) ∧ w'.cell? ⟨gb727, 2, none⟩ = some (.int .i64 a2) ∧ w'.cell? ⟨gb727, 3, none⟩ = some (.int .i64 ((rd_T30 l0 t711).f3)) ∧ w'.cell? ⟨gb727, 4, none⟩ = some (.int .i64 a3) ∧ w'.cell? ⟨gb727, 5, none⟩ = some (.int .i64 ((rd_T30 l0 t711).f5))) (ds := []) #[false, false, false, false, false, false, false, false, false, false, false] (by kernel_rfl) rfl rfl ⟨(blk_cell BK719.out 0).trans rfl, (blk_cell BK719.out 1).trans rfl, (blk_cell BK719.out 2).trans rfl, (blk_cell BK719.out 3).trans rfl, (blk_cell BK719.out 4).trans rfl, (blk_cell BK719.out 5).trans rfl, (blk_cell BK727.out 0).trans rfl, (blk_cell BK727.out 1).trans rfl, (blk_cell BK727.out 2).trans rfl, (blk_cell BK727.out 3).trans rfl, (blk_cell BK727.out 4).trans rfl, (blk_cell BK727.out 5).trans rfl⟩ (fun hHeld => ?_); refine with_tabW spec_ChangeLevel.tab13 spec_ChangeLevel.bits13 (fun HT_ HW_ => ?_)
        generalize w48.drew = w49 at BK719 BK727 HB hHeld ⊢
        refine pure_ (i := 0) (N := some 67) (v := ?_) (a' := ?_) #[true, false, false, false, false, false, false, false, false, false, false] rfl rfl (any_of HT_.out (by kernel_rfl)) (fun _ _ _ h => h) (Or.inl ⟨by rfl, ?_⟩) ?_ ?_
        rotate_left
        ·
         intro w'
         go_simp
         with_reducible rfl
        rotate_left
        ·
         simp only [Act.put, List.setIfInBounds_toArray, List.set_cons_zero, List.set_cons_succ, i64_w, i32_w]
         rfl
        refine pure_ (i := 1) (N := some 68) (v := ?_) (a' := ?_) #[true, true, false, false, false, false, false, false, false, false, false] rfl rfl (any_of HT_.out (by kernel_rfl)) (fun _ _ _ h => h) (Or.inl ⟨by rfl, ?_⟩) ?_ ?_
        rotate_left
        ·
         intro w'
         go_simp
         with_reducible rfl
        rotate_left
        ·
         simp only [Act.put, List.setIfInBounds_toArray, List.set_cons_zero, List.set_cons_succ, i64_w, i32_w]
         rfl
        refine take_ (i := 2) (N := some 69) (v := ?_) (a' := ?_) #[true, true, true, false, false, false, false, false, false, false, false] rfl rfl (take_ofW HT_.out HW_.out (by kernel_rfl)) (fun _ _ _ h => h) (Or.inl ⟨by rfl, ?_⟩) hHeld ?_ ?_
        rotate_left
        ·
         rintro w' ⟨s0, s1, s2, s3, s4, s5, s6, s7, s8, s9, s10, s11⟩
         go_simp
         with_reducible rfl
        rotate_left
        ·
         simp only [Act.put, List.setIfInBounds_toArray, List.set_cons_zero, List.set_cons_succ, i64_w, i32_w]
         rfl
        refine take_ (i := 4) (N := some 71) (v := ?_) (a' := ?_) #[true, true, true, false, true, false, false, false, false, false, false] rfl rfl (take_ofW HT_.out HW_.out (by kernel_rfl)) (fun _ _ _ h => h) (Or.inl ⟨by rfl, ?_⟩) hHeld ?_ ?_
        rotate_left
        ·
         rintro w' ⟨s0, s1, s2, s3, s4, s5, s6, s7, s8, s9, s10, s11⟩
         go_simp
         with_reducible rfl
        rotate_left
        ·
         simp only [Act.put, List.setIfInBounds_toArray, List.set_cons_zero, List.set_cons_succ, i64_w, i32_w]
         rfl
        refine one_ (i := 3) (N := some 70) #[true, true, true, true, true, false, false, false, false, false, false] rfl rfl (one_of HT_.out (by kernel_rfl)) (by decide) (fun K hK => ?_)
        refine goes_ Try.func62 (by kernel_rfl) rfl #[.slice (some ad718) l0.length c0, .int .i64 t711, .agg #[.int .i64 ((rd_T30 l0 t711).f0), .int .i64 ((rd_T30 l0 t711).f1), .int .i64 ((rd_T30 l0 t711).f2), .int .i64 ((rd_T30 l0 t711).f3), .int .i64 ((rd_T30 l0 t711).f4), .int .i64 a3]] (by rfl) rfl rfl (by (try simp only [List.map_toArray, List.map_cons, List.map_nil]); first | done | rfl | (simp only [List.length_drop, List.length_take]; rfl)) ?_
        with_reducible refine (spec_l14With.calls _ _ l0 t711 ((rd_T30 l0 t711).f0) ((rd_T30 l0 t711).f1) ((rd_T30 l0 t711).f2) ((rd_T30 l0 t711).f3) ((rd_T30 l0 t711).f4) a3 t728 _ ?side1 ?side2 A38.out).mono ?_
        (case side1 => repeat (first | exact (Kd.C_below HR0.out HB.out) | (with_reducible refine Kd.C_alloc ?_ _) | (with_reducible refine Kd.C_drewN ?_ _) | (with_reducible refine Kd.C_drew ?_)))
        (case side2 => exact HC0.out)
        rintro e w50 ⟨v729, rfl, ho0, hb⟩
        refine ⟨_, rfl, ?_⟩
        have n0_ := Aside0.mk (Kd.R_lower (Kd.R_newB (Kd.R_newB ho0 (g := gb719) (o := .cells #[.int .i64 ((rd_T30 l0 t711).f0), .int .i64 ((rd_T30 l0 t711).f1), .int .i64 ((rd_T30 l0 t711).f2), .int .i64 ((rd_T30 l0 t711).f3), .int .i64 ((rd_T30 l0 t711).f4), .int .i64 a3] 30 (0, 0)) (by (with_reducible repeat (first | refine blk_drewN ?_ _ | refine blk_drew ?_ | refine blk_alloc ?_ _)); exact BK719.out)) (g := gb727) (o := .cells #[.int .i64 ((rd_T30 l0 t711).f0), .int .i64 ((rd_T30 l0 t711).f1), .int .i64 a2, .int .i64 ((rd_T30 l0 t711).f3), .int .i64 a3, .int .i64 ((rd_T30 l0 t711).f5)] 30 (0, 0)) (by (with_reducible repeat (first | refine blk_drewN ?_ _ | refine blk_drew ?_ | refine blk_alloc ?_ _)); exact BK727.out)) (below_size (by repeat (first | (with_reducible first | exact HB.out | apply below_alloc | apply pw_below_drewN | apply below_drew1 | refine below_set ?_ GE719.out | refine below_set ?_ GE727.out) | exact HB.out))))
        have n1_ := Aside0.mk (blk_below (g := gb719) (o := .cells #[.int .i64 ((rd_T30 l0 t711).f0), .int .i64 ((rd_T30 l0 t711).f1), .int .i64 ((rd_T30 l0 t711).f2), .int .i64 ((rd_T30 l0 t711).f3), .int .i64 ((rd_T30 l0 t711).f4), .int .i64 a3] 30 (0, 0)) (by (with_reducible repeat (first | refine blk_drewN ?_ _ | refine blk_drew ?_ | refine blk_alloc ?_ _)); exact BK719.out) hb)
        have n2_ := Aside0.mk (blk_below (g := gb727) (o := .cells #[.int .i64 ((rd_T30 l0 t711).f0), .int .i64 ((rd_T30 l0 t711).f1), .int .i64 a2, .int .i64 ((rd_T30 l0 t711).f3), .int .i64 a3, .int .i64 ((rd_T30 l0 t711).f5)] 30 (0, 0)) (by (with_reducible repeat (first | refine blk_drewN ?_ _ | refine blk_drew ?_ | refine blk_alloc ?_ _)); exact BK727.out) hb)
        have n3_ := Aside0.mk (below_step (by repeat (first | (with_reducible first | exact HB.out | apply below_alloc | apply pw_below_drewN | apply below_drew1 | refine below_set ?_ GE719.out | refine below_set ?_ GE727.out) | exact HB.out)) hb)
        clear BK719
        clear BK727
        clear HB
        have HO730 := n0_
        have BK719 := n1_
        have BK727 := n2_
        have HB := n3_
        clear n0_ n1_ n2_ n3_
        (try clear hb)
        (try clear hb2)
        (try clear hk)
        (try clear hi)
        (try clear ho0)
        obtain ⟨Ao51, co51, eo51⟩ := Kd.R_slice HO730.out
        (first | subst eo51 | (injection eo51 with f1_ f2_ f3_; have f4_ := f1_.symm; have f5_ := f3_.symm; clear f1_ f2_ f3_; subst f4_; subst f5_))
        refine hK.out _ _ ⟨(blk_cell BK719.out 0).trans rfl, (blk_cell BK719.out 1).trans rfl, (blk_cell BK719.out 2).trans rfl, (blk_cell BK719.out 3).trans rfl, (blk_cell BK719.out 4).trans rfl, (blk_cell BK719.out 5).trans rfl, (blk_cell BK727.out 0).trans rfl, (blk_cell BK727.out 1).trans rfl, (blk_cell BK727.out 2).trans rfl, (blk_cell BK727.out 3).trans rfl, (blk_cell BK727.out 4).trans rfl, (blk_cell BK727.out 5).trans rfl⟩ (fun hHeld => ?_)
        clear hK K
        refine norm_ (a' := ?_) ?_ ?_
        rotate_left
        ·
         show Act.put _ (some 70) _ = _
         simp only [Act.put, List.setIfInBounds_toArray, List.set_cons_zero, List.set_cons_succ, i64_w, i32_w]
         rfl
        refine one_ (i := 5) (N := some 72) #[true, true, true, true, true, true, false, false, false, false, false] rfl rfl (one_of HT_.out (by kernel_rfl)) (by decide) (fun K hK => ?_)
        refine goes_ Try.func56 (by kernel_rfl) rfl #[.slice Ao51 t728.length co51, .agg #[.int .i64 ((rd_T30 l0 t711).f0), .int .i64 ((rd_T30 l0 t711).f1), .int .i64 a2, .int .i64 ((rd_T30 l0 t711).f3), .int .i64 a3, .int .i64 ((rd_T30 l0 t711).f5)]] (by rfl) rfl rfl (by (try simp only [List.map_toArray, List.map_cons, List.map_nil]); first | done | rfl | (simp only [List.length_drop, List.length_take]; rfl)) ?_
        with_reducible refine (spec_l14Issue.calls _ _ t728 ((rd_T30 l0 t711).f0) ((rd_T30 l0 t711).f1) a2 ((rd_T30 l0 t711).f3) a3 ((rd_T30 l0 t711).f5) t731 t734 _ ?side1 ?side2 A39.out).mono ?_
        (case side1 => repeat (first | exact (Kd.R_reads' HO730.out).2.2 | (with_reducible refine Kd.C_alloc ?_ _) | (with_reducible refine Kd.C_drewN ?_ _) | (with_reducible refine Kd.C_drew ?_)))
        (case side2 => exact (Kd.R_reads' HO730.out).2.1)
        rintro e w52 ⟨v732, rfl, ho0, hb⟩
        refine ⟨_, rfl, ?_⟩
        have n0_ := Aside0.mk (Kd.R_elder' (by (with_reducible repeat (first | apply Kd.R_alloc | apply Kd.R_drewN | apply Kd.R_drew)); exact HO730.out) (Kd.R_base ho0) hb)
        have n1_ := Aside0.mk (Kd.R_lower (Kd.R_newB (Kd.R_newB (Kd.R_new' ho0 (Kd.R_lt (by (with_reducible repeat (first | apply Kd.R_alloc | apply Kd.R_drewN | apply Kd.R_drew)); exact HO730.out))) (g := gb719) (o := .cells #[.int .i64 ((rd_T30 l0 t711).f0), .int .i64 ((rd_T30 l0 t711).f1), .int .i64 ((rd_T30 l0 t711).f2), .int .i64 ((rd_T30 l0 t711).f3), .int .i64 ((rd_T30 l0 t711).f4), .int .i64 a3] 30 (0, 0)) (by (with_reducible repeat (first | refine blk_drewN ?_ _ | refine blk_drew ?_ | refine blk_alloc ?_ _)); exact BK719.out)) (g := gb727) (o := .cells #[.int .i64 ((rd_T30 l0 t711).f0), .int .i64 ((rd_T30 l0 t711).f1), .int .i64 a2, .int .i64 ((rd_T30 l0 t711).f3), .int .i64 a3, .int .i64 ((rd_T30 l0 t711).f5)] 30 (0, 0)) (by (with_reducible repeat (first | refine blk_drewN ?_ _ | refine blk_drew ?_ | refine blk_alloc ?_ _)); exact BK727.out)) (below_size (by repeat (first | (with_reducible first | exact HB.out | apply below_alloc | apply pw_below_drewN | apply below_drew1 | refine below_set ?_ GE719.out | refine below_set ?_ GE727.out) | exact HB.out))))
        have n2_ := Aside0.mk (blk_below (g := gb719) (o := .cells #[.int .i64 ((rd_T30 l0 t711).f0), .int .i64 ((rd_T30 l0 t711).f1), .int .i64 ((rd_T30 l0 t711).f2), .int .i64 ((rd_T30 l0 t711).f3), .int .i64 ((rd_T30 l0 t711).f4), .int .i64 a3] 30 (0, 0)) (by (with_reducible repeat (first | refine blk_drewN ?_ _ | refine blk_drew ?_ | refine blk_alloc ?_ _)); exact BK719.out) hb)
        have n3_ := Aside0.mk (blk_below (g := gb727) (o := .cells #[.int .i64 ((rd_T30 l0 t711).f0), .int .i64 ((rd_T30 l0 t711).f1), .int .i64 a2, .int .i64 ((rd_T30 l0 t711).f3), .int .i64 a3, .int .i64 ((rd_T30 l0 t711).f5)] 30 (0, 0)) (by (with_reducible repeat (first | refine blk_drewN ?_ _ | refine blk_drew ?_ | refine blk_alloc ?_ _)); exact BK727.out) hb)
        have n4_ := Aside0.mk (below_step (by repeat (first | (with_reducible first | exact HB.out | apply below_alloc | apply pw_below_drewN | apply below_drew1 | refine below_set ?_ GE719.out | refine below_set ?_ GE727.out) | exact HB.out)) hb)
        clear HO730
        clear BK719
        clear BK727
        clear HB
        have HO730 := n0_
        have HO733 := n1_
        have BK719 := n2_
        have BK727 := n3_
        have HB := n4_
        clear n0_ n1_ n2_ n3_ n4_
        (try clear hb)
        (try clear hb2)
        (try clear hk)
        (try clear hi)
        (try clear ho0)
        refine hK.out _ _ ⟨(blk_cell BK719.out 0).trans rfl, (blk_cell BK719.out 1).trans rfl, (blk_cell BK719.out 2).trans rfl, (blk_cell BK719.out 3).trans rfl, (blk_cell BK719.out 4).trans rfl, (blk_cell BK719.out 5).trans rfl, (blk_cell BK727.out 0).trans rfl, (blk_cell BK727.out 1).trans rfl, (blk_cell BK727.out 2).trans rfl, (blk_cell BK727.out 3).trans rfl, (blk_cell BK727.out 4).trans rfl, (blk_cell BK727.out 5).trans rfl⟩ (fun hHeld => ?_)
        clear hK K
        refine norm_ (a' := ?_) ?_ ?_
        rotate_left
        ·
         show Act.put _ (some 72) _ = _
         simp only [Act.put, List.setIfInBounds_toArray, List.set_cons_zero, List.set_cons_succ, i64_w, i32_w]
         rfl
        refine pure_ (i := 6) (N := some 66) (v := ?_) (a' := ?_) #[true, true, true, true, true, true, true, false, false, false, false] rfl rfl (any_of HT_.out (by kernel_rfl)) (fun _ _ _ h => h) (Or.inl ⟨by rfl, ?_⟩) ?_ ?_
        rotate_left
        ·
         intro w'
         go_simp
         with_reducible rfl
        rotate_left
        ·
         simp only [Act.put, List.setIfInBounds_toArray, List.set_cons_zero, List.set_cons_succ, i64_w, i32_w]
         rfl
        refine pure_ (i := 7) (N := some 73) (v := ?_) (a' := ?_) #[true, true, true, true, true, true, true, true, false, false, false] rfl rfl (any_of HT_.out (by kernel_rfl)) (fun _ _ _ h => h) (Or.inl ⟨by rfl, ?_⟩) ?_ ?_
        rotate_left
        ·
         intro w'
         go_simp
         with_reducible rfl
        rotate_left
        ·
         simp only [Act.put, List.setIfInBounds_toArray, List.set_cons_zero, List.set_cons_succ, i64_w, i32_w]
         rfl
        refine pure_ (i := 8) (N := some 74) (v := ?_) (a' := ?_) #[true, true, true, true, true, true, true, true, true, false, false] rfl rfl (any_of HT_.out (by kernel_rfl)) (fun _ _ _ h => h) (Or.inl ⟨by rfl, ?_⟩) ?_ ?_
        rotate_left
        ·
         intro w'
         go_simp
         with_reducible rfl
        rotate_left
        ·
         simp only [Act.put, List.setIfInBounds_toArray, List.set_cons_zero, List.set_cons_succ, i64_w, i32_w]
         rfl
        refine pure_ (i := 9) (N := some 13) (v := ?_) (a' := ?_) #[true, true, true, true, true, true, true, true, true, true, false] rfl rfl (any_of HT_.out (by kernel_rfl)) (fun _ _ _ h => h) (Or.inl ⟨by rfl, ?_⟩) ?_ ?_
        rotate_left
        ·
         intro w'
         go_simp
         with_reducible rfl
        rotate_left
        ·
         simp only [Act.put, List.setIfInBounds_toArray, List.set_cons_zero, List.set_cons_succ, i64_w, i32_w]
         rfl
        refine pure_ (i := 10) (N := some 1) (v := ?_) (a' := ?_) #[true, true, true, true, true, true, true, true, true, true, true] rfl rfl (any_of HT_.out (by kernel_rfl)) (fun _ _ _ h => h) (Or.inl ⟨by rfl, ?_⟩) ?_ ?_
        rotate_left
        ·
         intro w'
         go_simp
         with_reducible rfl
        rotate_left
        ·
         simp only [Act.put, List.setIfInBounds_toArray, List.set_cons_zero, List.set_cons_succ, i64_w, i32_w]
         rfl
        refine done_ (done_of HT_.out (by kernel_rfl)) ?_
        obtain ⟨Ao53, co53, eo53⟩ := Kd.R_slice HO733.out
        subst eo53
        try go_wp2_with (first | ((with_reducible refine gate_callee (f := 55) rfl ?_); refine goesL_ (some 76) rfl rfl Try.func55 (by kernel_rfl) rfl #[.slice Ao53 t731.length co53] rfl (by (try simp only [List.map_toArray, List.map_cons, List.map_nil]); first | done | rfl | (simp only [List.length_drop, List.length_take]; rfl)) ?_; (with_reducible refine (spec_l14List.calls kj5 _ _ t731 true _ ?side1 ?side2 A40.out).mono ?_); (case side1 => repeat (first | exact (Kd.R_reads' HO733.out).2.2 | (with_reducible refine Kd.C_alloc ?_ _) | (with_reducible refine Kd.C_drewN ?_ _) | (with_reducible refine Kd.C_drew ?_))); (case side2 => exact (Kd.R_reads' HO733.out).2.1); rintro e w54 ⟨rfl, hb⟩; refine ⟨_, rfl, ?_⟩; have n0_ := Aside0.mk (Kd.R_below (by (with_reducible repeat (first | apply Kd.R_alloc | apply Kd.R_drewN | apply Kd.R_drew)); exact HO730.out) hb); have n1_ := Aside0.mk (Kd.R_below (by (with_reducible repeat (first | apply Kd.R_alloc | apply Kd.R_drewN | apply Kd.R_drew)); exact HO733.out) hb); have n2_ := Aside0.mk (blk_below (g := gb719) (o := .cells #[.int .i64 ((rd_T30 l0 t711).f0), .int .i64 ((rd_T30 l0 t711).f1), .int .i64 ((rd_T30 l0 t711).f2), .int .i64 ((rd_T30 l0 t711).f3), .int .i64 ((rd_T30 l0 t711).f4), .int .i64 a3] 30 (0, 0)) (by (with_reducible repeat (first | refine blk_drewN ?_ _ | refine blk_drew ?_ | refine blk_alloc ?_ _)); exact BK719.out) hb); have n3_ := Aside0.mk (blk_below (g := gb727) (o := .cells #[.int .i64 ((rd_T30 l0 t711).f0), .int .i64 ((rd_T30 l0 t711).f1), .int .i64 a2, .int .i64 ((rd_T30 l0 t711).f3), .int .i64 a3, .int .i64 ((rd_T30 l0 t711).f5)] 30 (0, 0)) (by (with_reducible repeat (first | refine blk_drewN ?_ _ | refine blk_drew ?_ | refine blk_alloc ?_ _)); exact BK727.out) hb); have n4_ := Aside0.mk (below_step (by repeat (first | (with_reducible first | exact HB.out | apply below_alloc | apply pw_below_drewN | apply below_drew1 | refine below_set ?_ GE719.out | refine below_set ?_ GE727.out) | exact HB.out)) hb); clear HO730; clear HO733; clear BK719; clear BK727; clear HB; have HO730 := n0_; have HO733 := n1_; have BK719 := n2_; have BK727 := n3_; have HB := n4_; clear n0_ n1_ n2_ n3_ n4_; (try clear hb); (try clear hb2); (try clear hk); (try clear hi)))
        go_ret3
        exact ⟨_, by first | rfl | (simp [errW_none, errW_some] <;> rfl) | (simp [*, errW_none, errW_some] <;> rfl), by (with_reducible repeat (first | apply Kd.R_alloc | apply Kd.R_drewN | apply Kd.R_drew)); exact Kd.R_mono HO733.out (fun _ hk => trivial), by repeat (first | (with_reducible first | exact HB.out | apply below_alloc | apply pw_below_drewN | apply below_drew1 | refine below_set ?_ GE719.out | refine below_set ?_ GE727.out) | exact HB.out)⟩
       ·
        replace c41 := Bool.eq_false_iff.mpr c41
        subst c41
        have H1 : (some ((([] : List (S30))), 0, false)) = some (r1, r2, r3) := by rw [if_neg (show ¬ (false = true) by decide)] at H; exact H
        clear H
        have H := H1
        clear H1
        obtain ⟨y736, hy736⟩ : ∃ y_ : List (S30), y_ = (([] : List (S30))) := ⟨_, rfl⟩
        replace H : (some (y736, 0, false)) = some (r1, r2, r3) := by first | (rw [hy736]; with_reducible exact H) | (have H2_ := (Option.bind_some _ _).symm.trans H; rw [hy736]; with_reducible exact H2_) | (have H2_ := (Option.bind_some _ _).symm.trans H; with_reducible exact H2_) | with_reducible exact H | (rw [hy736]; exact H) | exact H
        have Ny736 := Aside0.mk hy736
        clear hy736
        simp only [Option.some.injEq, Prod.mk.injEq] at H
        obtain ⟨rfl, rfl, rfl⟩ := H
        have p718 : 0 ≤ (t711 : Int) := of_decide_eq_true (by first | (with_reducible assumption) | assumption)
        have q718 : t711 < (l0.length : Int) := of_decide_eq_true (by first | (with_reducible assumption) | assumption)
        obtain ⟨ad718, e718, hx718_0, hx718_1, hx718_2, hx718_3, hx718_4, hx718_5⟩ := at_T30 HR0.out t711 p718 q718
        cases e718
        replace hx718_0 := (HB.out.cell (World.block_lt_of_cell? w _ hx718_0)).trans hx718_0
        replace hx718_1 := (HB.out.cell (World.block_lt_of_cell? w _ hx718_1)).trans hx718_1
        replace hx718_2 := (HB.out.cell (World.block_lt_of_cell? w _ hx718_2)).trans hx718_2
        replace hx718_3 := (HB.out.cell (World.block_lt_of_cell? w _ hx718_3)).trans hx718_3
        replace hx718_4 := (HB.out.cell (World.block_lt_of_cell? w _ hx718_4)).trans hx718_4
        replace hx718_5 := (HB.out.cell (World.block_lt_of_cell? w _ hx718_5)).trans hx718_5
        replace p718 := eq_true p718
        replace q718 := eq_true q718
        try go_wp2_with (first | ((with_reducible refine gate_dst (N := 12) rfl ?_); refine box_event ?hg (N := 12) ?hd (cs := #[.int .i64 0, .int .i64 0, .int .i64 0, .int .i64 0, .int .i64 0, .int .i64 0]) (t := 30) ?hr ?_; (case hd => rfl); (case hg => rfl); (case hr => first | (go_simp; done) | (go_simp; rfl)); intro gb719 hg w55 hbox hb; have n0_ := Aside0.mk (below_step (by repeat (first | (with_reducible first | exact HB.out | apply below_alloc | apply pw_below_drewN | apply below_drew1) | exact HB.out)) hb); have n1_ := Aside0.mk (hbox); have n2_ := Aside0.mk ((by rw [hg]; exact (below_size (by repeat (first | (with_reducible first | exact HB.out | apply below_alloc | apply pw_below_drewN | apply below_drew1) | exact HB.out))) : w.heap.size ≤ gb719)); have n3_ := Aside0.mk ((by rw [hg]; exact (below_size (by repeat (first | (with_reducible first | exact HB.out | apply below_alloc | apply pw_below_drewN | apply below_drew1) | exact HB.out))) : w.heap.size ≤ gb719)); clear HB; have HB := n0_; have BK719 := n1_; have GW719 := n2_; have GE719 := n3_; clear n0_ n1_ n2_ n3_; clear hb hbox hg; have hcz56_0 : w55.cell? ⟨gb719, 0, none⟩ = some (.int .i64 0) := (blk_cell BK719.out 0).trans rfl; have hcz56_1 : w55.cell? ⟨gb719, 1, none⟩ = some (.int .i64 0) := (blk_cell BK719.out 1).trans rfl; have hcz56_2 : w55.cell? ⟨gb719, 2, none⟩ = some (.int .i64 0) := (blk_cell BK719.out 2).trans rfl; have hcz56_3 : w55.cell? ⟨gb719, 3, none⟩ = some (.int .i64 0) := (blk_cell BK719.out 3).trans rfl; have hcz56_4 : w55.cell? ⟨gb719, 4, none⟩ = some (.int .i64 0) := (blk_cell BK719.out 4).trans rfl; have hcz56_5 : w55.cell? ⟨gb719, 5, none⟩ = some (.int .i64 0) := (blk_cell BK719.out 5).trans rfl; have hl56_0 : ∀ v0 v1 v2 v3 v4 v5 u0 : Value, (((((((w55.setCell ⟨gb719, 0, none⟩ v0).setCell ⟨gb719, 1, none⟩ v1).setCell ⟨gb719, 2, none⟩ v2).setCell ⟨gb719, 3, none⟩ v3).setCell ⟨gb719, 4, none⟩ v4).setCell ⟨gb719, 5, none⟩ v5).setCell ⟨gb719, 2, none⟩ u0).cell? ⟨gb719, 2, none⟩ = some u0 := fun v0 v1 v2 v3 v4 v5 u0 => (blk_cell (blk_set (blk_set (blk_set (blk_set (blk_set (blk_set (blk_set BK719.out 0 v0) 1 v1) 2 v2) 3 v3) 4 v4) 5 v5) 2 u0) 2).trans (by simp); have hl56_1 : ∀ v0 v1 v2 v3 v4 v5 u0 u1 : Value, ((((((((w55.setCell ⟨gb719, 0, none⟩ v0).setCell ⟨gb719, 1, none⟩ v1).setCell ⟨gb719, 2, none⟩ v2).setCell ⟨gb719, 3, none⟩ v3).setCell ⟨gb719, 4, none⟩ v4).setCell ⟨gb719, 5, none⟩ v5).setCell ⟨gb719, 2, none⟩ u0).setCell ⟨gb719, 4, none⟩ u1).cell? ⟨gb719, 4, none⟩ = some u1 := fun v0 v1 v2 v3 v4 v5 u0 u1 => (blk_cell (blk_set (blk_set (blk_set (blk_set (blk_set (blk_set (blk_set (blk_set BK719.out 0 v0) 1 v1) 2 v2) 3 v3) 4 v4) 5 v5) 2 u0) 4 u1) 4).trans (by simp); have hl56_2 : ∀ v0 v1 v2 v3 v4 v5 u0 : Value, (((((((w55.setCell ⟨gb719, 0, none⟩ v0).setCell ⟨gb719, 1, none⟩ v1).setCell ⟨gb719, 2, none⟩ v2).setCell ⟨gb719, 3, none⟩ v3).setCell ⟨gb719, 4, none⟩ v4).setCell ⟨gb719, 5, none⟩ v5).setCell ⟨gb719, 5, none⟩ u0).cell? ⟨gb719, 5, none⟩ = some u0 := fun v0 v1 v2 v3 v4 v5 u0 => (blk_cell (blk_set (blk_set (blk_set (blk_set (blk_set (blk_set (blk_set BK719.out 0 v0) 1 v1) 2 v2) 3 v3) 4 v4) 5 v5) 5 u0) 5).trans (by simp); have hfz56_0 := blk_frozen BK719.out 0; have hfz56_1 := blk_frozen BK719.out 1; have hfz56_2 := blk_frozen BK719.out 2; have hfz56_3 := blk_frozen BK719.out 3; have hfz56_4 := blk_frozen BK719.out 4; have hfz56_5 := blk_frozen BK719.out 5) | ((with_reducible refine gate_dst (N := 14) rfl ?_); refine box_event ?hg (N := 14) ?hd (cs := #[.int .i64 0, .int .i64 0, .int .i64 0, .int .i64 0, .int .i64 0, .int .i64 0]) (t := 30) ?hr ?_; (case hd => rfl); (case hg => rfl); (case hr => first | (go_simp; done) | (go_simp; rfl)); intro gb727 hg w57 hbox hb; have n0_ := Aside0.mk (blk_below (g := gb719) (o := .cells #[.int .i64 ((rd_T30 l0 t711).f0), .int .i64 ((rd_T30 l0 t711).f1), .int .i64 ((rd_T30 l0 t711).f2), .int .i64 ((rd_T30 l0 t711).f3), .int .i64 ((rd_T30 l0 t711).f4), .int .i64 ((rd_T30 l0 t711).f5)] 30 (0, 0)) (by (with_reducible repeat (first | refine blk_drewN ?_ _ | refine blk_drew ?_ | refine blk_alloc ?_ _)); refine blk_put (cs := #[.int .i64 ((rd_T30 l0 t711).f0), .int .i64 ((rd_T30 l0 t711).f1), .int .i64 ((rd_T30 l0 t711).f2), .int .i64 ((rd_T30 l0 t711).f3), .int .i64 ((rd_T30 l0 t711).f4), .int .i64 0]) ?_ 5 _ rfl; (with_reducible repeat (first | refine blk_drewN ?_ _ | refine blk_drew ?_ | refine blk_alloc ?_ _)); refine blk_put (cs := #[.int .i64 ((rd_T30 l0 t711).f0), .int .i64 ((rd_T30 l0 t711).f1), .int .i64 ((rd_T30 l0 t711).f2), .int .i64 ((rd_T30 l0 t711).f3), .int .i64 0, .int .i64 0]) ?_ 4 _ rfl; (with_reducible repeat (first | refine blk_drewN ?_ _ | refine blk_drew ?_ | refine blk_alloc ?_ _)); refine blk_put (cs := #[.int .i64 ((rd_T30 l0 t711).f0), .int .i64 ((rd_T30 l0 t711).f1), .int .i64 ((rd_T30 l0 t711).f2), .int .i64 0, .int .i64 0, .int .i64 0]) ?_ 3 _ rfl; (with_reducible repeat (first | refine blk_drewN ?_ _ | refine blk_drew ?_ | refine blk_alloc ?_ _)); refine blk_put (cs := #[.int .i64 ((rd_T30 l0 t711).f0), .int .i64 ((rd_T30 l0 t711).f1), .int .i64 0, .int .i64 0, .int .i64 0, .int .i64 0]) ?_ 2 _ rfl; (with_reducible repeat (first | refine blk_drewN ?_ _ | refine blk_drew ?_ | refine blk_alloc ?_ _)); refine blk_put (cs := #[.int .i64 ((rd_T30 l0 t711).f0), .int .i64 0, .int .i64 0, .int .i64 0, .int .i64 0, .int .i64 0]) ?_ 1 _ rfl; (with_reducible repeat (first | refine blk_drewN ?_ _ | refine blk_drew ?_ | refine blk_alloc ?_ _)); refine blk_put (cs := #[.int .i64 0, .int .i64 0, .int .i64 0, .int .i64 0, .int .i64 0, .int .i64 0]) ?_ 0 _ rfl; (with_reducible repeat (first | refine blk_drewN ?_ _ | refine blk_drew ?_ | refine blk_alloc ?_ _)); exact BK719.out) hb); have n1_ := Aside0.mk (below_step (by repeat (first | (with_reducible first | exact HB.out | apply below_alloc | apply pw_below_drewN | apply below_drew1 | refine below_set ?_ GE719.out) | exact HB.out)) hb); have n2_ := Aside0.mk (hbox); have n3_ := Aside0.mk ((by rw [hg]; exact (below_size (by repeat (first | (with_reducible first | exact HB.out | apply below_alloc | apply pw_below_drewN | apply below_drew1 | refine below_set ?_ GE719.out) | exact HB.out))) : w.heap.size ≤ gb727)); have n4_ := Aside0.mk ((by rw [hg]; exact (below_size (by repeat (first | (with_reducible first | exact HB.out | apply below_alloc | apply pw_below_drewN | apply below_drew1 | refine below_set ?_ GE719.out) | exact HB.out))) : w.heap.size ≤ gb727)); have n5_ := Aside0.mk ((by rw [hg]; exact Nat.ne_of_lt (blk_lt (g := gb719) (o := .cells #[.int .i64 ((rd_T30 l0 t711).f0), .int .i64 ((rd_T30 l0 t711).f1), .int .i64 ((rd_T30 l0 t711).f2), .int .i64 ((rd_T30 l0 t711).f3), .int .i64 ((rd_T30 l0 t711).f4), .int .i64 ((rd_T30 l0 t711).f5)] 30 (0, 0)) (by (with_reducible repeat (first | refine blk_drewN ?_ _ | refine blk_drew ?_ | refine blk_alloc ?_ _)); refine blk_put (cs := #[.int .i64 ((rd_T30 l0 t711).f0), .int .i64 ((rd_T30 l0 t711).f1), .int .i64 ((rd_T30 l0 t711).f2), .int .i64 ((rd_T30 l0 t711).f3), .int .i64 ((rd_T30 l0 t711).f4), .int .i64 0]) ?_ 5 _ rfl; (with_reducible repeat (first | refine blk_drewN ?_ _ | refine blk_drew ?_ | refine blk_alloc ?_ _)); refine blk_put (cs := #[.int .i64 ((rd_T30 l0 t711).f0), .int .i64 ((rd_T30 l0 t711).f1), .int .i64 ((rd_T30 l0 t711).f2), .int .i64 ((rd_T30 l0 t711).f3), .int .i64 0, .int .i64 0]) ?_ 4 _ rfl; (with_reducible repeat (first | refine blk_drewN ?_ _ | refine blk_drew ?_ | refine blk_alloc ?_ _)); refine blk_put (cs := #[.int .i64 ((rd_T30 l0 t711).f0), .int .i64 ((rd_T30 l0 t711).f1), .int .i64 ((rd_T30 l0 t711).f2), .int .i64 0, .int .i64 0, .int .i64 0]) ?_ 3 _ rfl; (with_reducible repeat (first | refine blk_drewN ?_ _ | refine blk_drew ?_ | refine blk_alloc ?_ _)); refine blk_put (cs := #[.int .i64 ((rd_T30 l0 t711).f0), .int .i64 ((rd_T30 l0 t711).f1), .int .i64 0, .int .i64 0, .int .i64 0, .int .i64 0]) ?_ 2 _ rfl; (with_reducible repeat (first | refine blk_drewN ?_ _ | refine blk_drew ?_ | refine blk_alloc ?_ _)); refine blk_put (cs := #[.int .i64 ((rd_T30 l0 t711).f0), .int .i64 0, .int .i64 0, .int .i64 0, .int .i64 0, .int .i64 0]) ?_ 1 _ rfl; (with_reducible repeat (first | refine blk_drewN ?_ _ | refine blk_drew ?_ | refine blk_alloc ?_ _)); refine blk_put (cs := #[.int .i64 0, .int .i64 0, .int .i64 0, .int .i64 0, .int .i64 0, .int .i64 0]) ?_ 0 _ rfl; (with_reducible repeat (first | refine blk_drewN ?_ _ | refine blk_drew ?_ | refine blk_alloc ?_ _)); exact BK719.out)) : gb719 ≠ gb727)); have n6_ := Aside0.mk ((by rw [hg]; exact Nat.ne_of_gt (blk_lt (g := gb719) (o := .cells #[.int .i64 ((rd_T30 l0 t711).f0), .int .i64 ((rd_T30 l0 t711).f1), .int .i64 ((rd_T30 l0 t711).f2), .int .i64 ((rd_T30 l0 t711).f3), .int .i64 ((rd_T30 l0 t711).f4), .int .i64 ((rd_T30 l0 t711).f5)] 30 (0, 0)) (by (with_reducible repeat (first | refine blk_drewN ?_ _ | refine blk_drew ?_ | refine blk_alloc ?_ _)); refine blk_put (cs := #[.int .i64 ((rd_T30 l0 t711).f0), .int .i64 ((rd_T30 l0 t711).f1), .int .i64 ((rd_T30 l0 t711).f2), .int .i64 ((rd_T30 l0 t711).f3), .int .i64 ((rd_T30 l0 t711).f4), .int .i64 0]) ?_ 5 _ rfl; (with_reducible repeat (first | refine blk_drewN ?_ _ | refine blk_drew ?_ | refine blk_alloc ?_ _)); refine blk_put (cs := #[.int .i64 ((rd_T30 l0 t711).f0), .int .i64 ((rd_T30 l0 t711).f1), .int .i64 ((rd_T30 l0 t711).f2), .int .i64 ((rd_T30 l0 t711).f3), .int .i64 0, .int .i64 0]) ?_ 4 _ rfl; (with_reducible repeat (first | refine blk_drewN ?_ _ | refine blk_drew ?_ | refine blk_alloc ?_ _)); refine blk_put (cs := #[.int .i64 ((rd_T30 l0 t711).f0), .int .i64 ((rd_T30 l0 t711).f1), .int .i64 ((rd_T30 l0 t711).f2), .int .i64 0, .int .i64 0, .int .i64 0]) ?_ 3 _ rfl; (with_reducible repeat (first | refine blk_drewN ?_ _ | refine blk_drew ?_ | refine blk_alloc ?_ _)); refine blk_put (cs := #[.int .i64 ((rd_T30 l0 t711).f0), .int .i64 ((rd_T30 l0 t711).f1), .int .i64 0, .int .i64 0, .int .i64 0, .int .i64 0]) ?_ 2 _ rfl; (with_reducible repeat (first | refine blk_drewN ?_ _ | refine blk_drew ?_ | refine blk_alloc ?_ _)); refine blk_put (cs := #[.int .i64 ((rd_T30 l0 t711).f0), .int .i64 0, .int .i64 0, .int .i64 0, .int .i64 0, .int .i64 0]) ?_ 1 _ rfl; (with_reducible repeat (first | refine blk_drewN ?_ _ | refine blk_drew ?_ | refine blk_alloc ?_ _)); refine blk_put (cs := #[.int .i64 0, .int .i64 0, .int .i64 0, .int .i64 0, .int .i64 0, .int .i64 0]) ?_ 0 _ rfl; (with_reducible repeat (first | refine blk_drewN ?_ _ | refine blk_drew ?_ | refine blk_alloc ?_ _)); exact BK719.out)) : gb727 ≠ gb719)); clear BK719; clear HB; have BK719 := n0_; have HB := n1_; have BK727 := n2_; have GW727 := n3_; have GE727 := n4_; have NB719_727 := n5_; have NB727_719 := n6_; clear n0_ n1_ n2_ n3_ n4_ n5_ n6_; clear hb hbox hg; have hnb58 := NB727_719.out; have hnc58 := NB719_727.out; have hcz59_0 : w57.cell? ⟨gb727, 0, none⟩ = some (.int .i64 0) := (blk_cell BK727.out 0).trans rfl; have hcz59_1 : w57.cell? ⟨gb727, 1, none⟩ = some (.int .i64 0) := (blk_cell BK727.out 1).trans rfl; have hcz59_2 : w57.cell? ⟨gb727, 2, none⟩ = some (.int .i64 0) := (blk_cell BK727.out 2).trans rfl; have hcz59_3 : w57.cell? ⟨gb727, 3, none⟩ = some (.int .i64 0) := (blk_cell BK727.out 3).trans rfl; have hcz59_4 : w57.cell? ⟨gb727, 4, none⟩ = some (.int .i64 0) := (blk_cell BK727.out 4).trans rfl; have hcz59_5 : w57.cell? ⟨gb727, 5, none⟩ = some (.int .i64 0) := (blk_cell BK727.out 5).trans rfl; have hl59_0 : ∀ v0 v1 v2 v3 v4 v5 u0 : Value, (((((((w57.setCell ⟨gb727, 0, none⟩ v0).setCell ⟨gb727, 1, none⟩ v1).setCell ⟨gb727, 2, none⟩ v2).setCell ⟨gb727, 3, none⟩ v3).setCell ⟨gb727, 4, none⟩ v4).setCell ⟨gb727, 5, none⟩ v5).setCell ⟨gb727, 2, none⟩ u0).cell? ⟨gb727, 2, none⟩ = some u0 := fun v0 v1 v2 v3 v4 v5 u0 => (blk_cell (blk_set (blk_set (blk_set (blk_set (blk_set (blk_set (blk_set BK727.out 0 v0) 1 v1) 2 v2) 3 v3) 4 v4) 5 v5) 2 u0) 2).trans (by simp); have hl59_1 : ∀ v0 v1 v2 v3 v4 v5 u0 u1 : Value, ((((((((w57.setCell ⟨gb727, 0, none⟩ v0).setCell ⟨gb727, 1, none⟩ v1).setCell ⟨gb727, 2, none⟩ v2).setCell ⟨gb727, 3, none⟩ v3).setCell ⟨gb727, 4, none⟩ v4).setCell ⟨gb727, 5, none⟩ v5).setCell ⟨gb727, 2, none⟩ u0).setCell ⟨gb727, 4, none⟩ u1).cell? ⟨gb727, 4, none⟩ = some u1 := fun v0 v1 v2 v3 v4 v5 u0 u1 => (blk_cell (blk_set (blk_set (blk_set (blk_set (blk_set (blk_set (blk_set (blk_set BK727.out 0 v0) 1 v1) 2 v2) 3 v3) 4 v4) 5 v5) 2 u0) 4 u1) 4).trans (by simp); have hl59_2 : ∀ v0 v1 v2 v3 v4 v5 u0 : Value, (((((((w57.setCell ⟨gb727, 0, none⟩ v0).setCell ⟨gb727, 1, none⟩ v1).setCell ⟨gb727, 2, none⟩ v2).setCell ⟨gb727, 3, none⟩ v3).setCell ⟨gb727, 4, none⟩ v4).setCell ⟨gb727, 5, none⟩ v5).setCell ⟨gb727, 5, none⟩ u0).cell? ⟨gb727, 5, none⟩ = some u0 := fun v0 v1 v2 v3 v4 v5 u0 => (blk_cell (blk_set (blk_set (blk_set (blk_set (blk_set (blk_set (blk_set BK727.out 0 v0) 1 v1) 2 v2) 3 v3) 4 v4) 5 v5) 5 u0) 5).trans (by simp); have hfz59_0 := blk_frozen BK727.out 0; have hfz59_1 := blk_frozen BK727.out 1; have hfz59_2 := blk_frozen BK727.out 2; have hfz59_3 := blk_frozen BK727.out 3; have hfz59_4 := blk_frozen BK727.out 4; have hfz59_5 := blk_frozen BK727.out 5; have hcz60_0 : w57.cell? ⟨gb719, 0, none⟩ = some (.int .i64 ((rd_T30 l0 t711).f0)) := (blk_cell BK719.out 0).trans rfl; have hcz60_1 : w57.cell? ⟨gb719, 1, none⟩ = some (.int .i64 ((rd_T30 l0 t711).f1)) := (blk_cell BK719.out 1).trans rfl; have hcz60_2 : w57.cell? ⟨gb719, 2, none⟩ = some (.int .i64 ((rd_T30 l0 t711).f2)) := (blk_cell BK719.out 2).trans rfl; have hcz60_3 : w57.cell? ⟨gb719, 3, none⟩ = some (.int .i64 ((rd_T30 l0 t711).f3)) := (blk_cell BK719.out 3).trans rfl; have hcz60_4 : w57.cell? ⟨gb719, 4, none⟩ = some (.int .i64 ((rd_T30 l0 t711).f4)) := (blk_cell BK719.out 4).trans rfl; have hcz60_5 : w57.cell? ⟨gb719, 5, none⟩ = some (.int .i64 ((rd_T30 l0 t711).f5)) := (blk_cell BK719.out 5).trans rfl; have hfz60_0 := blk_frozen BK719.out 0; have hfz60_1 := blk_frozen BK719.out 1; have hfz60_2 := blk_frozen BK719.out 2; have hfz60_3 := blk_frozen BK719.out 3; have hfz60_4 := blk_frozen BK719.out 4; have hfz60_5 := blk_frozen BK719.out 5))
        have n0_ : Aside0 ((((((((((w57.setCell ⟨gb727, 0, none⟩ (.int .i64 ((rd_T30 l0 t711).f0))).setCell ⟨gb727, 1, none⟩ (.int .i64 ((rd_T30 l0 t711).f1))).setCell ⟨gb727, 2, none⟩ (.int .i64 ((rd_T30 l0 t711).f2))).setCell ⟨gb727, 3, none⟩ (.int .i64 ((rd_T30 l0 t711).f3))).setCell ⟨gb727, 4, none⟩ (.int .i64 ((rd_T30 l0 t711).f4))).setCell ⟨gb727, 5, none⟩ (.int .i64 ((rd_T30 l0 t711).f5))).setCell ⟨gb727, 2, none⟩ (.int .i64 a2)).setCell ⟨gb727, 4, none⟩ (.int .i64 a3)).setCell ⟨gb719, 5, none⟩ (.int .i64 a3)).heap[gb719]? = some (.cells #[.int .i64 ((rd_T30 l0 t711).f0), .int .i64 ((rd_T30 l0 t711).f1), .int .i64 ((rd_T30 l0 t711).f2), .int .i64 ((rd_T30 l0 t711).f3), .int .i64 ((rd_T30 l0 t711).f4), .int .i64 a3] 30 (0, 0))) := ⟨by (with_reducible repeat (first | refine blk_drewN ?_ _ | refine blk_drew ?_ | refine blk_alloc ?_ _)); refine blk_put (cs := #[.int .i64 ((rd_T30 l0 t711).f0), .int .i64 ((rd_T30 l0 t711).f1), .int .i64 ((rd_T30 l0 t711).f2), .int .i64 ((rd_T30 l0 t711).f3), .int .i64 ((rd_T30 l0 t711).f4), .int .i64 ((rd_T30 l0 t711).f5)]) ?_ 5 _ rfl; (with_reducible repeat (first | refine blk_drewN ?_ _ | refine blk_drew ?_ | refine blk_alloc ?_ _)); refine blk_far ?_ NB719_727.out _; (with_reducible repeat (first | refine blk_drewN ?_ _ | refine blk_drew ?_ | refine blk_alloc ?_ _)); refine blk_far ?_ NB719_727.out _; (with_reducible repeat (first | refine blk_drewN ?_ _ | refine blk_drew ?_ | refine blk_alloc ?_ _)); refine blk_far ?_ NB719_727.out _; (with_reducible repeat (first | refine blk_drewN ?_ _ | refine blk_drew ?_ | refine blk_alloc ?_ _)); refine blk_far ?_ NB719_727.out _; (with_reducible repeat (first | refine blk_drewN ?_ _ | refine blk_drew ?_ | refine blk_alloc ?_ _)); refine blk_far ?_ NB719_727.out _; (with_reducible repeat (first | refine blk_drewN ?_ _ | refine blk_drew ?_ | refine blk_alloc ?_ _)); refine blk_far ?_ NB719_727.out _; (with_reducible repeat (first | refine blk_drewN ?_ _ | refine blk_drew ?_ | refine blk_alloc ?_ _)); refine blk_far ?_ NB719_727.out _; (with_reducible repeat (first | refine blk_drewN ?_ _ | refine blk_drew ?_ | refine blk_alloc ?_ _)); refine blk_far ?_ NB719_727.out _; (with_reducible repeat (first | refine blk_drewN ?_ _ | refine blk_drew ?_ | refine blk_alloc ?_ _)); exact BK719.out⟩
        have n1_ : Aside0 ((((((((((w57.setCell ⟨gb727, 0, none⟩ (.int .i64 ((rd_T30 l0 t711).f0))).setCell ⟨gb727, 1, none⟩ (.int .i64 ((rd_T30 l0 t711).f1))).setCell ⟨gb727, 2, none⟩ (.int .i64 ((rd_T30 l0 t711).f2))).setCell ⟨gb727, 3, none⟩ (.int .i64 ((rd_T30 l0 t711).f3))).setCell ⟨gb727, 4, none⟩ (.int .i64 ((rd_T30 l0 t711).f4))).setCell ⟨gb727, 5, none⟩ (.int .i64 ((rd_T30 l0 t711).f5))).setCell ⟨gb727, 2, none⟩ (.int .i64 a2)).setCell ⟨gb727, 4, none⟩ (.int .i64 a3)).setCell ⟨gb719, 5, none⟩ (.int .i64 a3)).heap[gb727]? = some (.cells #[.int .i64 ((rd_T30 l0 t711).f0), .int .i64 ((rd_T30 l0 t711).f1), .int .i64 a2, .int .i64 ((rd_T30 l0 t711).f3), .int .i64 a3, .int .i64 ((rd_T30 l0 t711).f5)] 30 (0, 0))) := ⟨by (with_reducible repeat (first | refine blk_drewN ?_ _ | refine blk_drew ?_ | refine blk_alloc ?_ _)); refine blk_far ?_ NB727_719.out _; (with_reducible repeat (first | refine blk_drewN ?_ _ | refine blk_drew ?_ | refine blk_alloc ?_ _)); refine blk_put (cs := #[.int .i64 ((rd_T30 l0 t711).f0), .int .i64 ((rd_T30 l0 t711).f1), .int .i64 a2, .int .i64 ((rd_T30 l0 t711).f3), .int .i64 ((rd_T30 l0 t711).f4), .int .i64 ((rd_T30 l0 t711).f5)]) ?_ 4 _ rfl; (with_reducible repeat (first | refine blk_drewN ?_ _ | refine blk_drew ?_ | refine blk_alloc ?_ _)); refine blk_put (cs := #[.int .i64 ((rd_T30 l0 t711).f0), .int .i64 ((rd_T30 l0 t711).f1), .int .i64 ((rd_T30 l0 t711).f2), .int .i64 ((rd_T30 l0 t711).f3), .int .i64 ((rd_T30 l0 t711).f4), .int .i64 ((rd_T30 l0 t711).f5)]) ?_ 2 _ rfl; (with_reducible repeat (first | refine blk_drewN ?_ _ | refine blk_drew ?_ | refine blk_alloc ?_ _)); refine blk_put (cs := #[.int .i64 ((rd_T30 l0 t711).f0), .int .i64 ((rd_T30 l0 t711).f1), .int .i64 ((rd_T30 l0 t711).f2), .int .i64 ((rd_T30 l0 t711).f3), .int .i64 ((rd_T30 l0 t711).f4), .int .i64 0]) ?_ 5 _ rfl; (with_reducible repeat (first | refine blk_drewN ?_ _ | refine blk_drew ?_ | refine blk_alloc ?_ _)); refine blk_put (cs := #[.int .i64 ((rd_T30 l0 t711).f0), .int .i64 ((rd_T30 l0 t711).f1), .int .i64 ((rd_T30 l0 t711).f2), .int .i64 ((rd_T30 l0 t711).f3), .int .i64 0, .int .i64 0]) ?_ 4 _ rfl; (with_reducible repeat (first | refine blk_drewN ?_ _ | refine blk_drew ?_ | refine blk_alloc ?_ _)); refine blk_put (cs := #[.int .i64 ((rd_T30 l0 t711).f0), .int .i64 ((rd_T30 l0 t711).f1), .int .i64 ((rd_T30 l0 t711).f2), .int .i64 0, .int .i64 0, .int .i64 0]) ?_ 3 _ rfl; (with_reducible repeat (first | refine blk_drewN ?_ _ | refine blk_drew ?_ | refine blk_alloc ?_ _)); refine blk_put (cs := #[.int .i64 ((rd_T30 l0 t711).f0), .int .i64 ((rd_T30 l0 t711).f1), .int .i64 0, .int .i64 0, .int .i64 0, .int .i64 0]) ?_ 2 _ rfl; (with_reducible repeat (first | refine blk_drewN ?_ _ | refine blk_drew ?_ | refine blk_alloc ?_ _)); refine blk_put (cs := #[.int .i64 ((rd_T30 l0 t711).f0), .int .i64 0, .int .i64 0, .int .i64 0, .int .i64 0, .int .i64 0]) ?_ 1 _ rfl; (with_reducible repeat (first | refine blk_drewN ?_ _ | refine blk_drew ?_ | refine blk_alloc ?_ _)); refine blk_put (cs := #[.int .i64 0, .int .i64 0, .int .i64 0, .int .i64 0, .int .i64 0, .int .i64 0]) ?_ 0 _ rfl; (with_reducible repeat (first | refine blk_drewN ?_ _ | refine blk_drew ?_ | refine blk_alloc ?_ _)); exact BK727.out⟩
        have n2_ : Aside0 (Below w.heap.size w (((((((((w57.setCell ⟨gb727, 0, none⟩ (.int .i64 ((rd_T30 l0 t711).f0))).setCell ⟨gb727, 1, none⟩ (.int .i64 ((rd_T30 l0 t711).f1))).setCell ⟨gb727, 2, none⟩ (.int .i64 ((rd_T30 l0 t711).f2))).setCell ⟨gb727, 3, none⟩ (.int .i64 ((rd_T30 l0 t711).f3))).setCell ⟨gb727, 4, none⟩ (.int .i64 ((rd_T30 l0 t711).f4))).setCell ⟨gb727, 5, none⟩ (.int .i64 ((rd_T30 l0 t711).f5))).setCell ⟨gb727, 2, none⟩ (.int .i64 a2)).setCell ⟨gb727, 4, none⟩ (.int .i64 a3)).setCell ⟨gb719, 5, none⟩ (.int .i64 a3))) := ⟨by repeat (first | (with_reducible first | exact HB.out | apply below_alloc | apply pw_below_drewN | apply below_drew1 | refine below_set ?_ GE719.out | refine below_set ?_ GE727.out) | exact HB.out)⟩
        (try clear BK719)
        (try clear BK727)
        (try clear HB)
        generalize (((((((((w57.setCell ⟨gb727, 0, none⟩ (.int .i64 ((rd_T30 l0 t711).f0))).setCell ⟨gb727, 1, none⟩ (.int .i64 ((rd_T30 l0 t711).f1))).setCell ⟨gb727, 2, none⟩ (.int .i64 ((rd_T30 l0 t711).f2))).setCell ⟨gb727, 3, none⟩ (.int .i64 ((rd_T30 l0 t711).f3))).setCell ⟨gb727, 4, none⟩ (.int .i64 ((rd_T30 l0 t711).f4))).setCell ⟨gb727, 5, none⟩ (.int .i64 ((rd_T30 l0 t711).f5))).setCell ⟨gb727, 2, none⟩ (.int .i64 a2)).setCell ⟨gb727, 4, none⟩ (.int .i64 a3)).setCell ⟨gb719, 5, none⟩ (.int .i64 a3)) = w61 at n0_ n1_ n2_ ⊢
        have BK719 := n0_
        have BK727 := n1_
        have HB := n2_
        clear n0_ n1_ n2_
        have n0_ := Aside0.mk (blk_drew BK719.out)
        have n1_ := Aside0.mk (blk_drew BK727.out)
        have n2_ := Aside0.mk (below_drew1 HB.out)
        clear BK719
        clear BK727
        clear HB
        have BK719 := n0_
        have BK727 := n1_
        have HB := n2_
        clear n0_ n1_ n2_
        refine start_ (n := 11) (S := fun w' => w'.cell? ⟨gb719, 0, none⟩ = some (.int .i64 ((rd_T30 l0 t711).f0)) ∧ w'.cell? ⟨gb719, 1, none⟩ = some (.int .i64 ((rd_T30 l0 t711).f1)) ∧ w'.cell? ⟨gb719, 2, none⟩ = some (.int .i64 ((rd_T30 l0 t711).f2)) ∧ w'.cell? ⟨gb719, 3, none⟩ = some (.int .i64 ((rd_T30 l0 t711).f3)) ∧ w'.cell? ⟨gb719, 4, none⟩ = some (.int .i64 ((rd_T30 l0 t711).f4)) ∧ w'.cell? ⟨gb719, 5, none⟩ = some (.int .i64 a3) ∧ w'.cell? ⟨gb727, 0, none⟩ = some (.int .i64 ((rd_T30 l0 t711).f0)) ∧ w'.cell? ⟨gb727, 1, none⟩ = some (.int .i64 ((rd_T30 l0 t711).f1)) ∧ w'.cell? ⟨gb727, 2, none⟩ = some (.int .i64 a2) ∧ w'.cell? ⟨gb727, 3, none⟩ = some (.int .i64 ((rd_T30 l0 t711).f3)) ∧ w'.cell? ⟨gb727, 4, none⟩ = some (.int .i64 a3) ∧ w'.cell? ⟨gb727, 5, none⟩ = some (.int .i64 ((rd_T30 l0 t711).f5))) (ds := []) #[false, false, false, false, false, false, false, false, false, false, false] (by kernel_rfl) rfl rfl ⟨(blk_cell BK719.out 0).trans rfl, (blk_cell BK719.out 1).trans rfl, (blk_cell BK719.out 2).trans rfl, (blk_cell BK719.out 3).trans rfl, (blk_cell BK719.out 4).trans rfl, (blk_cell BK719.out 5).trans rfl, (blk_cell BK727.out 0).trans rfl, (blk_cell BK727.out 1).trans rfl, (blk_cell BK727.out 2).trans rfl, (blk_cell BK727.out 3).trans rfl, (blk_cell BK727.out 4).trans rfl, (blk_cell BK727.out 5).trans rfl⟩ (fun hHeld => ?_); refine with_tabW spec_ChangeLevel.tab13 spec_ChangeLevel.bits13 (fun HT_ HW_ => ?_)
        generalize w61.drew = w62 at BK719 BK727 HB hHeld ⊢
        refine pure_ (i := 0) (N := some 67) (v := ?_) (a' := ?_) #[true, false, false, false, false, false, false, false, false, false, false] rfl rfl (any_of HT_.out (by kernel_rfl)) (fun _ _ _ h => h) (Or.inl ⟨by rfl, ?_⟩) ?_ ?_
        rotate_left
        ·
         intro w'
         go_simp
         with_reducible rfl
        rotate_left
        ·
         simp only [Act.put, List.setIfInBounds_toArray, List.set_cons_zero, List.set_cons_succ, i64_w, i32_w]
         rfl
        refine pure_ (i := 1) (N := some 68) (v := ?_) (a' := ?_) #[true, true, false, false, false, false, false, false, false, false, false] rfl rfl (any_of HT_.out (by kernel_rfl)) (fun _ _ _ h => h) (Or.inl ⟨by rfl, ?_⟩) ?_ ?_
        rotate_left
        ·
         intro w'
         go_simp
         with_reducible rfl
        rotate_left
        ·
         simp only [Act.put, List.setIfInBounds_toArray, List.set_cons_zero, List.set_cons_succ, i64_w, i32_w]
         rfl
        refine take_ (i := 2) (N := some 69) (v := ?_) (a' := ?_) #[true, true, true, false, false, false, false, false, false, false, false] rfl rfl (take_ofW HT_.out HW_.out (by kernel_rfl)) (fun _ _ _ h => h) (Or.inl ⟨by rfl, ?_⟩) hHeld ?_ ?_
        rotate_left
        ·
         rintro w' ⟨s0, s1, s2, s3, s4, s5, s6, s7, s8, s9, s10, s11⟩
         go_simp
         with_reducible rfl
        rotate_left
        ·
         simp only [Act.put, List.setIfInBounds_toArray, List.set_cons_zero, List.set_cons_succ, i64_w, i32_w]
         rfl
        refine take_ (i := 4) (N := some 71) (v := ?_) (a' := ?_) #[true, true, true, false, true, false, false, false, false, false, false] rfl rfl (take_ofW HT_.out HW_.out (by kernel_rfl)) (fun _ _ _ h => h) (Or.inl ⟨by rfl, ?_⟩) hHeld ?_ ?_
        rotate_left
        ·
         rintro w' ⟨s0, s1, s2, s3, s4, s5, s6, s7, s8, s9, s10, s11⟩
         go_simp
         with_reducible rfl
        rotate_left
        ·
         simp only [Act.put, List.setIfInBounds_toArray, List.set_cons_zero, List.set_cons_succ, i64_w, i32_w]
         rfl
        refine one_ (i := 3) (N := some 70) #[true, true, true, true, true, false, false, false, false, false, false] rfl rfl (one_of HT_.out (by kernel_rfl)) (by decide) (fun K hK => ?_)
        refine goes_ Try.func62 (by kernel_rfl) rfl #[.slice (some ad718) l0.length c0, .int .i64 t711, .agg #[.int .i64 ((rd_T30 l0 t711).f0), .int .i64 ((rd_T30 l0 t711).f1), .int .i64 ((rd_T30 l0 t711).f2), .int .i64 ((rd_T30 l0 t711).f3), .int .i64 ((rd_T30 l0 t711).f4), .int .i64 a3]] (by rfl) rfl rfl (by (try simp only [List.map_toArray, List.map_cons, List.map_nil]); first | done | rfl | (simp only [List.length_drop, List.length_take]; rfl)) ?_
        with_reducible refine (spec_l14With.calls _ _ l0 t711 ((rd_T30 l0 t711).f0) ((rd_T30 l0 t711).f1) ((rd_T30 l0 t711).f2) ((rd_T30 l0 t711).f3) ((rd_T30 l0 t711).f4) a3 t728 _ ?side1 ?side2 A38.out).mono ?_
        (case side1 => repeat (first | exact (Kd.C_below HR0.out HB.out) | (with_reducible refine Kd.C_alloc ?_ _) | (with_reducible refine Kd.C_drewN ?_ _) | (with_reducible refine Kd.C_drew ?_)))
        (case side2 => exact HC0.out)
        rintro e w63 ⟨v729, rfl, ho0, hb⟩
        refine ⟨_, rfl, ?_⟩
        have n0_ := Aside0.mk (Kd.R_lower (Kd.R_newB (Kd.R_newB ho0 (g := gb719) (o := .cells #[.int .i64 ((rd_T30 l0 t711).f0), .int .i64 ((rd_T30 l0 t711).f1), .int .i64 ((rd_T30 l0 t711).f2), .int .i64 ((rd_T30 l0 t711).f3), .int .i64 ((rd_T30 l0 t711).f4), .int .i64 a3] 30 (0, 0)) (by (with_reducible repeat (first | refine blk_drewN ?_ _ | refine blk_drew ?_ | refine blk_alloc ?_ _)); exact BK719.out)) (g := gb727) (o := .cells #[.int .i64 ((rd_T30 l0 t711).f0), .int .i64 ((rd_T30 l0 t711).f1), .int .i64 a2, .int .i64 ((rd_T30 l0 t711).f3), .int .i64 a3, .int .i64 ((rd_T30 l0 t711).f5)] 30 (0, 0)) (by (with_reducible repeat (first | refine blk_drewN ?_ _ | refine blk_drew ?_ | refine blk_alloc ?_ _)); exact BK727.out)) (below_size (by repeat (first | (with_reducible first | exact HB.out | apply below_alloc | apply pw_below_drewN | apply below_drew1 | refine below_set ?_ GE719.out | refine below_set ?_ GE727.out) | exact HB.out))))
        have n1_ := Aside0.mk (blk_below (g := gb719) (o := .cells #[.int .i64 ((rd_T30 l0 t711).f0), .int .i64 ((rd_T30 l0 t711).f1), .int .i64 ((rd_T30 l0 t711).f2), .int .i64 ((rd_T30 l0 t711).f3), .int .i64 ((rd_T30 l0 t711).f4), .int .i64 a3] 30 (0, 0)) (by (with_reducible repeat (first | refine blk_drewN ?_ _ | refine blk_drew ?_ | refine blk_alloc ?_ _)); exact BK719.out) hb)
        have n2_ := Aside0.mk (blk_below (g := gb727) (o := .cells #[.int .i64 ((rd_T30 l0 t711).f0), .int .i64 ((rd_T30 l0 t711).f1), .int .i64 a2, .int .i64 ((rd_T30 l0 t711).f3), .int .i64 a3, .int .i64 ((rd_T30 l0 t711).f5)] 30 (0, 0)) (by (with_reducible repeat (first | refine blk_drewN ?_ _ | refine blk_drew ?_ | refine blk_alloc ?_ _)); exact BK727.out) hb)
        have n3_ := Aside0.mk (below_step (by repeat (first | (with_reducible first | exact HB.out | apply below_alloc | apply pw_below_drewN | apply below_drew1 | refine below_set ?_ GE719.out | refine below_set ?_ GE727.out) | exact HB.out)) hb)
        clear BK719
        clear BK727
        clear HB
        have HO730 := n0_
        have BK719 := n1_
        have BK727 := n2_
        have HB := n3_
        clear n0_ n1_ n2_ n3_
        (try clear hb)
        (try clear hb2)
        (try clear hk)
        (try clear hi)
        (try clear ho0)
        obtain ⟨Ao64, co64, eo64⟩ := Kd.R_slice HO730.out
        (first | subst eo64 | (injection eo64 with f1_ f2_ f3_; have f4_ := f1_.symm; have f5_ := f3_.symm; clear f1_ f2_ f3_; subst f4_; subst f5_))
        refine hK.out _ _ ⟨(blk_cell BK719.out 0).trans rfl, (blk_cell BK719.out 1).trans rfl, (blk_cell BK719.out 2).trans rfl, (blk_cell BK719.out 3).trans rfl, (blk_cell BK719.out 4).trans rfl, (blk_cell BK719.out 5).trans rfl, (blk_cell BK727.out 0).trans rfl, (blk_cell BK727.out 1).trans rfl, (blk_cell BK727.out 2).trans rfl, (blk_cell BK727.out 3).trans rfl, (blk_cell BK727.out 4).trans rfl, (blk_cell BK727.out 5).trans rfl⟩ (fun hHeld => ?_)
        clear hK K
        refine norm_ (a' := ?_) ?_ ?_
        rotate_left
        ·
         show Act.put _ (some 70) _ = _
         simp only [Act.put, List.setIfInBounds_toArray, List.set_cons_zero, List.set_cons_succ, i64_w, i32_w]
         rfl
        refine one_ (i := 5) (N := some 72) #[true, true, true, true, true, true, false, false, false, false, false] rfl rfl (one_of HT_.out (by kernel_rfl)) (by decide) (fun K hK => ?_)
        refine goes_ Try.func56 (by kernel_rfl) rfl #[.slice Ao64 t728.length co64, .agg #[.int .i64 ((rd_T30 l0 t711).f0), .int .i64 ((rd_T30 l0 t711).f1), .int .i64 a2, .int .i64 ((rd_T30 l0 t711).f3), .int .i64 a3, .int .i64 ((rd_T30 l0 t711).f5)]] (by rfl) rfl rfl (by (try simp only [List.map_toArray, List.map_cons, List.map_nil]); first | done | rfl | (simp only [List.length_drop, List.length_take]; rfl)) ?_
        with_reducible refine (spec_l14Issue.calls _ _ t728 ((rd_T30 l0 t711).f0) ((rd_T30 l0 t711).f1) a2 ((rd_T30 l0 t711).f3) a3 ((rd_T30 l0 t711).f5) t731 t734 _ ?side1 ?side2 A39.out).mono ?_
        (case side1 => repeat (first | exact (Kd.R_reads' HO730.out).2.2 | (with_reducible refine Kd.C_alloc ?_ _) | (with_reducible refine Kd.C_drewN ?_ _) | (with_reducible refine Kd.C_drew ?_)))
        (case side2 => exact (Kd.R_reads' HO730.out).2.1)
        rintro e w65 ⟨v732, rfl, ho0, hb⟩
        refine ⟨_, rfl, ?_⟩
        have n0_ := Aside0.mk (Kd.R_elder' (by (with_reducible repeat (first | apply Kd.R_alloc | apply Kd.R_drewN | apply Kd.R_drew)); exact HO730.out) (Kd.R_base ho0) hb)
        have n1_ := Aside0.mk (Kd.R_lower (Kd.R_newB (Kd.R_newB (Kd.R_new' ho0 (Kd.R_lt (by (with_reducible repeat (first | apply Kd.R_alloc | apply Kd.R_drewN | apply Kd.R_drew)); exact HO730.out))) (g := gb719) (o := .cells #[.int .i64 ((rd_T30 l0 t711).f0), .int .i64 ((rd_T30 l0 t711).f1), .int .i64 ((rd_T30 l0 t711).f2), .int .i64 ((rd_T30 l0 t711).f3), .int .i64 ((rd_T30 l0 t711).f4), .int .i64 a3] 30 (0, 0)) (by (with_reducible repeat (first | refine blk_drewN ?_ _ | refine blk_drew ?_ | refine blk_alloc ?_ _)); exact BK719.out)) (g := gb727) (o := .cells #[.int .i64 ((rd_T30 l0 t711).f0), .int .i64 ((rd_T30 l0 t711).f1), .int .i64 a2, .int .i64 ((rd_T30 l0 t711).f3), .int .i64 a3, .int .i64 ((rd_T30 l0 t711).f5)] 30 (0, 0)) (by (with_reducible repeat (first | refine blk_drewN ?_ _ | refine blk_drew ?_ | refine blk_alloc ?_ _)); exact BK727.out)) (below_size (by repeat (first | (with_reducible first | exact HB.out | apply below_alloc | apply pw_below_drewN | apply below_drew1 | refine below_set ?_ GE719.out | refine below_set ?_ GE727.out) | exact HB.out))))
        have n2_ := Aside0.mk (blk_below (g := gb719) (o := .cells #[.int .i64 ((rd_T30 l0 t711).f0), .int .i64 ((rd_T30 l0 t711).f1), .int .i64 ((rd_T30 l0 t711).f2), .int .i64 ((rd_T30 l0 t711).f3), .int .i64 ((rd_T30 l0 t711).f4), .int .i64 a3] 30 (0, 0)) (by (with_reducible repeat (first | refine blk_drewN ?_ _ | refine blk_drew ?_ | refine blk_alloc ?_ _)); exact BK719.out) hb)
        have n3_ := Aside0.mk (blk_below (g := gb727) (o := .cells #[.int .i64 ((rd_T30 l0 t711).f0), .int .i64 ((rd_T30 l0 t711).f1), .int .i64 a2, .int .i64 ((rd_T30 l0 t711).f3), .int .i64 a3, .int .i64 ((rd_T30 l0 t711).f5)] 30 (0, 0)) (by (with_reducible repeat (first | refine blk_drewN ?_ _ | refine blk_drew ?_ | refine blk_alloc ?_ _)); exact BK727.out) hb)
        have n4_ := Aside0.mk (below_step (by repeat (first | (with_reducible first | exact HB.out | apply below_alloc | apply pw_below_drewN | apply below_drew1 | refine below_set ?_ GE719.out | refine below_set ?_ GE727.out) | exact HB.out)) hb)
        clear HO730
        clear BK719
        clear BK727
        clear HB
        have HO730 := n0_
        have HO733 := n1_
        have BK719 := n2_
        have BK727 := n3_
        have HB := n4_
        clear n0_ n1_ n2_ n3_ n4_
        (try clear hb)
        (try clear hb2)
        (try clear hk)
        (try clear hi)
        (try clear ho0)
        refine hK.out _ _ ⟨(blk_cell BK719.out 0).trans rfl, (blk_cell BK719.out 1).trans rfl, (blk_cell BK719.out 2).trans rfl, (blk_cell BK719.out 3).trans rfl, (blk_cell BK719.out 4).trans rfl, (blk_cell BK719.out 5).trans rfl, (blk_cell BK727.out 0).trans rfl, (blk_cell BK727.out 1).trans rfl, (blk_cell BK727.out 2).trans rfl, (blk_cell BK727.out 3).trans rfl, (blk_cell BK727.out 4).trans rfl, (blk_cell BK727.out 5).trans rfl⟩ (fun hHeld => ?_)
        clear hK K
        refine norm_ (a' := ?_) ?_ ?_
        rotate_left
        ·
         show Act.put _ (some 72) _ = _
         simp only [Act.put, List.setIfInBounds_toArray, List.set_cons_zero, List.set_cons_succ, i64_w, i32_w]
         rfl
        refine pure_ (i := 6) (N := some 66) (v := ?_) (a' := ?_) #[true, true, true, true, true, true, true, false, false, false, false] rfl rfl (any_of HT_.out (by kernel_rfl)) (fun _ _ _ h => h) (Or.inl ⟨by rfl, ?_⟩) ?_ ?_
        rotate_left
        ·
         intro w'
         go_simp
         with_reducible rfl
        rotate_left
        ·
         simp only [Act.put, List.setIfInBounds_toArray, List.set_cons_zero, List.set_cons_succ, i64_w, i32_w]
         rfl
        refine pure_ (i := 7) (N := some 73) (v := ?_) (a' := ?_) #[true, true, true, true, true, true, true, true, false, false, false] rfl rfl (any_of HT_.out (by kernel_rfl)) (fun _ _ _ h => h) (Or.inl ⟨by rfl, ?_⟩) ?_ ?_
        rotate_left
        ·
         intro w'
         go_simp
         with_reducible rfl
        rotate_left
        ·
         simp only [Act.put, List.setIfInBounds_toArray, List.set_cons_zero, List.set_cons_succ, i64_w, i32_w]
         rfl
        refine pure_ (i := 8) (N := some 74) (v := ?_) (a' := ?_) #[true, true, true, true, true, true, true, true, true, false, false] rfl rfl (any_of HT_.out (by kernel_rfl)) (fun _ _ _ h => h) (Or.inl ⟨by rfl, ?_⟩) ?_ ?_
        rotate_left
        ·
         intro w'
         go_simp
         with_reducible rfl
        rotate_left
        ·
         simp only [Act.put, List.setIfInBounds_toArray, List.set_cons_zero, List.set_cons_succ, i64_w, i32_w]
         rfl
        refine pure_ (i := 9) (N := some 13) (v := ?_) (a' := ?_) #[true, true, true, true, true, true, true, true, true, true, false] rfl rfl (any_of HT_.out (by kernel_rfl)) (fun _ _ _ h => h) (Or.inl ⟨by rfl, ?_⟩) ?_ ?_
        rotate_left
        ·
         intro w'
         go_simp
         with_reducible rfl
        rotate_left
        ·
         simp only [Act.put, List.setIfInBounds_toArray, List.set_cons_zero, List.set_cons_succ, i64_w, i32_w]
         rfl
        refine pure_ (i := 10) (N := some 1) (v := ?_) (a' := ?_) #[true, true, true, true, true, true, true, true, true, true, true] rfl rfl (any_of HT_.out (by kernel_rfl)) (fun _ _ _ h => h) (Or.inl ⟨by rfl, ?_⟩) ?_ ?_
        rotate_left
        ·
         intro w'
         go_simp
         with_reducible rfl
        rotate_left
        ·
         simp only [Act.put, List.setIfInBounds_toArray, List.set_cons_zero, List.set_cons_succ, i64_w, i32_w]
         rfl
        refine done_ (done_of HT_.out (by kernel_rfl)) ?_
        obtain ⟨Ao66, co66, eo66⟩ := Kd.R_slice HO733.out
        subst eo66
        try go_wp2_with (first | ((with_reducible refine gate_callee (f := 55) rfl ?_); refine goesL_ (some 76) rfl rfl Try.func55 (by kernel_rfl) rfl #[.slice Ao66 t731.length co66] rfl (by (try simp only [List.map_toArray, List.map_cons, List.map_nil]); first | done | rfl | (simp only [List.length_drop, List.length_take]; rfl)) ?_; (with_reducible refine (spec_l14List.calls kj5 _ _ t731 false _ ?side1 ?side2 A40.out).mono ?_); (case side1 => repeat (first | exact (Kd.R_reads' HO733.out).2.2 | (with_reducible refine Kd.C_alloc ?_ _) | (with_reducible refine Kd.C_drewN ?_ _) | (with_reducible refine Kd.C_drew ?_))); (case side2 => exact (Kd.R_reads' HO733.out).2.1); rintro e w67 ⟨rfl, hb⟩; refine ⟨_, rfl, ?_⟩; have n0_ := Aside0.mk (Kd.R_below (by (with_reducible repeat (first | apply Kd.R_alloc | apply Kd.R_drewN | apply Kd.R_drew)); exact HO730.out) hb); have n1_ := Aside0.mk (Kd.R_below (by (with_reducible repeat (first | apply Kd.R_alloc | apply Kd.R_drewN | apply Kd.R_drew)); exact HO733.out) hb); have n2_ := Aside0.mk (blk_below (g := gb719) (o := .cells #[.int .i64 ((rd_T30 l0 t711).f0), .int .i64 ((rd_T30 l0 t711).f1), .int .i64 ((rd_T30 l0 t711).f2), .int .i64 ((rd_T30 l0 t711).f3), .int .i64 ((rd_T30 l0 t711).f4), .int .i64 a3] 30 (0, 0)) (by (with_reducible repeat (first | refine blk_drewN ?_ _ | refine blk_drew ?_ | refine blk_alloc ?_ _)); exact BK719.out) hb); have n3_ := Aside0.mk (blk_below (g := gb727) (o := .cells #[.int .i64 ((rd_T30 l0 t711).f0), .int .i64 ((rd_T30 l0 t711).f1), .int .i64 a2, .int .i64 ((rd_T30 l0 t711).f3), .int .i64 a3, .int .i64 ((rd_T30 l0 t711).f5)] 30 (0, 0)) (by (with_reducible repeat (first | refine blk_drewN ?_ _ | refine blk_drew ?_ | refine blk_alloc ?_ _)); exact BK727.out) hb); have n4_ := Aside0.mk (below_step (by repeat (first | (with_reducible first | exact HB.out | apply below_alloc | apply pw_below_drewN | apply below_drew1 | refine below_set ?_ GE719.out | refine below_set ?_ GE727.out) | exact HB.out)) hb); clear HO730; clear HO733; clear BK719; clear BK727; clear HB; have HO730 := n0_; have HO733 := n1_; have BK719 := n2_; have BK727 := n3_; have HB := n4_; clear n0_ n1_ n2_ n3_ n4_; (try clear hb); (try clear hb2); (try clear hk); (try clear hi)) | ((with_reducible refine gate_dst (N := 78) rfl ?_); refine Kd.R_lit k30 _ 30 ?hg (N := 78) ?hd (xs := ([] : List (S30))) (inner := []) (ok := fun _ => True) (okp := fun _ => True) ?hr ?hp (fun _ hk => hk) trivial (Below.refl _ _) (Nat.le_refl _) (by simp) ?_; (case hd => rfl); (case hg => rfl); (case hr => first | (go_simp; done) | (go_simp; rfl)); (case hp => exact (Reps.none _ _)); intro v737 w68 ho69 hb hg_ hnew_; clear hg_ hnew_; (first | rw [← Ny736.out] at ho69 | (simp only [Int.reduceToNat] at ho69; rw [← Ny736.out] at ho69)); have n0_ := Aside0.mk (Kd.R_elder' (by (with_reducible repeat (first | apply Kd.R_alloc | apply Kd.R_drewN | apply Kd.R_drew)); exact HO730.out) (Kd.R_base ho69) hb); have n1_ := Aside0.mk (Kd.R_elder' (by (with_reducible repeat (first | apply Kd.R_alloc | apply Kd.R_drewN | apply Kd.R_drew)); exact HO733.out) (Kd.R_base ho69) hb); have n2_ := Aside0.mk (Kd.R_lower (Kd.R_newB (Kd.R_newB (Kd.R_new' (Kd.R_new' ho69 (Kd.R_lt (by (with_reducible repeat (first | apply Kd.R_alloc | apply Kd.R_drewN | apply Kd.R_drew)); exact HO730.out))) (Kd.R_lt (by (with_reducible repeat (first | apply Kd.R_alloc | apply Kd.R_drewN | apply Kd.R_drew)); exact HO733.out))) (g := gb719) (o := .cells #[.int .i64 ((rd_T30 l0 t711).f0), .int .i64 ((rd_T30 l0 t711).f1), .int .i64 ((rd_T30 l0 t711).f2), .int .i64 ((rd_T30 l0 t711).f3), .int .i64 ((rd_T30 l0 t711).f4), .int .i64 a3] 30 (0, 0)) (by (with_reducible repeat (first | refine blk_drewN ?_ _ | refine blk_drew ?_ | refine blk_alloc ?_ _)); exact BK719.out)) (g := gb727) (o := .cells #[.int .i64 ((rd_T30 l0 t711).f0), .int .i64 ((rd_T30 l0 t711).f1), .int .i64 a2, .int .i64 ((rd_T30 l0 t711).f3), .int .i64 a3, .int .i64 ((rd_T30 l0 t711).f5)] 30 (0, 0)) (by (with_reducible repeat (first | refine blk_drewN ?_ _ | refine blk_drew ?_ | refine blk_alloc ?_ _)); exact BK727.out)) (below_size (by repeat (first | (with_reducible first | exact HB.out | apply below_alloc | apply pw_below_drewN | apply below_drew1 | refine below_set ?_ GE719.out | refine below_set ?_ GE727.out) | exact HB.out)))); have n3_ := Aside0.mk (blk_below (g := gb719) (o := .cells #[.int .i64 ((rd_T30 l0 t711).f0), .int .i64 ((rd_T30 l0 t711).f1), .int .i64 ((rd_T30 l0 t711).f2), .int .i64 ((rd_T30 l0 t711).f3), .int .i64 ((rd_T30 l0 t711).f4), .int .i64 a3] 30 (0, 0)) (by (with_reducible repeat (first | refine blk_drewN ?_ _ | refine blk_drew ?_ | refine blk_alloc ?_ _)); exact BK719.out) hb); have n4_ := Aside0.mk (blk_below (g := gb727) (o := .cells #[.int .i64 ((rd_T30 l0 t711).f0), .int .i64 ((rd_T30 l0 t711).f1), .int .i64 a2, .int .i64 ((rd_T30 l0 t711).f3), .int .i64 a3, .int .i64 ((rd_T30 l0 t711).f5)] 30 (0, 0)) (by (with_reducible repeat (first | refine blk_drewN ?_ _ | refine blk_drew ?_ | refine blk_alloc ?_ _)); exact BK727.out) hb); have n5_ := Aside0.mk (below_step (by repeat (first | (with_reducible first | exact HB.out | apply below_alloc | apply pw_below_drewN | apply below_drew1 | refine below_set ?_ GE719.out | refine below_set ?_ GE727.out) | exact HB.out)) hb); clear HO730; clear HO733; clear BK719; clear BK727; clear HB; have HO730 := n0_; have HO733 := n1_; have HO738 := n2_; have BK719 := n3_; have BK727 := n4_; have HB := n5_; clear n0_ n1_ n2_ n3_ n4_ n5_; clear hb ho69))
        go_ret3
        exact ⟨_, by first | rfl | (simp [errW_none, errW_some] <;> rfl) | (simp [*, errW_none, errW_some] <;> rfl), by (with_reducible repeat (first | apply Kd.R_alloc | apply Kd.R_drewN | apply Kd.R_drew)); exact Kd.R_mono HO738.out (fun _ hk => trivial), by repeat (first | (with_reducible first | exact HB.out | apply below_alloc | apply pw_below_drewN | apply below_drew1 | refine below_set ?_ GE719.out | refine below_set ?_ GE727.out) | exact HB.out)⟩
     ·
      rw [if_neg c21] at H
      exact absurd H (by simp)
    ·
     rw [if_neg c20] at H
     exact absurd H (by simp)

end Go.Proofs.Ythmkgdlmegohoaa.Q
