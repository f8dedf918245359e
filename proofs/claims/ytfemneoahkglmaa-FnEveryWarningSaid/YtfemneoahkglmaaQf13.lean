-- Printed by a program of this session (wip/tools/seatprint.py) that runs over the kit's print.
import Derived.Test.YtfemneoahkglmaaQ0
import Derived.Test.YtfemneoahkglmaaQf28
import Derived.Test.YtfemneoahkglmaaQf42
import Derived.Test.YtfemneoahkglmaaQf47
import Derived.Test.YtfemneoahkglmaaQf48
namespace Go.Proofs.Ytfemneoahkglmaa.Q
open Go.RowKit Go.Proofs.YtfemneoahkglmaaW.PrintWords Go.Proofs.YtfemneoahkglmaaW.PrintLast Go.Proofs.YtfemneoahkglmaaW.PrintMore
attribute [local go_sem] max2_int min2_int max_two min_two max_three min_three max_four min_four   -- for this text's walks alone
set_option linter.unusedVariables false
set_option linter.unusedSimpArgs false

/-! ### spec_ChangeLevel: function 13 -/
def spec_ChangeLevel.j0 : Nat → List (S37) → Int → Int → Int → Int → Bool → Option ((List (S37)) × Int × Bool)
 | 0, _, _, _, _, _, _ => none
 | k + 1, x0, x1, x2, x3, x11, x42 => if x42 = true then (some ((([] : List (S37))), 0, false)) else (if 0 ≤ x11 then (if x11 < (x0.length : Int) then (if x3 ≤ ((rd_T37 x0 x11).f4) then ((spec_l14With.f x0 x11 ((rd_T37 x0 x11).f0) ((rd_T37 x0 x11).f1) x2 ((rd_T37 x0 x11).f3) ((rd_T37 x0 x11).f4) ((rd_T37 x0 x11).f5)).bind fun t452 => ((spec_l14List.f k t452).bind fun t455 => (if t455 = true then (some (t452, x1, true)) else (some ((([] : List (S37))), 0, false))))) else ((spec_l14With.f x0 x11 ((rd_T37 x0 x11).f0) ((rd_T37 x0 x11).f1) ((rd_T37 x0 x11).f2) ((rd_T37 x0 x11).f3) ((rd_T37 x0 x11).f4) x3).bind fun t460 => ((spec_l14Issue.f t460 ((rd_T37 x0 x11).f0) ((rd_T37 x0 x11).f1) x2 ((rd_T37 x0 x11).f3) x3 ((rd_T37 x0 x11).f5)).bind fun bt463 => ((spec_l14List.f k bt463.1).bind fun t467 => (if t467 = true then (some (bt463.1, bt463.2, true)) else (some ((([] : List (S37))), 0, false))))))) else (none)) else (none))
def spec_ChangeLevel.f (k : Nat) (l0 : List (S37)) (a1 : Int) (a2 : Int) (a3 : Int) : Option ((List (S37)) × Int × Bool) := (spec_l14Find.f k l0 a1).bind fun t443 => ((spec_l14List.f k l0).bind fun t444 => (if t444 = true then (if t443 < 0 then (spec_ChangeLevel.j0 k l0 a1 a2 a3 t443 true) else (if 0 ≤ t443 then (if t443 < (l0.length : Int) then (if ((rd_T37 l0 t443).f2) = a2 then (spec_ChangeLevel.j0 k l0 a1 a2 a3 t443 true) else (spec_ChangeLevel.j0 k l0 a1 a2 a3 t443 (decide (a3 ≥ ((rd_T37 l0 t443).f5))))) else (none)) else (none))) else (spec_ChangeLevel.j0 k l0 a1 a2 a3 t443 true)))
theorem spec_ChangeLevel.mono_l : ∀ k, (∀ y0 y1 y2 y3 y4 y5, LeO (spec_ChangeLevel.j0 k y0 y1 y2 y3 y4 y5) (spec_ChangeLevel.j0 (k + 1) y0 y1 y2 y3 y4 y5))
 | 0 => fun _ _ _ _ _ _ r h => by simp [spec_ChangeLevel.j0] at h
 | k + 1 => by
  have ih0 := spec_ChangeLevel.mono_l k
  ·
   intro y0 y1 y2 y3 y4 y5
   unfold spec_ChangeLevel.j0
   repeat' first
   | (with_reducible exact ih0 _ _ _ _ _ _)
   | (with_reducible exact spec_l14Find.mono _ _ _)
   | (with_reducible exact spec_l14List.mono _ _)
   | (with_reducible exact LeO.refl _)
   | (with_reducible exact LeO.none _)
   | (with_reducible refine LeO.ite ?_ ?_)
   | (with_reducible refine LeO.bind ?_ (fun _ => ?_))
   | exact ih0 _ _ _ _ _ _
   | exact spec_l14Find.mono _ _ _
   | exact spec_l14List.mono _ _
   | exact LeO.none _
   | refine LeO.ite ?_ ?_
   | refine LeO.bind ?_ (fun _ => ?_)
theorem spec_ChangeLevel.mono : ∀ a0 a1 a2 a3 k, LeO (spec_ChangeLevel.f k a0 a1 a2 a3) (spec_ChangeLevel.f (k + 1) a0 a1 a2 a3) := by
 intro a0 a1 a2 a3 k
 have ih0 := spec_ChangeLevel.mono_l k
 unfold spec_ChangeLevel.f
 repeat' first
   | (with_reducible exact ih0 _ _ _ _ _ _)
   | (with_reducible exact spec_l14Find.mono _ _ _)
   | (with_reducible exact spec_l14List.mono _ _)
   | (with_reducible exact LeO.refl _)
   | (with_reducible exact LeO.none _)
   | (with_reducible refine LeO.ite ?_ ?_)
   | (with_reducible refine LeO.bind ?_ (fun _ => ?_))
   | exact ih0 _ _ _ _ _ _
   | exact spec_l14Find.mono _ _ _
   | exact spec_l14List.mono _ _
   | exact LeO.none _
   | refine LeO.ite ?_ ?_
   | refine LeO.bind ?_ (fun _ => ?_)
def spec_ChangeLevel.T13 : Bool × List (List Nat × List Nat) := (true, [([], []), ([], []), ([], []), ([0, 1, 2], [0, 1, 2]), ([], []), ([3, 4, 3], [3, 4]), ([5], [5]), ([6], [6]), ([6], [6]), ([7, 5, 0, 1, 2, 3, 4, 5, 6, 7], [7]), ([8, 9, 0, 1, 2, 3, 4, 5, 6, 7, 8, 9], [8])])
def spec_ChangeLevel.B13 : List Nat := [0, 0, 0, 7, 0, 31, 63, 127, 127, 255, 1023]
theorem spec_ChangeLevel.tab13 : rtab .any (opsOf Try.f13 13) = spec_ChangeLevel.T13 := by kernel_rfl
theorem spec_ChangeLevel.bits13 : waitsOk spec_ChangeLevel.T13.2 spec_ChangeLevel.B13 = true := by kernel_rfl
set_option maxHeartbeats 8000000 in
set_option maxRecDepth 100000 in
theorem spec_ChangeLevel.calls (k : Nat) (A0 : Option Addr) (c0 : Nat) (l0 : List (S37)) (a1 : Int) (a2 : Int) (a3 : Int) (r1 : List (S37)) (r2 : Int) (r3 : Bool) (w : World) (hr0 : Kd.C k37 w A0 l0.length l0) (hc0 : l0.length ≤ c0) (h : spec_ChangeLevel.f k l0 a1 a2 a3 = some (r1, r2, r3)) :
  Calls Try.prog 13 #[.slice A0 l0.length c0, .int .i64 a1, .int .i64 a2, .int .i64 a3] w fun e w' => ∃ v0_ : Value, e = .returned (.tuple #[v0_, .int .i64 r2, .bool r3]) ∧ Kd.R k37 37 w' w.heap.size (fun _ => True) v0_ r1 ∧ Below w.heap.size w w' := by
 have hu37 := Try.underlying37
 have HR0 := Aside0.mk hr0
 have HC0 := Aside0.mk hc0
 clear hr0 hc0
 have HB := Aside0.mk (Below.refl w.heap.size w)
 have H : ((spec_l14Find.f k l0 a1).bind fun t443 => ((spec_l14List.f k l0).bind fun t444 => (if t444 = true then (if t443 < 0 then (spec_ChangeLevel.j0 k l0 a1 a2 a3 t443 true) else (if 0 ≤ t443 then (if t443 < (l0.length : Int) then (if ((rd_T37 l0 t443).f2) = a2 then (spec_ChangeLevel.j0 k l0 a1 a2 a3 t443 true) else (spec_ChangeLevel.j0 k l0 a1 a2 a3 t443 (decide (a3 ≥ ((rd_T37 l0 t443).f5))))) else (none)) else (none))) else (spec_ChangeLevel.j0 k l0 a1 a2 a3 t443 true)))) = some (r1, r2, r3) := h
 clear h
 replace H := Option.bind_eq_some_iff.mp H
 obtain ⟨t443, A50, H⟩ := H
 replace H : ((spec_l14List.f k l0).bind fun t444 => (if t444 = true then (if t443 < 0 then (spec_ChangeLevel.j0 k l0 a1 a2 a3 t443 true) else (if 0 ≤ t443 then (if t443 < (l0.length : Int) then (if ((rd_T37 l0 t443).f2) = a2 then (spec_ChangeLevel.j0 k l0 a1 a2 a3 t443 true) else (spec_ChangeLevel.j0 k l0 a1 a2 a3 t443 (decide (a3 ≥ ((rd_T37 l0 t443).f5))))) else (none)) else (none))) else (spec_ChangeLevel.j0 k l0 a1 a2 a3 t443 true))) = some (r1, r2, r3) := H
 have A5 := Aside0.mk A50
 clear A50
 have HC6 := Aside0.mk H
 clear H
 go_enter Try.func13, Try.ntmps13
 go_upto_region 2 with (first | ((with_reducible refine gate_callee (f := 42) rfl ?_); refine goesL_ (some 17) rfl rfl Try.func42 (by kernel_rfl) rfl #[.slice A0 l0.length c0, .int .i64 a1] rfl (by (try simp only [List.map_toArray, List.map_cons, List.map_nil]); first | done | rfl | (simp only [List.length_drop, List.length_take]; rfl)) ?_; (with_reducible refine (spec_l14Find.calls k _ _ l0 a1 t443 _ ?side1 ?side2 A5.out).mono ?_); (case side1 => repeat (first | exact HR0.out | (with_reducible refine Kd.C_alloc ?_ _) | (with_reducible refine Kd.C_drewN ?_ _) | (with_reducible refine Kd.C_drew ?_))); (case side2 => exact HC0.out); rintro e w' ⟨rfl, ⟨nd, rfl⟩⟩; refine ⟨_, rfl, ?_⟩))
 (try simp only [Act.put, List.setIfInBounds_toArray, List.set_cons_zero, List.set_cons_succ])
 go_cut [42] (fun v42 wc => ∃ (kq : Nat) (x42_5 : Bool), v42 = .bool x42_5 ∧ Aside0 (spec_ChangeLevel.j0 kq l0 a1 a2 a3 t443 x42_5 = some (r1, r2, r3)) ∧ Aside0 (kq ≤ k) ∧ Aside0 (Below w.heap.size w wc))
 case first =>
  have H := HC6.out
  clear HC6
  replace H := Option.bind_eq_some_iff.mp H
  obtain ⟨t444, A70, H⟩ := H
  replace H : (if t444 = true then (if t443 < 0 then (spec_ChangeLevel.j0 k l0 a1 a2 a3 t443 true) else (if 0 ≤ t443 then (if t443 < (l0.length : Int) then (if ((rd_T37 l0 t443).f2) = a2 then (spec_ChangeLevel.j0 k l0 a1 a2 a3 t443 true) else (spec_ChangeLevel.j0 k l0 a1 a2 a3 t443 (decide (a3 ≥ ((rd_T37 l0 t443).f5))))) else (none)) else (none))) else (spec_ChangeLevel.j0 k l0 a1 a2 a3 t443 true)) = some (r1, r2, r3) := H
  have A7 := Aside0.mk A70
  clear A70
  by_cases c8 : t444 = true
  ·
   subst c8
   have H1 : (if t443 < 0 then (spec_ChangeLevel.j0 k l0 a1 a2 a3 t443 true) else (if 0 ≤ t443 then (if t443 < (l0.length : Int) then (if ((rd_T37 l0 t443).f2) = a2 then (spec_ChangeLevel.j0 k l0 a1 a2 a3 t443 true) else (spec_ChangeLevel.j0 k l0 a1 a2 a3 t443 (decide (a3 ≥ ((rd_T37 l0 t443).f5))))) else (none)) else (none))) = some (r1, r2, r3) := by rw [if_pos rfl] at H; exact H
   clear H
   have H := H1
   clear H1
   by_cases c9 : t443 < 0
   ·
    rw [if_pos c9] at H
    have c9b0 : decide (t443 < 0) = true := decide_eq_true c9
    clear c9
    (first | rw [c9b0] | (simp only [i64_w, i32_w]; rw [c9b0]) | skip)
    have H' := Aside0.mk H
    clear H
    go_wp2_with (first | ((with_reducible refine gate_callee (f := 28) rfl ?_); refine goesL_ (some 19) rfl rfl Try.func28 (by kernel_rfl) rfl #[.slice A0 l0.length c0] rfl (by (try simp only [List.map_toArray, List.map_cons, List.map_nil]); first | done | rfl | (simp only [List.length_drop, List.length_take]; rfl)) ?_; (with_reducible refine (spec_l14List.calls k _ _ l0 true _ ?side1 ?side2 A7.out).mono ?_); (case side1 => repeat (first | exact (Kd.C_below HR0.out HB.out) | (with_reducible refine Kd.C_alloc ?_ _) | (with_reducible refine Kd.C_drewN ?_ _) | (with_reducible refine Kd.C_drew ?_))); (case side2 => exact HC0.out); rintro e w10 ⟨rfl, hb⟩; refine ⟨_, rfl, ?_⟩; have n0_ := Aside0.mk (below_step (by repeat (first | (with_reducible first | exact HB.out | apply below_alloc | apply pw_below_drewN | apply below_drew1) | exact HB.out)) hb); clear HB; have HB := n0_; clear n0_; (try clear hb); (try clear hb2); (try clear hk); (try clear hi)))
    go_meet
    case rel => exact ⟨_, (true), (by first | rfl | (simp; done) | (simp [*]; done)), H', ⟨by first | omega | exact Nat.le_refl _⟩, ⟨by repeat (first | (with_reducible first | exact HB.out | apply below_alloc | apply pw_below_drewN | apply below_drew1) | exact HB.out)⟩⟩
   ·
    rw [if_neg c9] at H
    have c9b0 : decide (t443 < 0) = false := decide_eq_false c9
    clear c9
    (first | rw [c9b0] | (simp only [i64_w, i32_w]; rw [c9b0]) | skip)
    by_cases c11 : 0 ≤ t443
    ·
     rw [if_pos c11] at H
     have c11b0 : decide (0 ≤ t443) = true := decide_eq_true c11
     clear c11
     by_cases c12 : t443 < (l0.length : Int)
     ·
      rw [if_pos c12] at H
      have c12b0 : decide (t443 < (l0.length : Int)) = true := decide_eq_true c12
      clear c12
      by_cases c13 : ((rd_T37 l0 t443).f2) = a2
      ·
       rw [if_pos c13] at H
       have c13b0 : (((rd_T37 l0 t443).f2) == a2) = true := beq_iff_eq.mpr c13
       have c13b1 : (((rd_T37 l0 t443).f2) != a2) = false := bne_eq_false_iff_eq.mpr c13
       clear c13
       have H' := Aside0.mk H
       clear H
       go_wp2_with (first | ((with_reducible refine gate_callee (f := 28) rfl ?_); refine goesL_ (some 19) rfl rfl Try.func28 (by kernel_rfl) rfl #[.slice A0 l0.length c0] rfl (by (try simp only [List.map_toArray, List.map_cons, List.map_nil]); first | done | rfl | (simp only [List.length_drop, List.length_take]; rfl)) ?_; (with_reducible refine (spec_l14List.calls k _ _ l0 true _ ?side1 ?side2 A7.out).mono ?_); (case side1 => repeat (first | exact (Kd.C_below HR0.out HB.out) | (with_reducible refine Kd.C_alloc ?_ _) | (with_reducible refine Kd.C_drewN ?_ _) | (with_reducible refine Kd.C_drew ?_))); (case side2 => exact HC0.out); rintro e w14 ⟨rfl, hb⟩; refine ⟨_, rfl, ?_⟩; have n0_ := Aside0.mk (below_step (by repeat (first | (with_reducible first | exact HB.out | apply below_alloc | apply pw_below_drewN | apply below_drew1) | exact HB.out)) hb); clear HB; have HB := n0_; clear n0_; (try clear hb); (try clear hb2); (try clear hk); (try clear hi); have p445 : 0 ≤ (t443 : Int) := of_decide_eq_true (by first | (with_reducible assumption) | assumption); have q445 : t443 < (l0.length : Int) := of_decide_eq_true (by first | (with_reducible assumption) | assumption); obtain ⟨ad445, e445, hx445_0, hx445_1, hx445_2, hx445_3, hx445_4, hx445_5⟩ := at_T37 HR0.out t443 p445 q445; cases e445; replace hx445_0 := (HB.out.cell (World.block_lt_of_cell? w _ hx445_0)).trans hx445_0; replace hx445_1 := (HB.out.cell (World.block_lt_of_cell? w _ hx445_1)).trans hx445_1; replace hx445_2 := (HB.out.cell (World.block_lt_of_cell? w _ hx445_2)).trans hx445_2; replace hx445_3 := (HB.out.cell (World.block_lt_of_cell? w _ hx445_3)).trans hx445_3; replace hx445_4 := (HB.out.cell (World.block_lt_of_cell? w _ hx445_4)).trans hx445_4; replace hx445_5 := (HB.out.cell (World.block_lt_of_cell? w _ hx445_5)).trans hx445_5; replace p445 := eq_true p445; replace q445 := eq_true q445))
       go_meet
       case rel => exact ⟨_, (true), (by first | rfl | (simp; done) | (simp [*]; done)), H', ⟨by first | omega | exact Nat.le_refl _⟩, ⟨by repeat (first | (with_reducible first | exact HB.out | apply below_alloc | apply pw_below_drewN | apply below_drew1) | exact HB.out)⟩⟩
      ·
       rw [if_neg c13] at H
       have c13b0 : (((rd_T37 l0 t443).f2) == a2) = false := beq_eq_false_iff_ne.mpr c13
       have c13b1 : (((rd_T37 l0 t443).f2) != a2) = true := bne_iff_ne.mpr c13
       have H' := Aside0.mk H
       clear H
       go_wp2_with (first | ((with_reducible refine gate_callee (f := 28) rfl ?_); refine goesL_ (some 19) rfl rfl Try.func28 (by kernel_rfl) rfl #[.slice A0 l0.length c0] rfl (by (try simp only [List.map_toArray, List.map_cons, List.map_nil]); first | done | rfl | (simp only [List.length_drop, List.length_take]; rfl)) ?_; (with_reducible refine (spec_l14List.calls k _ _ l0 true _ ?side1 ?side2 A7.out).mono ?_); (case side1 => repeat (first | exact (Kd.C_below HR0.out HB.out) | (with_reducible refine Kd.C_alloc ?_ _) | (with_reducible refine Kd.C_drewN ?_ _) | (with_reducible refine Kd.C_drew ?_))); (case side2 => exact HC0.out); rintro e w15 ⟨rfl, hb⟩; refine ⟨_, rfl, ?_⟩; have n0_ := Aside0.mk (below_step (by repeat (first | (with_reducible first | exact HB.out | apply below_alloc | apply pw_below_drewN | apply below_drew1) | exact HB.out)) hb); clear HB; have HB := n0_; clear n0_; (try clear hb); (try clear hb2); (try clear hk); (try clear hi); have p445 : 0 ≤ (t443 : Int) := of_decide_eq_true (by first | (with_reducible assumption) | assumption); have q445 : t443 < (l0.length : Int) := of_decide_eq_true (by first | (with_reducible assumption) | assumption); obtain ⟨ad445, e445, hx445_0, hx445_1, hx445_2, hx445_3, hx445_4, hx445_5⟩ := at_T37 HR0.out t443 p445 q445; cases e445; replace hx445_0 := (HB.out.cell (World.block_lt_of_cell? w _ hx445_0)).trans hx445_0; replace hx445_1 := (HB.out.cell (World.block_lt_of_cell? w _ hx445_1)).trans hx445_1; replace hx445_2 := (HB.out.cell (World.block_lt_of_cell? w _ hx445_2)).trans hx445_2; replace hx445_3 := (HB.out.cell (World.block_lt_of_cell? w _ hx445_3)).trans hx445_3; replace hx445_4 := (HB.out.cell (World.block_lt_of_cell? w _ hx445_4)).trans hx445_4; replace hx445_5 := (HB.out.cell (World.block_lt_of_cell? w _ hx445_5)).trans hx445_5; replace p445 := eq_true p445; replace q445 := eq_true q445; have p446 : 0 ≤ (t443 : Int) := of_decide_eq_true (by first | (with_reducible assumption) | assumption); have q446 : t443 < (l0.length : Int) := of_decide_eq_true (by first | (with_reducible assumption) | assumption); obtain ⟨ad446, e446, hx446_0, hx446_1, hx446_2, hx446_3, hx446_4, hx446_5⟩ := at_T37 HR0.out t443 p446 q446; obtain rfl : ad445 = ad446 := (by injection e446); replace hx446_0 := (HB.out.cell (World.block_lt_of_cell? w _ hx446_0)).trans hx446_0; replace hx446_1 := (HB.out.cell (World.block_lt_of_cell? w _ hx446_1)).trans hx446_1; replace hx446_2 := (HB.out.cell (World.block_lt_of_cell? w _ hx446_2)).trans hx446_2; replace hx446_3 := (HB.out.cell (World.block_lt_of_cell? w _ hx446_3)).trans hx446_3; replace hx446_4 := (HB.out.cell (World.block_lt_of_cell? w _ hx446_4)).trans hx446_4; replace hx446_5 := (HB.out.cell (World.block_lt_of_cell? w _ hx446_5)).trans hx446_5; replace p446 := eq_true p446; replace q446 := eq_true q446))
       go_meet
       case rel => exact ⟨_, (decide (a3 ≥ ((rd_T37 l0 t443).f5))), (by first | rfl | (simp; done) | (simp [*]; done)), H', ⟨by first | omega | exact Nat.le_refl _⟩, ⟨by repeat (first | (with_reducible first | exact HB.out | apply below_alloc | apply pw_below_drewN | apply below_drew1) | exact HB.out)⟩⟩
     ·
      rw [if_neg c12] at H
      exact absurd H (by simp)
    ·
     rw [if_neg c11] at H
     exact absurd H (by simp)
  ·
   replace c8 := Bool.eq_false_iff.mpr c8
   subst c8
   have H1 : (spec_ChangeLevel.j0 k l0 a1 a2 a3 t443 true) = some (r1, r2, r3) := by rw [if_neg (show ¬ (false = true) by decide)] at H; exact H
   clear H
   have H := H1
   clear H1
   have H' := Aside0.mk H
   clear H
   go_wp2_with (first | ((with_reducible refine gate_callee (f := 28) rfl ?_); refine goesL_ (some 19) rfl rfl Try.func28 (by kernel_rfl) rfl #[.slice A0 l0.length c0] rfl (by (try simp only [List.map_toArray, List.map_cons, List.map_nil]); first | done | rfl | (simp only [List.length_drop, List.length_take]; rfl)) ?_; (with_reducible refine (spec_l14List.calls k _ _ l0 false _ ?side1 ?side2 A7.out).mono ?_); (case side1 => repeat (first | exact (Kd.C_below HR0.out HB.out) | (with_reducible refine Kd.C_alloc ?_ _) | (with_reducible refine Kd.C_drewN ?_ _) | (with_reducible refine Kd.C_drew ?_))); (case side2 => exact HC0.out); rintro e w16 ⟨rfl, hb⟩; refine ⟨_, rfl, ?_⟩; have n0_ := Aside0.mk (below_step (by repeat (first | (with_reducible first | exact HB.out | apply below_alloc | apply pw_below_drewN | apply below_drew1) | exact HB.out)) hb); clear HB; have HB := n0_; clear n0_; (try clear hb); (try clear hb2); (try clear hk); (try clear hi)))
   go_meet
   case rel => exact ⟨_, (true), (by first | rfl | (simp; done) | (simp [*]; done)), H', ⟨by first | omega | exact Nat.le_refl _⟩, ⟨by repeat (first | (with_reducible first | exact HB.out | apply below_alloc | apply pw_below_drewN | apply below_drew1) | exact HB.out)⟩⟩
 case rest =>
  clear HC6
  try clear c1
  try clear c2
  try clear p2
  try clear c4
  try clear p4
  try clear q4
  try clear hx4
  try clear c8
  try clear c9
  try clear c9b0
  try clear c11
  try clear c11b0
  try clear c12
  try clear c12b0
  try clear c13
  try clear c13b0
  try clear c13b1
  try clear hx445_0
  try clear hx445_1
  try clear hx445_2
  try clear hx445_3
  try clear hx445_4
  try clear hx445_5
  try clear hx446_0
  try clear hx446_1
  try clear hx446_2
  try clear hx446_3
  try clear hx446_4
  try clear hx446_5
  try clear p445
  try clear p446
  try clear q445
  try clear q446
  obtain ⟨kq, x42_5, rfl, HA, HJ5, HB⟩ := hcut
  cases kq with
  | zero => exact absurd HA.out (by simp [spec_ChangeLevel.j0])
  | succ kj5 =>
   have H := HA.out
   clear HA
   simp only [spec_ChangeLevel.j0] at H
   by_cases c17 : x42_5 = true
   ·
    subst c17
    have H1 : (some ((([] : List (S37))), 0, false)) = some (r1, r2, r3) := by rw [if_pos rfl] at H; exact H
    clear H
    have H := H1
    clear H1
    obtain ⟨y447, hy447⟩ : ∃ y_ : List (S37), y_ = (([] : List (S37))) := ⟨_, rfl⟩
    replace H : (some (y447, 0, false)) = some (r1, r2, r3) := by first | (rw [hy447]; with_reducible exact H) | (have H2_ := (Option.bind_some _ _).symm.trans H; rw [hy447]; with_reducible exact H2_) | (have H2_ := (Option.bind_some _ _).symm.trans H; with_reducible exact H2_) | with_reducible exact H | (rw [hy447]; exact H) | exact H
    have Ny447 := Aside0.mk hy447
    clear hy447
    simp only [Option.some.injEq, Prod.mk.injEq] at H
    obtain ⟨rfl, rfl, rfl⟩ := H
    go_wp2_with (first | ((with_reducible refine gate_dst (N := 43) rfl ?_); refine Kd.R_lit k37 _ 37 ?hg (N := 43) ?hd (xs := ([] : List (S37))) (inner := []) (ok := fun _ => True) (okp := fun _ => True) ?hr ?hp (fun _ hk => hk) trivial (Below.refl _ _) (Nat.le_refl _) (by simp) ?_; (case hd => rfl); (case hg => rfl); (case hr => first | (go_simp; done) | (go_simp; rfl)); (case hp => exact (Reps.none _ _)); intro v448 w18 ho19 hb hg_ hnew_; clear hg_ hnew_; (first | rw [← Ny447.out] at ho19 | (simp only [Int.reduceToNat] at ho19; rw [← Ny447.out] at ho19)); have n0_ := Aside0.mk (Kd.R_lower ho19 (below_size (by repeat (first | (with_reducible first | exact HB.out | apply below_alloc | apply pw_below_drewN | apply below_drew1) | exact HB.out)))); have n1_ := Aside0.mk (below_step (by repeat (first | (with_reducible first | exact HB.out | apply below_alloc | apply pw_below_drewN | apply below_drew1) | exact HB.out)) hb); clear HB; have HO449 := n0_; have HB := n1_; clear n0_ n1_; clear hb ho19))
    go_ret3
    exact ⟨_, by first | rfl | (simp [errW_none, errW_some] <;> rfl) | (simp [*, errW_none, errW_some] <;> rfl), by (with_reducible repeat (first | apply Kd.R_alloc | apply Kd.R_drewN | apply Kd.R_drew)); exact HO449.out, by repeat (first | (with_reducible first | exact HB.out | apply below_alloc | apply pw_below_drewN | apply below_drew1) | exact HB.out)⟩
   ·
    replace c17 := Bool.eq_false_iff.mpr c17
    subst c17
    have H1 : (if 0 ≤ t443 then (if t443 < (l0.length : Int) then (if a3 ≤ ((rd_T37 l0 t443).f4) then ((spec_l14With.f l0 t443 ((rd_T37 l0 t443).f0) ((rd_T37 l0 t443).f1) a2 ((rd_T37 l0 t443).f3) ((rd_T37 l0 t443).f4) ((rd_T37 l0 t443).f5)).bind fun t452 => ((spec_l14List.f kj5 t452).bind fun t455 => (if t455 = true then (some (t452, a1, true)) else (some ((([] : List (S37))), 0, false))))) else ((spec_l14With.f l0 t443 ((rd_T37 l0 t443).f0) ((rd_T37 l0 t443).f1) ((rd_T37 l0 t443).f2) ((rd_T37 l0 t443).f3) ((rd_T37 l0 t443).f4) a3).bind fun t460 => ((spec_l14Issue.f t460 ((rd_T37 l0 t443).f0) ((rd_T37 l0 t443).f1) a2 ((rd_T37 l0 t443).f3) a3 ((rd_T37 l0 t443).f5)).bind fun bt463 => ((spec_l14List.f kj5 bt463.1).bind fun t467 => (if t467 = true then (some (bt463.1, bt463.2, true)) else (some ((([] : List (S37))), 0, false))))))) else (none)) else (none)) = some (r1, r2, r3) := by rw [if_neg (show ¬ (false = true) by decide)] at H; exact H
    clear H
    have H := H1
    clear H1
    by_cases c20 : 0 ≤ t443
    ·
     rw [if_pos c20] at H
     have c20b0 : decide (0 ≤ t443) = true := decide_eq_true c20
     clear c20
     by_cases c21 : t443 < (l0.length : Int)
     ·
      rw [if_pos c21] at H
      have c21b0 : decide (t443 < (l0.length : Int)) = true := decide_eq_true c21
      clear c21
      by_cases c22 : a3 ≤ ((rd_T37 l0 t443).f4)
      ·
       rw [if_pos c22] at H
       have c22b0 : decide (a3 ≤ ((rd_T37 l0 t443).f4)) = true := decide_eq_true c22
       clear c22
       replace H := Option.bind_eq_some_iff.mp H
       obtain ⟨t452, A230, H⟩ := H
       replace H : ((spec_l14List.f kj5 t452).bind fun t455 => (if t455 = true then (some (t452, a1, true)) else (some ((([] : List (S37))), 0, false)))) = some (r1, r2, r3) := H
       have A23 := Aside0.mk A230
       clear A230
       replace H := Option.bind_eq_some_iff.mp H
       obtain ⟨t455, A240, H⟩ := H
       replace H : (if t455 = true then (some (t452, a1, true)) else (some ((([] : List (S37))), 0, false))) = some (r1, r2, r3) := H
       have A24 := Aside0.mk A240
       clear A240
       by_cases c25 : t455 = true
       ·
        subst c25
        have H1 : (some (t452, a1, true)) = some (r1, r2, r3) := by rw [if_pos rfl] at H; exact H
        clear H
        have H := H1
        clear H1
        simp only [Option.some.injEq, Prod.mk.injEq] at H
        obtain ⟨rfl, rfl, rfl⟩ := H
        have p450 : 0 ≤ (t443 : Int) := of_decide_eq_true (by first | (with_reducible assumption) | assumption)
        have q450 : t443 < (l0.length : Int) := of_decide_eq_true (by first | (with_reducible assumption) | assumption)
        obtain ⟨ad450, e450, hx450_0, hx450_1, hx450_2, hx450_3, hx450_4, hx450_5⟩ := at_T37 HR0.out t443 p450 q450
        cases e450
        replace hx450_0 := (HB.out.cell (World.block_lt_of_cell? w _ hx450_0)).trans hx450_0
        replace hx450_1 := (HB.out.cell (World.block_lt_of_cell? w _ hx450_1)).trans hx450_1
        replace hx450_2 := (HB.out.cell (World.block_lt_of_cell? w _ hx450_2)).trans hx450_2
        replace hx450_3 := (HB.out.cell (World.block_lt_of_cell? w _ hx450_3)).trans hx450_3
        replace hx450_4 := (HB.out.cell (World.block_lt_of_cell? w _ hx450_4)).trans hx450_4
        replace hx450_5 := (HB.out.cell (World.block_lt_of_cell? w _ hx450_5)).trans hx450_5
        replace p450 := eq_true p450
        replace q450 := eq_true q450
        go_wp2_with (first | ((with_reducible refine gate_dst (N := 12) rfl ?_); refine box_event ?hg (N := 12) ?hd (cs := #[.int .i64 0, .int .i64 0, .int .i64 0, .int .i64 0, .int .i64 0, .int .i64 0]) (t := 37) ?hr ?_; (case hd => rfl); (case hg => rfl); (case hr => first | (go_simp; done) | (go_simp; rfl)); intro gb451 hg w26 hbox hb; have n0_ := Aside0.mk (below_step (by repeat (first | (with_reducible first | exact HB.out | apply below_alloc | apply pw_below_drewN | apply below_drew1) | exact HB.out)) hb); have n1_ := Aside0.mk (hbox); have n2_ := Aside0.mk ((by rw [hg]; exact (below_size (by repeat (first | (with_reducible first | exact HB.out | apply below_alloc | apply pw_below_drewN | apply below_drew1) | exact HB.out))) : w.heap.size ≤ gb451)); have n3_ := Aside0.mk ((by rw [hg]; exact (below_size (by repeat (first | (with_reducible first | exact HB.out | apply below_alloc | apply pw_below_drewN | apply below_drew1) | exact HB.out))) : w.heap.size ≤ gb451)); clear HB; have HB := n0_; have BK451 := n1_; have GW451 := n2_; have GE451 := n3_; clear n0_ n1_ n2_ n3_; clear hb hbox hg; have hcz27_0 : w26.cell? ⟨gb451, 0, none⟩ = some (.int .i64 0) := (blk_cell BK451.out 0).trans rfl; have hcz27_1 : w26.cell? ⟨gb451, 1, none⟩ = some (.int .i64 0) := (blk_cell BK451.out 1).trans rfl; have hcz27_2 : w26.cell? ⟨gb451, 2, none⟩ = some (.int .i64 0) := (blk_cell BK451.out 2).trans rfl; have hcz27_3 : w26.cell? ⟨gb451, 3, none⟩ = some (.int .i64 0) := (blk_cell BK451.out 3).trans rfl; have hcz27_4 : w26.cell? ⟨gb451, 4, none⟩ = some (.int .i64 0) := (blk_cell BK451.out 4).trans rfl; have hcz27_5 : w26.cell? ⟨gb451, 5, none⟩ = some (.int .i64 0) := (blk_cell BK451.out 5).trans rfl; have hl27_0 : ∀ v0 v1 v2 v3 v4 v5 u0 : Value, (((((((w26.setCell ⟨gb451, 0, none⟩ v0).setCell ⟨gb451, 1, none⟩ v1).setCell ⟨gb451, 2, none⟩ v2).setCell ⟨gb451, 3, none⟩ v3).setCell ⟨gb451, 4, none⟩ v4).setCell ⟨gb451, 5, none⟩ v5).setCell ⟨gb451, 2, none⟩ u0).cell? ⟨gb451, 2, none⟩ = some u0 := fun v0 v1 v2 v3 v4 v5 u0 => (blk_cell (blk_set (blk_set (blk_set (blk_set (blk_set (blk_set (blk_set BK451.out 0 v0) 1 v1) 2 v2) 3 v3) 4 v4) 5 v5) 2 u0) 2).trans (by simp); have hl27_1 : ∀ v0 v1 v2 v3 v4 v5 u0 u1 : Value, ((((((((w26.setCell ⟨gb451, 0, none⟩ v0).setCell ⟨gb451, 1, none⟩ v1).setCell ⟨gb451, 2, none⟩ v2).setCell ⟨gb451, 3, none⟩ v3).setCell ⟨gb451, 4, none⟩ v4).setCell ⟨gb451, 5, none⟩ v5).setCell ⟨gb451, 2, none⟩ u0).setCell ⟨gb451, 4, none⟩ u1).cell? ⟨gb451, 4, none⟩ = some u1 := fun v0 v1 v2 v3 v4 v5 u0 u1 => (blk_cell (blk_set (blk_set (blk_set (blk_set (blk_set (blk_set (blk_set (blk_set BK451.out 0 v0) 1 v1) 2 v2) 3 v3) 4 v4) 5 v5) 2 u0) 4 u1) 4).trans (by simp); have hl27_2 : ∀ v0 v1 v2 v3 v4 v5 u0 : Value, (((((((w26.setCell ⟨gb451, 0, none⟩ v0).setCell ⟨gb451, 1, none⟩ v1).setCell ⟨gb451, 2, none⟩ v2).setCell ⟨gb451, 3, none⟩ v3).setCell ⟨gb451, 4, none⟩ v4).setCell ⟨gb451, 5, none⟩ v5).setCell ⟨gb451, 5, none⟩ u0).cell? ⟨gb451, 5, none⟩ = some u0 := fun v0 v1 v2 v3 v4 v5 u0 => (blk_cell (blk_set (blk_set (blk_set (blk_set (blk_set (blk_set (blk_set BK451.out 0 v0) 1 v1) 2 v2) 3 v3) 4 v4) 5 v5) 5 u0) 5).trans (by simp); have hfz27_0 := blk_frozen BK451.out 0; have hfz27_1 := blk_frozen BK451.out 1; have hfz27_2 := blk_frozen BK451.out 2; have hfz27_3 := blk_frozen BK451.out 3; have hfz27_4 := blk_frozen BK451.out 4; have hfz27_5 := blk_frozen BK451.out 5) | ((with_reducible refine gate_callee (f := 47) rfl ?_); refine goesL_ (some 58) rfl rfl Try.func47 (by kernel_rfl) rfl #[.slice (some ad450) l0.length c0, .int .i64 t443, .agg #[.int .i64 ((rd_T37 l0 t443).f0), .int .i64 ((rd_T37 l0 t443).f1), .int .i64 a2, .int .i64 ((rd_T37 l0 t443).f3), .int .i64 ((rd_T37 l0 t443).f4), .int .i64 ((rd_T37 l0 t443).f5)]] rfl (by (try simp only [List.map_toArray, List.map_cons, List.map_nil]); first | done | rfl | (simp only [List.length_drop, List.length_take]; rfl)) ?_; (with_reducible refine (spec_l14With.calls _ _ l0 t443 ((rd_T37 l0 t443).f0) ((rd_T37 l0 t443).f1) a2 ((rd_T37 l0 t443).f3) ((rd_T37 l0 t443).f4) ((rd_T37 l0 t443).f5) t452 _ ?side1 ?side2 A23.out).mono ?_); (case side1 => exact Kd.C_below HR0.out (by repeat (first | (with_reducible first | exact HB.out | apply below_alloc | apply pw_below_drewN | apply below_drew1 | refine below_set ?_ GE451.out) | exact HB.out))); (case side2 => exact HC0.out); rintro e w28 ⟨v453, rfl, ho0, hb⟩; refine ⟨_, rfl, ?_⟩; have n0_ := Aside0.mk (Kd.R_lower (Kd.R_newB ho0 (g := gb451) (o := .cells #[.int .i64 ((rd_T37 l0 t443).f0), .int .i64 ((rd_T37 l0 t443).f1), .int .i64 a2, .int .i64 ((rd_T37 l0 t443).f3), .int .i64 ((rd_T37 l0 t443).f4), .int .i64 ((rd_T37 l0 t443).f5)] 37 (0, 0)) (by (with_reducible repeat (first | refine blk_drewN ?_ _ | refine blk_drew ?_ | refine blk_alloc ?_ _)); refine blk_put (cs := #[.int .i64 ((rd_T37 l0 t443).f0), .int .i64 ((rd_T37 l0 t443).f1), .int .i64 ((rd_T37 l0 t443).f2), .int .i64 ((rd_T37 l0 t443).f3), .int .i64 ((rd_T37 l0 t443).f4), .int .i64 ((rd_T37 l0 t443).f5)]) ?_ 2 _ rfl; (with_reducible repeat (first | refine blk_drewN ?_ _ | refine blk_drew ?_ | refine blk_alloc ?_ _)); refine blk_put (cs := #[.int .i64 ((rd_T37 l0 t443).f0), .int .i64 ((rd_T37 l0 t443).f1), .int .i64 ((rd_T37 l0 t443).f2), .int .i64 ((rd_T37 l0 t443).f3), .int .i64 ((rd_T37 l0 t443).f4), .int .i64 0]) ?_ 5 _ rfl; (with_reducible repeat (first | refine blk_drewN ?_ _ | refine blk_drew ?_ | refine blk_alloc ?_ _)); refine blk_put (cs := #[.int .i64 ((rd_T37 l0 t443).f0), .int .i64 ((rd_T37 l0 t443).f1), .int .i64 ((rd_T37 l0 t443).f2), .int .i64 ((rd_T37 l0 t443).f3), .int .i64 0, .int .i64 0]) ?_ 4 _ rfl; (with_reducible repeat (first | refine blk_drewN ?_ _ | refine blk_drew ?_ | refine blk_alloc ?_ _)); refine blk_put (cs := #[.int .i64 ((rd_T37 l0 t443).f0), .int .i64 ((rd_T37 l0 t443).f1), .int .i64 ((rd_T37 l0 t443).f2), .int .i64 0, .int .i64 0, .int .i64 0]) ?_ 3 _ rfl; (with_reducible repeat (first | refine blk_drewN ?_ _ | refine blk_drew ?_ | refine blk_alloc ?_ _)); refine blk_put (cs := #[.int .i64 ((rd_T37 l0 t443).f0), .int .i64 ((rd_T37 l0 t443).f1), .int .i64 0, .int .i64 0, .int .i64 0, .int .i64 0]) ?_ 2 _ rfl; (with_reducible repeat (first | refine blk_drewN ?_ _ | refine blk_drew ?_ | refine blk_alloc ?_ _)); refine blk_put (cs := #[.int .i64 ((rd_T37 l0 t443).f0), .int .i64 0, .int .i64 0, .int .i64 0, .int .i64 0, .int .i64 0]) ?_ 1 _ rfl; (with_reducible repeat (first | refine blk_drewN ?_ _ | refine blk_drew ?_ | refine blk_alloc ?_ _)); refine blk_put (cs := #[.int .i64 0, .int .i64 0, .int .i64 0, .int .i64 0, .int .i64 0, .int .i64 0]) ?_ 0 _ rfl; (with_reducible repeat (first | refine blk_drewN ?_ _ | refine blk_drew ?_ | refine blk_alloc ?_ _)); exact BK451.out)) (below_size (by repeat (first | (with_reducible first | exact HB.out | apply below_alloc | apply pw_below_drewN | apply below_drew1 | refine below_set ?_ GE451.out) | exact HB.out)))); have n1_ := Aside0.mk (blk_below (g := gb451) (o := .cells #[.int .i64 ((rd_T37 l0 t443).f0), .int .i64 ((rd_T37 l0 t443).f1), .int .i64 a2, .int .i64 ((rd_T37 l0 t443).f3), .int .i64 ((rd_T37 l0 t443).f4), .int .i64 ((rd_T37 l0 t443).f5)] 37 (0, 0)) (by (with_reducible repeat (first | refine blk_drewN ?_ _ | refine blk_drew ?_ | refine blk_alloc ?_ _)); refine blk_put (cs := #[.int .i64 ((rd_T37 l0 t443).f0), .int .i64 ((rd_T37 l0 t443).f1), .int .i64 ((rd_T37 l0 t443).f2), .int .i64 ((rd_T37 l0 t443).f3), .int .i64 ((rd_T37 l0 t443).f4), .int .i64 ((rd_T37 l0 t443).f5)]) ?_ 2 _ rfl; (with_reducible repeat (first | refine blk_drewN ?_ _ | refine blk_drew ?_ | refine blk_alloc ?_ _)); refine blk_put (cs := #[.int .i64 ((rd_T37 l0 t443).f0), .int .i64 ((rd_T37 l0 t443).f1), .int .i64 ((rd_T37 l0 t443).f2), .int .i64 ((rd_T37 l0 t443).f3), .int .i64 ((rd_T37 l0 t443).f4), .int .i64 0]) ?_ 5 _ rfl; (with_reducible repeat (first | refine blk_drewN ?_ _ | refine blk_drew ?_ | refine blk_alloc ?_ _)); refine blk_put (cs := #[.int .i64 ((rd_T37 l0 t443).f0), .int .i64 ((rd_T37 l0 t443).f1), .int .i64 ((rd_T37 l0 t443).f2), .int .i64 ((rd_T37 l0 t443).f3), .int .i64 0, .int .i64 0]) ?_ 4 _ rfl; (with_reducible repeat (first | refine blk_drewN ?_ _ | refine blk_drew ?_ | refine blk_alloc ?_ _)); refine blk_put (cs := #[.int .i64 ((rd_T37 l0 t443).f0), .int .i64 ((rd_T37 l0 t443).f1), .int .i64 ((rd_T37 l0 t443).f2), .int .i64 0, .int .i64 0, .int .i64 0]) ?_ 3 _ rfl; (with_reducible repeat (first | refine blk_drewN ?_ _ | refine blk_drew ?_ | refine blk_alloc ?_ _)); refine blk_put (cs := #[.int .i64 ((rd_T37 l0 t443).f0), .int .i64 ((rd_T37 l0 t443).f1), .int .i64 0, .int .i64 0, .int .i64 0, .int .i64 0]) ?_ 2 _ rfl; (with_reducible repeat (first | refine blk_drewN ?_ _ | refine blk_drew ?_ | refine blk_alloc ?_ _)); refine blk_put (cs := #[.int .i64 ((rd_T37 l0 t443).f0), .int .i64 0, .int .i64 0, .int .i64 0, .int .i64 0, .int .i64 0]) ?_ 1 _ rfl; (with_reducible repeat (first | refine blk_drewN ?_ _ | refine blk_drew ?_ | refine blk_alloc ?_ _)); refine blk_put (cs := #[.int .i64 0, .int .i64 0, .int .i64 0, .int .i64 0, .int .i64 0, .int .i64 0]) ?_ 0 _ rfl; (with_reducible repeat (first | refine blk_drewN ?_ _ | refine blk_drew ?_ | refine blk_alloc ?_ _)); exact BK451.out) hb); have n2_ := Aside0.mk (below_step (by repeat (first | (with_reducible first | exact HB.out | apply below_alloc | apply pw_below_drewN | apply below_drew1 | refine below_set ?_ GE451.out) | exact HB.out)) hb); clear BK451; clear HB; have HO454 := n0_; have BK451 := n1_; have HB := n2_; clear n0_ n1_ n2_; (try clear hb); (try clear hb2); (try clear hk); (try clear hi); (try clear ho0); obtain ⟨Ao29, co29, eo29⟩ := Kd.R_slice HO454.out; subst eo29) | ((with_reducible refine gate_callee (f := 28) rfl ?_); refine goesL_ (some 76) rfl rfl Try.func28 (by kernel_rfl) rfl #[.slice Ao29 t452.length co29] rfl (by (try simp only [List.map_toArray, List.map_cons, List.map_nil]); first | done | rfl | (simp only [List.length_drop, List.length_take]; rfl)) ?_; (with_reducible refine (spec_l14List.calls kj5 _ _ t452 true _ ?side1 ?side2 A24.out).mono ?_); (case side1 => repeat (first | exact (Kd.R_reads' HO454.out).2.2 | (with_reducible refine Kd.C_alloc ?_ _) | (with_reducible refine Kd.C_drewN ?_ _) | (with_reducible refine Kd.C_drew ?_))); (case side2 => exact (Kd.R_reads' HO454.out).2.1); rintro e w30 ⟨rfl, hb⟩; refine ⟨_, rfl, ?_⟩; have n0_ := Aside0.mk (Kd.R_below (by (with_reducible repeat (first | apply Kd.R_alloc | apply Kd.R_drewN | apply Kd.R_drew)); exact HO454.out) hb); have n1_ := Aside0.mk (blk_below (g := gb451) (o := .cells #[.int .i64 ((rd_T37 l0 t443).f0), .int .i64 ((rd_T37 l0 t443).f1), .int .i64 a2, .int .i64 ((rd_T37 l0 t443).f3), .int .i64 ((rd_T37 l0 t443).f4), .int .i64 ((rd_T37 l0 t443).f5)] 37 (0, 0)) (by (with_reducible repeat (first | refine blk_drewN ?_ _ | refine blk_drew ?_ | refine blk_alloc ?_ _)); exact BK451.out) hb); have n2_ := Aside0.mk (below_step (by repeat (first | (with_reducible first | exact HB.out | apply below_alloc | apply pw_below_drewN | apply below_drew1 | refine below_set ?_ GE451.out) | exact HB.out)) hb); clear HO454; clear BK451; clear HB; have HO454 := n0_; have BK451 := n1_; have HB := n2_; clear n0_ n1_ n2_; (try clear hb); (try clear hb2); (try clear hk); (try clear hi)))
        go_ret3
        exact ⟨_, by first | rfl | (simp [errW_none, errW_some] <;> rfl) | (simp [*, errW_none, errW_some] <;> rfl), by (with_reducible repeat (first | apply Kd.R_alloc | apply Kd.R_drewN | apply Kd.R_drew)); exact Kd.R_mono HO454.out (fun _ hk => trivial), by repeat (first | (with_reducible first | exact HB.out | apply below_alloc | apply pw_below_drewN | apply below_drew1 | refine below_set ?_ GE451.out) | exact HB.out)⟩
       ·
        replace c25 := Bool.eq_false_iff.mpr c25
        subst c25
        have H1 : (some ((([] : List (S37))), 0, false)) = some (r1, r2, r3) := by rw [if_neg (show ¬ (false = true) by decide)] at H; exact H
        clear H
        have H := H1
        clear H1
        obtain ⟨y456, hy456⟩ : ∃ y_ : List (S37), y_ = (([] : List (S37))) := ⟨_, rfl⟩
        replace H : (some (y456, 0, false)) = some (r1, r2, r3) := by first | (rw [hy456]; with_reducible exact H) | (have H2_ := (Option.bind_some _ _).symm.trans H; rw [hy456]; with_reducible exact H2_) | (have H2_ := (Option.bind_some _ _).symm.trans H; with_reducible exact H2_) | with_reducible exact H | (rw [hy456]; exact H) | exact H
        have Ny456 := Aside0.mk hy456
        clear hy456
        simp only [Option.some.injEq, Prod.mk.injEq] at H
        obtain ⟨rfl, rfl, rfl⟩ := H
        have p450 : 0 ≤ (t443 : Int) := of_decide_eq_true (by first | (with_reducible assumption) | assumption)
        have q450 : t443 < (l0.length : Int) := of_decide_eq_true (by first | (with_reducible assumption) | assumption)
        obtain ⟨ad450, e450, hx450_0, hx450_1, hx450_2, hx450_3, hx450_4, hx450_5⟩ := at_T37 HR0.out t443 p450 q450
        cases e450
        replace hx450_0 := (HB.out.cell (World.block_lt_of_cell? w _ hx450_0)).trans hx450_0
        replace hx450_1 := (HB.out.cell (World.block_lt_of_cell? w _ hx450_1)).trans hx450_1
        replace hx450_2 := (HB.out.cell (World.block_lt_of_cell? w _ hx450_2)).trans hx450_2
        replace hx450_3 := (HB.out.cell (World.block_lt_of_cell? w _ hx450_3)).trans hx450_3
        replace hx450_4 := (HB.out.cell (World.block_lt_of_cell? w _ hx450_4)).trans hx450_4
        replace hx450_5 := (HB.out.cell (World.block_lt_of_cell? w _ hx450_5)).trans hx450_5
        replace p450 := eq_true p450
        replace q450 := eq_true q450
        go_wp2_with (first | ((with_reducible refine gate_dst (N := 12) rfl ?_); refine box_event ?hg (N := 12) ?hd (cs := #[.int .i64 0, .int .i64 0, .int .i64 0, .int .i64 0, .int .i64 0, .int .i64 0]) (t := 37) ?hr ?_; (case hd => rfl); (case hg => rfl); (case hr => first | (go_simp; done) | (go_simp; rfl)); intro gb451 hg w31 hbox hb; have n0_ := Aside0.mk (below_step (by repeat (first | (with_reducible first | exact HB.out | apply below_alloc | apply pw_below_drewN | apply below_drew1) | exact HB.out)) hb); have n1_ := Aside0.mk (hbox); have n2_ := Aside0.mk ((by rw [hg]; exact (below_size (by repeat (first | (with_reducible first | exact HB.out | apply below_alloc | apply pw_below_drewN | apply below_drew1) | exact HB.out))) : w.heap.size ≤ gb451)); have n3_ := Aside0.mk ((by rw [hg]; exact (below_size (by repeat (first | (with_reducible first | exact HB.out | apply below_alloc | apply pw_below_drewN | apply below_drew1) | exact HB.out))) : w.heap.size ≤ gb451)); clear HB; have HB := n0_; have BK451 := n1_; have GW451 := n2_; have GE451 := n3_; clear n0_ n1_ n2_ n3_; clear hb hbox hg; have hcz32_0 : w31.cell? ⟨gb451, 0, none⟩ = some (.int .i64 0) := (blk_cell BK451.out 0).trans rfl; have hcz32_1 : w31.cell? ⟨gb451, 1, none⟩ = some (.int .i64 0) := (blk_cell BK451.out 1).trans rfl; have hcz32_2 : w31.cell? ⟨gb451, 2, none⟩ = some (.int .i64 0) := (blk_cell BK451.out 2).trans rfl; have hcz32_3 : w31.cell? ⟨gb451, 3, none⟩ = some (.int .i64 0) := (blk_cell BK451.out 3).trans rfl; have hcz32_4 : w31.cell? ⟨gb451, 4, none⟩ = some (.int .i64 0) := (blk_cell BK451.out 4).trans rfl; have hcz32_5 : w31.cell? ⟨gb451, 5, none⟩ = some (.int .i64 0) := (blk_cell BK451.out 5).trans rfl; have hl32_0 : ∀ v0 v1 v2 v3 v4 v5 u0 : Value, (((((((w31.setCell ⟨gb451, 0, none⟩ v0).setCell ⟨gb451, 1, none⟩ v1).setCell ⟨gb451, 2, none⟩ v2).setCell ⟨gb451, 3, none⟩ v3).setCell ⟨gb451, 4, none⟩ v4).setCell ⟨gb451, 5, none⟩ v5).setCell ⟨gb451, 2, none⟩ u0).cell? ⟨gb451, 2, none⟩ = some u0 := fun v0 v1 v2 v3 v4 v5 u0 => (blk_cell (blk_set (blk_set (blk_set (blk_set (blk_set (blk_set (blk_set BK451.out 0 v0) 1 v1) 2 v2) 3 v3) 4 v4) 5 v5) 2 u0) 2).trans (by simp); have hl32_1 : ∀ v0 v1 v2 v3 v4 v5 u0 u1 : Value, ((((((((w31.setCell ⟨gb451, 0, none⟩ v0).setCell ⟨gb451, 1, none⟩ v1).setCell ⟨gb451, 2, none⟩ v2).setCell ⟨gb451, 3, none⟩ v3).setCell ⟨gb451, 4, none⟩ v4).setCell ⟨gb451, 5, none⟩ v5).setCell ⟨gb451, 2, none⟩ u0).setCell ⟨gb451, 4, none⟩ u1).cell? ⟨gb451, 4, none⟩ = some u1 := fun v0 v1 v2 v3 v4 v5 u0 u1 => (blk_cell (blk_set (blk_set (blk_set (blk_set (blk_set (blk_set (blk_set (blk_set BK451.out 0 v0) 1 v1) 2 v2) 3 v3) 4 v4) 5 v5) 2 u0) 4 u1) 4).trans (by simp); have hl32_2 : ∀ v0 v1 v2 v3 v4 v5 u0 : Value, (((((((w31.setCell ⟨gb451, 0, none⟩ v0).setCell ⟨gb451, 1, none⟩ v1).setCell ⟨gb451, 2, none⟩ v2).setCell ⟨gb451, 3, none⟩ v3).setCell ⟨gb451, 4, none⟩ v4).setCell ⟨gb451, 5, none⟩ v5).setCell ⟨gb451, 5, none⟩ u0).cell? ⟨gb451, 5, none⟩ = some u0 := fun v0 v1 v2 v3 v4 v5 u0 => (blk_cell (blk_set (blk_set (blk_set (blk_set (blk_set (blk_set (blk_set BK451.out 0 v0) 1 v1) 2 v2) 3 v3) 4 v4) 5 v5) 5 u0) 5).trans (by simp); have hfz32_0 := blk_frozen BK451.out 0; have hfz32_1 := blk_frozen BK451.out 1; have hfz32_2 := blk_frozen BK451.out 2; have hfz32_3 := blk_frozen BK451.out 3; have hfz32_4 := blk_frozen BK451.out 4; have hfz32_5 := blk_frozen BK451.out 5) | ((with_reducible refine gate_callee (f := 47) rfl ?_); refine goesL_ (some 58) rfl rfl Try.func47 (by kernel_rfl) rfl #[.slice (some ad450) l0.length c0, .int .i64 t443, .agg #[.int .i64 ((rd_T37 l0 t443).f0), .int .i64 ((rd_T37 l0 t443).f1), .int .i64 a2, .int .i64 ((rd_T37 l0 t443).f3), .int .i64 ((rd_T37 l0 t443).f4), .int .i64 ((rd_T37 l0 t443).f5)]] rfl (by (try simp only [List.map_toArray, List.map_cons, List.map_nil]); first | done | rfl | (simp only [List.length_drop, List.length_take]; rfl)) ?_; (with_reducible refine (spec_l14With.calls _ _ l0 t443 ((rd_T37 l0 t443).f0) ((rd_T37 l0 t443).f1) a2 ((rd_T37 l0 t443).f3) ((rd_T37 l0 t443).f4) ((rd_T37 l0 t443).f5) t452 _ ?side1 ?side2 A23.out).mono ?_); (case side1 => exact Kd.C_below HR0.out (by repeat (first | (with_reducible first | exact HB.out | apply below_alloc | apply pw_below_drewN | apply below_drew1 | refine below_set ?_ GE451.out) | exact HB.out))); (case side2 => exact HC0.out); rintro e w33 ⟨v453, rfl, ho0, hb⟩; refine ⟨_, rfl, ?_⟩; have n0_ := Aside0.mk (Kd.R_lower (Kd.R_newB ho0 (g := gb451) (o := .cells #[.int .i64 ((rd_T37 l0 t443).f0), .int .i64 ((rd_T37 l0 t443).f1), .int .i64 a2, .int .i64 ((rd_T37 l0 t443).f3), .int .i64 ((rd_T37 l0 t443).f4), .int .i64 ((rd_T37 l0 t443).f5)] 37 (0, 0)) (by (with_reducible repeat (first | refine blk_drewN ?_ _ | refine blk_drew ?_ | refine blk_alloc ?_ _)); refine blk_put (cs := #[.int .i64 ((rd_T37 l0 t443).f0), .int .i64 ((rd_T37 l0 t443).f1), .int .i64 ((rd_T37 l0 t443).f2), .int .i64 ((rd_T37 l0 t443).f3), .int .i64 ((rd_T37 l0 t443).f4), .int .i64 ((rd_T37 l0 t443).f5)]) ?_ 2 _ rfl; (with_reducible repeat (first | refine blk_drewN ?_ _ | refine blk_drew ?_ | refine blk_alloc ?_ _)); refine blk_put (cs := #[.int .i64 ((rd_T37 l0 t443).f0), .int .i64 ((rd_T37 l0 t443).f1), .int .i64 ((rd_T37 l0 t443).f2), .int .i64 ((rd_T37 l0 t443).f3), .int .i64 ((rd_T37 l0 t443).f4), .int .i64 0]) ?_ 5 _ rfl; (with_reducible repeat (first | refine blk_drewN ?_ _ | refine blk_drew ?_ | refine blk_alloc ?_ _)); refine blk_put (cs := #[.int .i64 ((rd_T37 l0 t443).f0), .int .i64 ((rd_T37 l0 t443).f1), .int .i64 ((rd_T37 l0 t443).f2), .int .i64 ((rd_T37 l0 t443).f3), .int .i64 0, .int .i64 0]) ?_ 4 _ rfl; (with_reducible repeat (first | refine blk_drewN ?_ _ | refine blk_drew ?_ | refine blk_alloc ?_ _)); refine blk_put (cs := #[.int .i64 ((rd_T37 l0 t443).f0), .int .i64 ((rd_T37 l0 t443).f1), .int .i64 ((rd_T37 l0 t443).f2), .int .i64 0, .int .i64 0, .int .i64 0]) ?_ 3 _ rfl; (with_reducible repeat (first | refine blk_drewN ?_ _ | refine blk_drew ?_ | refine blk_alloc ?_ _)); refine blk_put (cs := #[.int .i64 ((rd_T37 l0 t443).f0), .int .i64 ((rd_T37 l0 t443).f1), .int .i64 0, .int .i64 0, .int .i64 0, .int .i64 0]) ?_ 2 _ rfl; (with_reducible repeat (first | refine blk_drewN ?_ _ | refine blk_drew ?_ | refine blk_alloc ?_ _)); refine blk_put (cs := #[.int .i64 ((rd_T37 l0 t443).f0), .int .i64 0, .int .i64 0, .int .i64 0, .int .i64 0, .int .i64 0]) ?_ 1 _ rfl; (with_reducible repeat (first | refine blk_drewN ?_ _ | refine blk_drew ?_ | refine blk_alloc ?_ _)); refine blk_put (cs := #[.int .i64 0, .int .i64 0, .int .i64 0, .int .i64 0, .int .i64 0, .int .i64 0]) ?_ 0 _ rfl; (with_reducible repeat (first | refine blk_drewN ?_ _ | refine blk_drew ?_ | refine blk_alloc ?_ _)); exact BK451.out)) (below_size (by repeat (first | (with_reducible first | exact HB.out | apply below_alloc | apply pw_below_drewN | apply below_drew1 | refine below_set ?_ GE451.out) | exact HB.out)))); have n1_ := Aside0.mk (blk_below (g := gb451) (o := .cells #[.int .i64 ((rd_T37 l0 t443).f0), .int .i64 ((rd_T37 l0 t443).f1), .int .i64 a2, .int .i64 ((rd_T37 l0 t443).f3), .int .i64 ((rd_T37 l0 t443).f4), .int .i64 ((rd_T37 l0 t443).f5)] 37 (0, 0)) (by (with_reducible repeat (first | refine blk_drewN ?_ _ | refine blk_drew ?_ | refine blk_alloc ?_ _)); refine blk_put (cs := #[.int .i64 ((rd_T37 l0 t443).f0), .int .i64 ((rd_T37 l0 t443).f1), .int .i64 ((rd_T37 l0 t443).f2), .int .i64 ((rd_T37 l0 t443).f3), .int .i64 ((rd_T37 l0 t443).f4), .int .i64 ((rd_T37 l0 t443).f5)]) ?_ 2 _ rfl; (with_reducible repeat (first | refine blk_drewN ?_ _ | refine blk_drew ?_ | refine blk_alloc ?_ _)); refine blk_put (cs := #[.int .i64 ((rd_T37 l0 t443).f0), .int .i64 ((rd_T37 l0 t443).f1), .int .i64 ((rd_T37 l0 t443).f2), .int .i64 ((rd_T37 l0 t443).f3), .int .i64 ((rd_T37 l0 t443).f4), .int .i64 0]) ?_ 5 _ rfl; (with_reducible repeat (first | refine blk_drewN ?_ _ | refine blk_drew ?_ | refine blk_alloc ?_ _)); refine blk_put (cs := #[.int .i64 ((rd_T37 l0 t443).f0), .int .i64 ((rd_T37 l0 t443).f1), .int .i64 ((rd_T37 l0 t443).f2), .int .i64 ((rd_T37 l0 t443).f3), .int .i64 0, .int .i64 0]) ?_ 4 _ rfl; (with_reducible repeat (first | refine blk_drewN ?_ _ | refine blk_drew ?_ | refine blk_alloc ?_ _)); refine blk_put (cs := #[.int .i64 ((rd_T37 l0 t443).f0), .int .i64 ((rd_T37 l0 t443).f1), .int .i64 ((rd_T37 l0 t443).f2), .int .i64 0, .int .i64 0, .int .i64 0]) ?_ 3 _ rfl; (with_reducible repeat (first | refine blk_drewN ?_ _ | refine blk_drew ?_ | refine blk_alloc ?_ _)); refine blk_put (cs := #[.int .i64 ((rd_T37 l0 t443).f0), .int .i64 ((rd_T37 l0 t443).f1), .int .i64 0, .int .i64 0, .int .i64 0, .int .i64 0]) ?_ 2 _ rfl; (with_reducible repeat (first | refine blk_drewN ?_ _ | refine blk_drew ?_ | refine blk_alloc ?_ _)); refine blk_put (cs := #[.int .i64 ((rd_T37 l0 t443).f0), .int .i64 0, .int .i64 0, .int .i64 0, .int .i64 0, .int .i64 0]) ?_ 1 _ rfl; (with_reducible repeat (first | refine blk_drewN ?_ _ | refine blk_drew ?_ | refine blk_alloc ?_ _)); refine blk_put (cs := #[.int .i64 0, .int .i64 0, .int .i64 0, .int .i64 0, .int .i64 0, .int .i64 0]) ?_ 0 _ rfl; (with_reducible repeat (first | refine blk_drewN ?_ _ | refine blk_drew ?_ | refine blk_alloc ?_ _)); exact BK451.out) hb); have n2_ := Aside0.mk (below_step (by repeat (first | (with_reducible first | exact HB.out | apply below_alloc | apply pw_below_drewN | apply below_drew1 | refine below_set ?_ GE451.out) | exact HB.out)) hb); clear BK451; clear HB; have HO454 := n0_; have BK451 := n1_; have HB := n2_; clear n0_ n1_ n2_; (try clear hb); (try clear hb2); (try clear hk); (try clear hi); (try clear ho0); obtain ⟨Ao34, co34, eo34⟩ := Kd.R_slice HO454.out; subst eo34) | ((with_reducible refine gate_callee (f := 28) rfl ?_); refine goesL_ (some 76) rfl rfl Try.func28 (by kernel_rfl) rfl #[.slice Ao34 t452.length co34] rfl (by (try simp only [List.map_toArray, List.map_cons, List.map_nil]); first | done | rfl | (simp only [List.length_drop, List.length_take]; rfl)) ?_; (with_reducible refine (spec_l14List.calls kj5 _ _ t452 false _ ?side1 ?side2 A24.out).mono ?_); (case side1 => repeat (first | exact (Kd.R_reads' HO454.out).2.2 | (with_reducible refine Kd.C_alloc ?_ _) | (with_reducible refine Kd.C_drewN ?_ _) | (with_reducible refine Kd.C_drew ?_))); (case side2 => exact (Kd.R_reads' HO454.out).2.1); rintro e w35 ⟨rfl, hb⟩; refine ⟨_, rfl, ?_⟩; have n0_ := Aside0.mk (Kd.R_below (by (with_reducible repeat (first | apply Kd.R_alloc | apply Kd.R_drewN | apply Kd.R_drew)); exact HO454.out) hb); have n1_ := Aside0.mk (blk_below (g := gb451) (o := .cells #[.int .i64 ((rd_T37 l0 t443).f0), .int .i64 ((rd_T37 l0 t443).f1), .int .i64 a2, .int .i64 ((rd_T37 l0 t443).f3), .int .i64 ((rd_T37 l0 t443).f4), .int .i64 ((rd_T37 l0 t443).f5)] 37 (0, 0)) (by (with_reducible repeat (first | refine blk_drewN ?_ _ | refine blk_drew ?_ | refine blk_alloc ?_ _)); exact BK451.out) hb); have n2_ := Aside0.mk (below_step (by repeat (first | (with_reducible first | exact HB.out | apply below_alloc | apply pw_below_drewN | apply below_drew1 | refine below_set ?_ GE451.out) | exact HB.out)) hb); clear HO454; clear BK451; clear HB; have HO454 := n0_; have BK451 := n1_; have HB := n2_; clear n0_ n1_ n2_; (try clear hb); (try clear hb2); (try clear hk); (try clear hi)) | ((with_reducible refine gate_dst (N := 78) rfl ?_); refine Kd.R_lit k37 _ 37 ?hg (N := 78) ?hd (xs := ([] : List (S37))) (inner := []) (ok := fun _ => True) (okp := fun _ => True) ?hr ?hp (fun _ hk => hk) trivial (Below.refl _ _) (Nat.le_refl _) (by simp) ?_; (case hd => rfl); (case hg => rfl); (case hr => first | (go_simp; done) | (go_simp; rfl)); (case hp => exact (Reps.none _ _)); intro v457 w36 ho37 hb hg_ hnew_; clear hg_ hnew_; (first | rw [← Ny456.out] at ho37 | (simp only [Int.reduceToNat] at ho37; rw [← Ny456.out] at ho37)); have n0_ := Aside0.mk (Kd.R_elder' (by (with_reducible repeat (first | apply Kd.R_alloc | apply Kd.R_drewN | apply Kd.R_drew)); exact HO454.out) (Kd.R_base ho37) hb); have n1_ := Aside0.mk (Kd.R_lower (Kd.R_newB (Kd.R_new' ho37 (Kd.R_lt (by (with_reducible repeat (first | apply Kd.R_alloc | apply Kd.R_drewN | apply Kd.R_drew)); exact HO454.out))) (g := gb451) (o := .cells #[.int .i64 ((rd_T37 l0 t443).f0), .int .i64 ((rd_T37 l0 t443).f1), .int .i64 a2, .int .i64 ((rd_T37 l0 t443).f3), .int .i64 ((rd_T37 l0 t443).f4), .int .i64 ((rd_T37 l0 t443).f5)] 37 (0, 0)) (by (with_reducible repeat (first | refine blk_drewN ?_ _ | refine blk_drew ?_ | refine blk_alloc ?_ _)); exact BK451.out)) (below_size (by repeat (first | (with_reducible first | exact HB.out | apply below_alloc | apply pw_below_drewN | apply below_drew1 | refine below_set ?_ GE451.out) | exact HB.out)))); have n2_ := Aside0.mk (blk_below (g := gb451) (o := .cells #[.int .i64 ((rd_T37 l0 t443).f0), .int .i64 ((rd_T37 l0 t443).f1), .int .i64 a2, .int .i64 ((rd_T37 l0 t443).f3), .int .i64 ((rd_T37 l0 t443).f4), .int .i64 ((rd_T37 l0 t443).f5)] 37 (0, 0)) (by (with_reducible repeat (first | refine blk_drewN ?_ _ | refine blk_drew ?_ | refine blk_alloc ?_ _)); exact BK451.out) hb); have n3_ := Aside0.mk (below_step (by repeat (first | (with_reducible first | exact HB.out | apply below_alloc | apply pw_below_drewN | apply below_drew1 | refine below_set ?_ GE451.out) | exact HB.out)) hb); clear HO454; clear BK451; clear HB; have HO454 := n0_; have HO458 := n1_; have BK451 := n2_; have HB := n3_; clear n0_ n1_ n2_ n3_; clear hb ho37))
        go_ret3
        exact ⟨_, by first | rfl | (simp [errW_none, errW_some] <;> rfl) | (simp [*, errW_none, errW_some] <;> rfl), by (with_reducible repeat (first | apply Kd.R_alloc | apply Kd.R_drewN | apply Kd.R_drew)); exact Kd.R_mono HO458.out (fun _ hk => trivial), by repeat (first | (with_reducible first | exact HB.out | apply below_alloc | apply pw_below_drewN | apply below_drew1 | refine below_set ?_ GE451.out) | exact HB.out)⟩
      ·
       rw [if_neg c22] at H
       have c22b0 : decide (a3 ≤ ((rd_T37 l0 t443).f4)) = false := decide_eq_false c22
       clear c22
       replace H := Option.bind_eq_some_iff.mp H
       obtain ⟨t460, A380, H⟩ := H
       replace H : ((spec_l14Issue.f t460 ((rd_T37 l0 t443).f0) ((rd_T37 l0 t443).f1) a2 ((rd_T37 l0 t443).f3) a3 ((rd_T37 l0 t443).f5)).bind fun bt463 => ((spec_l14List.f kj5 bt463.1).bind fun t467 => (if t467 = true then (some (bt463.1, bt463.2, true)) else (some ((([] : List (S37))), 0, false))))) = some (r1, r2, r3) := H
       have A38 := Aside0.mk A380
       clear A380
       replace H := Option.bind_eq_some_iff.mp H
       obtain ⟨⟨t463, t466⟩, A390, H⟩ := H
       replace H : ((spec_l14List.f kj5 t463).bind fun t467 => (if t467 = true then (some (t463, t466, true)) else (some ((([] : List (S37))), 0, false)))) = some (r1, r2, r3) := H
       have A39 := Aside0.mk A390
       clear A390
       replace H := Option.bind_eq_some_iff.mp H
       obtain ⟨t467, A400, H⟩ := H
       replace H : (if t467 = true then (some (t463, t466, true)) else (some ((([] : List (S37))), 0, false))) = some (r1, r2, r3) := H
       have A40 := Aside0.mk A400
       clear A400
       by_cases c41 : t467 = true
       ·
        subst c41
        have H1 : (some (t463, t466, true)) = some (r1, r2, r3) := by rw [if_pos rfl] at H; exact H
        clear H
        have H := H1
        clear H1
        simp only [Option.some.injEq, Prod.mk.injEq] at H
        obtain ⟨rfl, rfl, rfl⟩ := H
        have p450 : 0 ≤ (t443 : Int) := of_decide_eq_true (by first | (with_reducible assumption) | assumption)
        have q450 : t443 < (l0.length : Int) := of_decide_eq_true (by first | (with_reducible assumption) | assumption)
        obtain ⟨ad450, e450, hx450_0, hx450_1, hx450_2, hx450_3, hx450_4, hx450_5⟩ := at_T37 HR0.out t443 p450 q450
        cases e450
        replace hx450_0 := (HB.out.cell (World.block_lt_of_cell? w _ hx450_0)).trans hx450_0
        replace hx450_1 := (HB.out.cell (World.block_lt_of_cell? w _ hx450_1)).trans hx450_1
        replace hx450_2 := (HB.out.cell (World.block_lt_of_cell? w _ hx450_2)).trans hx450_2
        replace hx450_3 := (HB.out.cell (World.block_lt_of_cell? w _ hx450_3)).trans hx450_3
        replace hx450_4 := (HB.out.cell (World.block_lt_of_cell? w _ hx450_4)).trans hx450_4
        replace hx450_5 := (HB.out.cell (World.block_lt_of_cell? w _ hx450_5)).trans hx450_5
        replace p450 := eq_true p450
        replace q450 := eq_true q450
        try go_wp2_with (first | ((with_reducible refine gate_dst (N := 12) rfl ?_); refine box_event ?hg (N := 12) ?hd (cs := #[.int .i64 0, .int .i64 0, .int .i64 0, .int .i64 0, .int .i64 0, .int .i64 0]) (t := 37) ?hr ?_; (case hd => rfl); (case hg => rfl); (case hr => first | (go_simp; done) | (go_simp; rfl)); intro gb451 hg w42 hbox hb; have n0_ := Aside0.mk (below_step (by repeat (first | (with_reducible first | exact HB.out | apply below_alloc | apply pw_below_drewN | apply below_drew1) | exact HB.out)) hb); have n1_ := Aside0.mk (hbox); have n2_ := Aside0.mk ((by rw [hg]; exact (below_size (by repeat (first | (with_reducible first | exact HB.out | apply below_alloc | apply pw_below_drewN | apply below_drew1) | exact HB.out))) : w.heap.size ≤ gb451)); have n3_ := Aside0.mk ((by rw [hg]; exact (below_size (by repeat (first | (with_reducible first | exact HB.out | apply below_alloc | apply pw_below_drewN | apply below_drew1) | exact HB.out))) : w.heap.size ≤ gb451)); clear HB; have HB := n0_; have BK451 := n1_; have GW451 := n2_; have GE451 := n3_; clear n0_ n1_ n2_ n3_; clear hb hbox hg; have hcz43_0 : w42.cell? ⟨gb451, 0, none⟩ = some (.int .i64 0) := (blk_cell BK451.out 0).trans rfl; have hcz43_1 : w42.cell? ⟨gb451, 1, none⟩ = some (.int .i64 0) := (blk_cell BK451.out 1).trans rfl; have hcz43_2 : w42.cell? ⟨gb451, 2, none⟩ = some (.int .i64 0) := (blk_cell BK451.out 2).trans rfl; have hcz43_3 : w42.cell? ⟨gb451, 3, none⟩ = some (.int .i64 0) := (blk_cell BK451.out 3).trans rfl; have hcz43_4 : w42.cell? ⟨gb451, 4, none⟩ = some (.int .i64 0) := (blk_cell BK451.out 4).trans rfl; have hcz43_5 : w42.cell? ⟨gb451, 5, none⟩ = some (.int .i64 0) := (blk_cell BK451.out 5).trans rfl; have hl43_0 : ∀ v0 v1 v2 v3 v4 v5 u0 : Value, (((((((w42.setCell ⟨gb451, 0, none⟩ v0).setCell ⟨gb451, 1, none⟩ v1).setCell ⟨gb451, 2, none⟩ v2).setCell ⟨gb451, 3, none⟩ v3).setCell ⟨gb451, 4, none⟩ v4).setCell ⟨gb451, 5, none⟩ v5).setCell ⟨gb451, 2, none⟩ u0).cell? ⟨gb451, 2, none⟩ = some u0 := fun v0 v1 v2 v3 v4 v5 u0 => (blk_cell (blk_set (blk_set (blk_set (blk_set (blk_set (blk_set (blk_set BK451.out 0 v0) 1 v1) 2 v2) 3 v3) 4 v4) 5 v5) 2 u0) 2).trans (by simp); have hl43_1 : ∀ v0 v1 v2 v3 v4 v5 u0 u1 : Value, ((((((((w42.setCell ⟨gb451, 0, none⟩ v0).setCell ⟨gb451, 1, none⟩ v1).setCell ⟨gb451, 2, none⟩ v2).setCell ⟨gb451, 3, none⟩ v3).setCell ⟨gb451, 4, none⟩ v4).setCell ⟨gb451, 5, none⟩ v5).setCell ⟨gb451, 2, none⟩ u0).setCell ⟨gb451, 4, none⟩ u1).cell? ⟨gb451, 4, none⟩ = some u1 := fun v0 v1 v2 v3 v4 v5 u0 u1 => (blk_cell (blk_set (blk_set (blk_set (blk_set (blk_set (blk_set (blk_set (blk_set BK451.out 0 v0) 1 v1) 2 v2) 3 v3) 4 v4) 5 v5) 2 u0) 4 u1) 4).trans (by simp); have hl43_2 : ∀ v0 v1 v2 v3 v4 v5 u0 : Value, (((((((w42.setCell ⟨gb451, 0, none⟩ v0).setCell ⟨gb451, 1, none⟩ v1).setCell ⟨gb451, 2, none⟩ v2).setCell ⟨gb451, 3, none⟩ v3).setCell ⟨gb451, 4, none⟩ v4).setCell ⟨gb451, 5, none⟩ v5).setCell ⟨gb451, 5, none⟩ u0).cell? ⟨gb451, 5, none⟩ = some u0 := fun v0 v1 v2 v3 v4 v5 u0 => (blk_cell (blk_set (blk_set (blk_set (blk_set (blk_set (blk_set (blk_set BK451.out 0 v0) 1 v1) 2 v2) 3 v3) 4 v4) 5 v5) 5 u0) 5).trans (by simp); have hfz43_0 := blk_frozen BK451.out 0; have hfz43_1 := blk_frozen BK451.out 1; have hfz43_2 := blk_frozen BK451.out 2; have hfz43_3 := blk_frozen BK451.out 3; have hfz43_4 := blk_frozen BK451.out 4; have hfz43_5 := blk_frozen BK451.out 5) | ((with_reducible refine gate_dst (N := 14) rfl ?_); refine box_event ?hg (N := 14) ?hd (cs := #[.int .i64 0, .int .i64 0, .int .i64 0, .int .i64 0, .int .i64 0, .int .i64 0]) (t := 37) ?hr ?_; (case hd => rfl); (case hg => rfl); (case hr => first | (go_simp; done) | (go_simp; rfl)); intro gb459 hg w44 hbox hb; have n0_ := Aside0.mk (blk_below (g := gb451) (o := .cells #[.int .i64 ((rd_T37 l0 t443).f0), .int .i64 ((rd_T37 l0 t443).f1), .int .i64 ((rd_T37 l0 t443).f2), .int .i64 ((rd_T37 l0 t443).f3), .int .i64 ((rd_T37 l0 t443).f4), .int .i64 ((rd_T37 l0 t443).f5)] 37 (0, 0)) (by (with_reducible repeat (first | refine blk_drewN ?_ _ | refine blk_drew ?_ | refine blk_alloc ?_ _)); refine blk_put (cs := #[.int .i64 ((rd_T37 l0 t443).f0), .int .i64 ((rd_T37 l0 t443).f1), .int .i64 ((rd_T37 l0 t443).f2), .int .i64 ((rd_T37 l0 t443).f3), .int .i64 ((rd_T37 l0 t443).f4), .int .i64 0]) ?_ 5 _ rfl; (with_reducible repeat (first | refine blk_drewN ?_ _ | refine blk_drew ?_ | refine blk_alloc ?_ _)); refine blk_put (cs := #[.int .i64 ((rd_T37 l0 t443).f0), .int .i64 ((rd_T37 l0 t443).f1), .int .i64 ((rd_T37 l0 t443).f2), .int .i64 ((rd_T37 l0 t443).f3), .int .i64 0, .int .i64 0]) ?_ 4 _ rfl; (with_reducible repeat (first | refine blk_drewN ?_ _ | refine blk_drew ?_ | refine blk_alloc ?_ _)); refine blk_put (cs := #[.int .i64 ((rd_T37 l0 t443).f0), .int .i64 ((rd_T37 l0 t443).f1), .int .i64 ((rd_T37 l0 t443).f2), .int .i64 0, .int .i64 0, .int .i64 0]) ?_ 3 _ rfl; (with_reducible repeat (first | refine blk_drewN ?_ _ | refine blk_drew ?_ | refine blk_alloc ?_ _)); refine blk_put (cs := #[.int .i64 ((rd_T37 l0 t443).f0), .int .i64 ((rd_T37 l0 t443).f1), .int .i64 0, .int .i64 0, .int .i64 0, .int .i64 0]) ?_ 2 _ rfl; (with_reducible repeat (first | refine blk_drewN ?_ _ | refine blk_drew ?_ | refine blk_alloc ?_ _)); refine blk_put (cs := #[.int .i64 ((rd_T37 l0 t443).f0), .int .i64 0, .int .i64 0, .int .i64 0, .int .i64 0, .int .i64 0]) ?_ 1 _ rfl; (with_reducible repeat (first | refine blk_drewN ?_ _ | refine blk_drew ?_ | refine blk_alloc ?_ _)); refine blk_put (cs := #[.int .i64 0, .int .i64 0, .int .i64 0, .int .i64 0, .int .i64 0, .int .i64 0]) ?_ 0 _ rfl; (with_reducible repeat (first | refine blk_drewN ?_ _ | refine blk_drew ?_ | refine blk_alloc ?_ _)); exact BK451.out) hb); have n1_ := Aside0.mk (below_step (by repeat (first | (with_reducible first | exact HB.out | apply below_alloc | apply pw_below_drewN | apply below_drew1 | refine below_set ?_ GE451.out) | exact HB.out)) hb); have n2_ := Aside0.mk (hbox); have n3_ := Aside0.mk ((by rw [hg]; exact (below_size (by repeat (first | (with_reducible first | exact HB.out | apply below_alloc | apply pw_below_drewN | apply below_drew1 | refine below_set ?_ GE451.out) | exact HB.out))) : w.heap.size ≤ gb459)); have n4_ := Aside0.mk ((by rw [hg]; exact (below_size (by repeat (first | (with_reducible first | exact HB.out | apply below_alloc | apply pw_below_drewN | apply below_drew1 | refine below_set ?_ GE451.out) | exact HB.out))) : w.heap.size ≤ gb459)); have n5_ := Aside0.mk ((by rw [hg]; exact Nat.ne_of_lt (blk_lt (g := gb451) (o := .cells #[.int .i64 ((rd_T37 l0 t443).f0), .int .i64 ((rd_T37 l0 t443).f1), .int .i64 ((rd_T37 l0 t443).f2), .int .i64 ((rd_T37 l0 t443).f3), .int .i64 ((rd_T37 l0 t443).f4), .int .i64 ((rd_T37 l0 t443).f5)] 37 (0, 0)) (by (with_reducible repeat (first | refine blk_drewN ?_ _ | refine blk_drew ?_ | refine blk_alloc ?_ _)); refine blk_put (cs := #[.int .i64 ((rd_T37 l0 t443).f0), .int .i64 ((rd_T37 l0 t443).f1), .int .i64 ((rd_T37 l0 t443).f2), .int .i64 ((rd_T37 l0 t443).f3), .int .i64 ((rd_T37 l0 t443).f4), .int .i64 0]) ?_ 5 _ rfl; (with_reducible repeat (first | refine blk_drewN ?_ _ | refine blk_drew ?_ | refine blk_alloc ?_ _)); refine blk_put (cs := #[.int .i64 ((rd_T37 l0 t443).f0), .int .i64 ((rd_T37 l0 t443).f1), .int .i64 ((rd_T37 l0 t443).f2), .int .i64 ((rd_T37 l0 t443).f3), .int .i64 0, .int .i64 0]) ?_ 4 _ rfl; (with_reducible repeat (first | refine blk_drewN ?_ _ | refine blk_drew ?_ | refine blk_alloc ?_ _)); refine blk_put (cs := #[.int .i64 ((rd_T37 l0 t443).f0), .int .i64 ((rd_T37 l0 t443).f1), .int .i64 ((rd_T37 l0 t443).f2), .int .i64 0, .int .i64 0, .int .i64 0]) ?_ 3 _ rfl; (with_reducible repeat (first | refine blk_drewN ?_ _ | refine blk_drew ?_ | refine blk_alloc ?_ _)); refine blk_put (cs := #[.int .i64 ((rd_T37 l0 t443).f0), .int .i64 ((rd_T37 l0 t443).f1), .int .i64 0, .int .i64 0, .int .i64 0, .int .i64 0]) ?_ 2 _ rfl; (with_reducible repeat (first | refine blk_drewN ?_ _ | refine blk_drew ?_ | refine blk_alloc ?_ _)); refine blk_put (cs := #[.int .i64 ((rd_T37 l0 t443).f0), .int .i64 0, .int .i64 0, .int .i64 0, .int .i64 0, .int .i64 0]) ?_ 1 _ rfl; (with_reducible repeat (first | refine blk_drewN ?_ _ | refine blk_drew ?_ | refine blk_alloc ?_ _)); refine blk_put (cs := #[.int .i64 0, .int .i64 0, .int .i64 0, .int .i64 0, .int .i64 0, .int .i64 0]) ?_ 0 _ rfl; (with_reducible repeat (first | refine blk_drewN ?_ _ | refine blk_drew ?_ | refine blk_alloc ?_ _)); exact BK451.out)) : gb451 ≠ gb459)); have n6_ := Aside0.mk ((by rw [hg]; exact Nat.ne_of_gt (blk_lt (g := gb451) (o := .cells #[.int .i64 ((rd_T37 l0 t443).f0), .int .i64 ((rd_T37 l0 t443).f1), .int .i64 ((rd_T37 l0 t443).f2), .int .i64 ((rd_T37 l0 t443).f3), .int .i64 ((rd_T37 l0 t443).f4), .int .i64 ((rd_T37 l0 t443).f5)] 37 (0, 0)) (by (with_reducible repeat (first | refine blk_drewN ?_ _ | refine blk_drew ?_ | refine blk_alloc ?_ _)); refine blk_put (cs := #[.int .i64 ((rd_T37 l0 t443).f0), .int .i64 ((rd_T37 l0 t443).f1), .int .i64 ((rd_T37 l0 t443).f2), .int .i64 ((rd_T37 l0 t443).f3), .int .i64 ((rd_T37 l0 t443).f4), .int .i64 0]) ?_ 5 _ rfl; (with_reducible repeat (first | refine blk_drewN ?_ _ | refine blk_drew ?_ | refine blk_alloc ?_ _)); refine blk_put (cs := #[.int .i64 ((rd_T37 l0 t443).f0), .int .i64 ((rd_T37 l0 t443).f1), .int .i64 ((rd_T37 l0 t443).f2), .int .i64 ((rd_T37 l0 t443).f3), .int .i64 0, .int .i64 0]) ?_ 4 _ rfl; (with_reducible repeat (first | refine blk_drewN ?_ _ | refine blk_drew ?_ | refine blk_alloc ?_ _)); refine blk_put (cs := #[.int .i64 ((rd_T37 l0 t443).f0), .int .i64 ((rd_T37 l0 t443).f1), .int .i64 ((rd_T37 l0 t443).f2), .int .i64 0, .int .i64 0, .int .i64 0]) ?_ 3 _ rfl; (with_reducible repeat (first | refine blk_drewN ?_ _ | refine blk_drew ?_ | refine blk_alloc ?_ _)); refine blk_put (cs := #[.int .i64 ((rd_T37 l0 t443).f0), .int .i64 ((rd_T37 l0 t443).f1), .int .i64 0, .int .i64 0, .int .i64 0, .int .i64 0]) ?_ 2 _ rfl; (with_reducible repeat (first | refine blk_drewN ?_ _ | refine blk_drew ?_ | refine blk_alloc ?_ _)); refine blk_put (cs := #[.int .i64 ((rd_T37 l0 t443).f0), .int .i64 0, .int .i64 0, .int .i64 0, .int .i64 0, .int .i64 0]) ?_ 1 _ rfl; (with_reducible repeat (first | refine blk_drewN ?_ _ | refine blk_drew ?_ | refine blk_alloc ?_ _)); refine blk_put (cs := #[.int .i64 0, .int .i64 0, .int .i64 0, .int .i64 0, .int .i64 0, .int .i64 0]) ?_ 0 _ rfl; (with_reducible repeat (first | refine blk_drewN ?_ _ | refine blk_drew ?_ | refine blk_alloc ?_ _)); exact BK451.out)) : gb459 ≠ gb451)); clear BK451; clear HB; have BK451 := n0_; have HB := n1_; have BK459 := n2_; have GW459 := n3_; have GE459 := n4_; have NB451_459 := n5_; have NB459_451 := n6_; clear n0_ n1_ n2_ n3_ n4_ n5_ n6_; clear hb hbox hg; have hnb45 := NB459_451.out; have hnc45 := NB451_459.out; have hcz46_0 : w44.cell? ⟨gb459, 0, none⟩ = some (.int .i64 0) := (blk_cell BK459.out 0).trans rfl; have hcz46_1 : w44.cell? ⟨gb459, 1, none⟩ = some (.int .i64 0) := (blk_cell BK459.out 1).trans rfl; have hcz46_2 : w44.cell? ⟨gb459, 2, none⟩ = some (.int .i64 0) := (blk_cell BK459.out 2).trans rfl; have hcz46_3 : w44.cell? ⟨gb459, 3, none⟩ = some (.int .i64 0) := (blk_cell BK459.out 3).trans rfl; have hcz46_4 : w44.cell? ⟨gb459, 4, none⟩ = some (.int .i64 0) := (blk_cell BK459.out 4).trans rfl; have hcz46_5 : w44.cell? ⟨gb459, 5, none⟩ = some (.int .i64 0) := (blk_cell BK459.out 5).trans rfl; have hl46_0 : ∀ v0 v1 v2 v3 v4 v5 u0 : Value, (((((((w44.setCell ⟨gb459, 0, none⟩ v0).setCell ⟨gb459, 1, none⟩ v1).setCell ⟨gb459, 2, none⟩ v2).setCell ⟨gb459, 3, none⟩ v3).setCell ⟨gb459, 4, none⟩ v4).setCell ⟨gb459, 5, none⟩ v5).setCell ⟨gb459, 2, none⟩ u0).cell? ⟨gb459, 2, none⟩ = some u0 := fun v0 v1 v2 v3 v4 v5 u0 => (blk_cell (blk_set (blk_set (blk_set (blk_set (blk_set (blk_set (blk_set BK459.out 0 v0) 1 v1) 2 v2) 3 v3) 4 v4) 5 v5) 2 u0) 2).trans (by simp); have hl46_1 : ∀ v0 v1 v2 v3 v4 v5 u0 u1 : Value, ((((((((w44.setCell ⟨gb459, 0, none⟩ v0).setCell ⟨gb459, 1, none⟩ v1).setCell ⟨gb459, 2, none⟩ v2).setCell ⟨gb459, 3, none⟩ v3).setCell ⟨gb459, 4, none⟩ v4).setCell ⟨gb459, 5, none⟩ v5).setCell ⟨gb459, 2, none⟩ u0).setCell ⟨gb459, 4, none⟩ u1).cell? ⟨gb459, 4, none⟩ = some u1 := fun v0 v1 v2 v3 v4 v5 u0 u1 => (blk_cell (blk_set (blk_set (blk_set (blk_set (blk_set (blk_set (blk_set (blk_set BK459.out 0 v0) 1 v1) 2 v2) 3 v3) 4 v4) 5 v5) 2 u0) 4 u1) 4).trans (by simp); have hl46_2 : ∀ v0 v1 v2 v3 v4 v5 u0 : Value, (((((((w44.setCell ⟨gb459, 0, none⟩ v0).setCell ⟨gb459, 1, none⟩ v1).setCell ⟨gb459, 2, none⟩ v2).setCell ⟨gb459, 3, none⟩ v3).setCell ⟨gb459, 4, none⟩ v4).setCell ⟨gb459, 5, none⟩ v5).setCell ⟨gb459, 5, none⟩ u0).cell? ⟨gb459, 5, none⟩ = some u0 := fun v0 v1 v2 v3 v4 v5 u0 => (blk_cell (blk_set (blk_set (blk_set (blk_set (blk_set (blk_set (blk_set BK459.out 0 v0) 1 v1) 2 v2) 3 v3) 4 v4) 5 v5) 5 u0) 5).trans (by simp); have hfz46_0 := blk_frozen BK459.out 0; have hfz46_1 := blk_frozen BK459.out 1; have hfz46_2 := blk_frozen BK459.out 2; have hfz46_3 := blk_frozen BK459.out 3; have hfz46_4 := blk_frozen BK459.out 4; have hfz46_5 := blk_frozen BK459.out 5; have hcz47_0 : w44.cell? ⟨gb451, 0, none⟩ = some (.int .i64 ((rd_T37 l0 t443).f0)) := (blk_cell BK451.out 0).trans rfl; have hcz47_1 : w44.cell? ⟨gb451, 1, none⟩ = some (.int .i64 ((rd_T37 l0 t443).f1)) := (blk_cell BK451.out 1).trans rfl; have hcz47_2 : w44.cell? ⟨gb451, 2, none⟩ = some (.int .i64 ((rd_T37 l0 t443).f2)) := (blk_cell BK451.out 2).trans rfl; have hcz47_3 : w44.cell? ⟨gb451, 3, none⟩ = some (.int .i64 ((rd_T37 l0 t443).f3)) := (blk_cell BK451.out 3).trans rfl; have hcz47_4 : w44.cell? ⟨gb451, 4, none⟩ = some (.int .i64 ((rd_T37 l0 t443).f4)) := (blk_cell BK451.out 4).trans rfl; have hcz47_5 : w44.cell? ⟨gb451, 5, none⟩ = some (.int .i64 ((rd_T37 l0 t443).f5)) := (blk_cell BK451.out 5).trans rfl; have hfz47_0 := blk_frozen BK451.out 0; have hfz47_1 := blk_frozen BK451.out 1; have hfz47_2 := blk_frozen BK451.out 2; have hfz47_3 := blk_frozen BK451.out 3; have hfz47_4 := blk_frozen BK451.out 4; have hfz47_5 := blk_frozen BK451.out 5))
        have n0_ : Aside0 ((((((((((w44.setCell ⟨gb459, 0, none⟩ (.int .i64 ((rd_T37 l0 t443).f0))).setCell ⟨gb459, 1, none⟩ (.int .i64 ((rd_T37 l0 t443).f1))).setCell ⟨gb459, 2, none⟩ (.int .i64 ((rd_T37 l0 t443).f2))).setCell ⟨gb459, 3, none⟩ (.int .i64 ((rd_T37 l0 t443).f3))).setCell ⟨gb459, 4, none⟩ (.int .i64 ((rd_T37 l0 t443).f4))).setCell ⟨gb459, 5, none⟩ (.int .i64 ((rd_T37 l0 t443).f5))).setCell ⟨gb459, 2, none⟩ (.int .i64 a2)).setCell ⟨gb459, 4, none⟩ (.int .i64 a3)).setCell ⟨gb451, 5, none⟩ (.int .i64 a3)).heap[gb451]? = some (.cells #[.int .i64 ((rd_T37 l0 t443).f0), .int .i64 ((rd_T37 l0 t443).f1), .int .i64 ((rd_T37 l0 t443).f2), .int .i64 ((rd_T37 l0 t443).f3), .int .i64 ((rd_T37 l0 t443).f4), .int .i64 a3] 37 (0, 0))) := ⟨by (with_reducible repeat (first | refine blk_drewN ?_ _ | refine blk_drew ?_ | refine blk_alloc ?_ _)); refine blk_put (cs := #[.int .i64 ((rd_T37 l0 t443).f0), .int .i64 ((rd_T37 l0 t443).f1), .int .i64 ((rd_T37 l0 t443).f2), .int .i64 ((rd_T37 l0 t443).f3), .int .i64 ((rd_T37 l0 t443).f4), .int .i64 ((rd_T37 l0 t443).f5)]) ?_ 5 _ rfl; (with_reducible repeat (first | refine blk_drewN ?_ _ | refine blk_drew ?_ | refine blk_alloc ?_ _)); refine blk_far ?_ NB451_459.out _; (with_reducible repeat (first | refine blk_drewN ?_ _ | refine blk_drew ?_ | refine blk_alloc ?_ _)); refine blk_far ?_ NB451_459.out _; (with_reducible repeat (first | refine blk_drewN ?_ _ | refine blk_drew ?_ | refine blk_alloc ?_ _)); refine blk_far ?_ NB451_459.out _; (with_reducible repeat (first | refine blk_drewN ?_ _ | refine blk_drew ?_ | refine blk_alloc ?_ _)); refine blk_far ?_ NB451_459.out _; (with_reducible repeat (first | refine blk_drewN ?_ _ | refine blk_drew ?_ | refine blk_alloc ?_ _)); refine blk_far ?_ NB451_459.out _; (with_reducible repeat (first | refine blk_drewN ?_ _ | refine blk_drew ?_ | refine blk_alloc ?_ _)); refine blk_far ?_ NB451_459.out _; (with_reducible repeat (first | refine blk_drewN ?_ _ | refine blk_drew ?_ | refine blk_alloc ?_ _)); refine blk_far ?_ NB451_459.out _; (with_reducible repeat (first | refine blk_drewN ?_ _ | refine blk_drew ?_ | refine blk_alloc ?_ _)); refine blk_far ?_ NB451_459.out _; (with_reducible repeat (first | refine blk_drewN ?_ _ | refine blk_drew ?_ | refine blk_alloc ?_ _)); exact BK451.out⟩
        have n1_ : Aside0 ((((((((((w44.setCell ⟨gb459, 0, none⟩ (.int .i64 ((rd_T37 l0 t443).f0))).setCell ⟨gb459, 1, none⟩ (.int .i64 ((rd_T37 l0 t443).f1))).setCell ⟨gb459, 2, none⟩ (.int .i64 ((rd_T37 l0 t443).f2))).setCell ⟨gb459, 3, none⟩ (.int .i64 ((rd_T37 l0 t443).f3))).setCell ⟨gb459, 4, none⟩ (.int .i64 ((rd_T37 l0 t443).f4))).setCell ⟨gb459, 5, none⟩ (.int .i64 ((rd_T37 l0 t443).f5))).setCell ⟨gb459, 2, none⟩ (.int .i64 a2)).setCell ⟨gb459, 4, none⟩ (.int .i64 a3)).setCell ⟨gb451, 5, none⟩ (.int .i64 a3)).heap[gb459]? = some (.cells #[.int .i64 ((rd_T37 l0 t443).f0), .int .i64 ((rd_T37 l0 t443).f1), .int .i64 a2, .int .i64 ((rd_T37 l0 t443).f3), .int .i64 a3, .int .i64 ((rd_T37 l0 t443).f5)] 37 (0, 0))) := ⟨by (with_reducible repeat (first | refine blk_drewN ?_ _ | refine blk_drew ?_ | refine blk_alloc ?_ _)); refine blk_far ?_ NB459_451.out _; (with_reducible repeat (first | refine blk_drewN ?_ _ | refine blk_drew ?_ | refine blk_alloc ?_ _)); refine blk_put (cs := #[.int .i64 ((rd_T37 l0 t443).f0), .int .i64 ((rd_T37 l0 t443).f1), .int .i64 a2, .int .i64 ((rd_T37 l0 t443).f3), .int .i64 ((rd_T37 l0 t443).f4), .int .i64 ((rd_T37 l0 t443).f5)]) ?_ 4 _ rfl; (with_reducible repeat (first | refine blk_drewN ?_ _ | refine blk_drew ?_ | refine blk_alloc ?_ _)); refine blk_put (cs := #[.int .i64 ((rd_T37 l0 t443).f0), .int .i64 ((rd_T37 l0 t443).f1), .int .i64 ((rd_T37 l0 t443).f2), .int .i64 ((rd_T37 l0 t443).f3), .int .i64 ((rd_T37 l0 t443).f4), .int .i64 ((rd_T37 l0 t443).f5)]) ?_ 2 _ rfl; (with_reducible repeat (first | refine blk_drewN ?_ _ | refine blk_drew ?_ | refine blk_alloc ?_ _)); refine blk_put (cs := #[.int .i64 ((rd_T37 l0 t443).f0), .int .i64 ((rd_T37 l0 t443).f1), .int .i64 ((rd_T37 l0 t443).f2), .int .i64 ((rd_T37 l0 t443).f3), .int .i64 ((rd_T37 l0 t443).f4), .int .i64 0]) ?_ 5 _ rfl; (with_reducible repeat (first | refine blk_drewN ?_ _ | refine blk_drew ?_ | refine blk_alloc ?_ _)); refine blk_put (cs := #[.int .i64 ((rd_T37 l0 t443).f0), .int .i64 ((rd_T37 l0 t443).f1), .int .i64 ((rd_T37 l0 t443).f2), .int .i64 ((rd_T37 l0 t443).f3), .int .i64 0, .int .i64 0]) ?_ 4 _ rfl; (with_reducible repeat (first | refine blk_drewN ?_ _ | refine blk_drew ?_ | refine blk_alloc ?_ _)); refine blk_put (cs := #[.int .i64 ((rd_T37 l0 t443).f0), .int .i64 ((rd_T37 l0 t443).f1), .int .i64 ((rd_T37 l0 t443).f2), .int .i64 0, .int .i64 0, .int .i64 0]) ?_ 3 _ rfl; (with_reducible repeat (first | refine blk_drewN ?_ _ | refine blk_drew ?_ | refine blk_alloc ?_ _)); refine blk_put (cs := #[.int .i64 ((rd_T37 l0 t443).f0), .int .i64 ((rd_T37 l0 t443).f1), .int .i64 0, .int .i64 0, .int .i64 0, .int .i64 0]) ?_ 2 _ rfl; (with_reducible repeat (first | refine blk_drewN ?_ _ | refine blk_drew ?_ | refine blk_alloc ?_ _)); refine blk_put (cs := #[.int .i64 ((rd_T37 l0 t443).f0), .int .i64 0, .int .i64 0, .int .i64 0, .int .i64 0, .int .i64 0]) ?_ 1 _ rfl; (with_reducible repeat (first | refine blk_drewN ?_ _ | refine blk_drew ?_ | refine blk_alloc ?_ _)); refine blk_put (cs := #[.int .i64 0, .int .i64 0, .int .i64 0, .int .i64 0, .int .i64 0, .int .i64 0]) ?_ 0 _ rfl; (with_reducible repeat (first | refine blk_drewN ?_ _ | refine blk_drew ?_ | refine blk_alloc ?_ _)); exact BK459.out⟩
        have n2_ : Aside0 (Below w.heap.size w (((((((((w44.setCell ⟨gb459, 0, none⟩ (.int .i64 ((rd_T37 l0 t443).f0))).setCell ⟨gb459, 1, none⟩ (.int .i64 ((rd_T37 l0 t443).f1))).setCell ⟨gb459, 2, none⟩ (.int .i64 ((rd_T37 l0 t443).f2))).setCell ⟨gb459, 3, none⟩ (.int .i64 ((rd_T37 l0 t443).f3))).setCell ⟨gb459, 4, none⟩ (.int .i64 ((rd_T37 l0 t443).f4))).setCell ⟨gb459, 5, none⟩ (.int .i64 ((rd_T37 l0 t443).f5))).setCell ⟨gb459, 2, none⟩ (.int .i64 a2)).setCell ⟨gb459, 4, none⟩ (.int .i64 a3)).setCell ⟨gb451, 5, none⟩ (.int .i64 a3))) := ⟨by repeat (first | (with_reducible first | exact HB.out | apply below_alloc | apply pw_below_drewN | apply below_drew1 | refine below_set ?_ GE451.out | refine below_set ?_ GE459.out) | exact HB.out)⟩
        (try clear BK451)
        (try clear BK459)
        (try clear HB)
        generalize (((((((((w44.setCell ⟨gb459, 0, none⟩ (.int .i64 ((rd_T37 l0 t443).f0))).setCell ⟨gb459, 1, none⟩ (.int .i64 ((rd_T37 l0 t443).f1))).setCell ⟨gb459, 2, none⟩ (.int .i64 ((rd_T37 l0 t443).f2))).setCell ⟨gb459, 3, none⟩ (.int .i64 ((rd_T37 l0 t443).f3))).setCell ⟨gb459, 4, none⟩ (.int .i64 ((rd_T37 l0 t443).f4))).setCell ⟨gb459, 5, none⟩ (.int .i64 ((rd_T37 l0 t443).f5))).setCell ⟨gb459, 2, none⟩ (.int .i64 a2)).setCell ⟨gb459, 4, none⟩ (.int .i64 a3)).setCell ⟨gb451, 5, none⟩ (.int .i64 a3)) = w48 at n0_ n1_ n2_ ⊢
        have BK451 := n0_
        have BK459 := n1_
        have HB := n2_
        clear n0_ n1_ n2_
        have n0_ := Aside0.mk (blk_drew BK451.out)
        have n1_ := Aside0.mk (blk_drew BK459.out)
        have n2_ := Aside0.mk (below_drew1 HB.out)
        clear BK451
        clear BK459
        clear HB
        have BK451 := n0_
        have BK459 := n1_
        have HB := n2_
        clear n0_ n1_ n2_
        refine start_ (n := 11) (S := fun w' => w'.cell? ⟨gb451, 0, none⟩ = some (.int .i64 ((rd_T37 l0 t443).f0)) ∧ w'.cell? ⟨gb451, 1, none⟩ = some (.int .i64 ((rd_T37 l0 t443).f1)) ∧ w'.cell? ⟨gb451, 2, none⟩ = some (.int .i64 ((rd_T37 l0 t443).f2)) ∧ w'.cell? ⟨gb451, 3, none⟩ = some (.int .i64 ((rd_T37 l0 t443).f3)) ∧ w'.cell? ⟨gb451, 4, none⟩ = some (.int .i64 ((rd_T37 l0 t443).f4)) ∧ w'.cell? ⟨gb451, 5, none⟩ = some (.int .i64 a3) ∧ w'.cell? ⟨gb459, 0, none⟩ = some (.int .i64 ((rd_T37 l0 t443).f0)) ∧ w'.cell? ⟨gb459, 1, none⟩ = some (.int .i64 ((rd_T37 l0 t443).f1)) ∧ w'.cell? ⟨gb459, 2, none⟩ = some (.int .i64 a2) ∧ w'.cell? ⟨gb459, 3, none⟩ = some (.int .i64 ((rd_T37 l0 t443).f3)) ∧ w'.cell? ⟨gb459, 4, none⟩ = some (.int .i64 a3) ∧ w'.cell? ⟨gb459, 5, none⟩ = some (.int .i64 ((rd_T37 l0 t443).f5))) (ds := []) #[false, false, false, false, false, false, false, false, false, false, false] (by kernel_rfl) rfl rfl ⟨(blk_cell BK451.out 0).trans rfl, (blk_cell BK451.out 1).trans rfl, (blk_cell BK451.out 2).trans rfl, (blk_cell BK451.out 3).trans rfl, (blk_cell BK451.out 4).trans rfl, (blk_cell BK451.out 5).trans rfl, (blk_cell BK459.out 0).trans rfl, (blk_cell BK459.out 1).trans rfl, (blk_cell BK459.out 2).trans rfl, (blk_cell BK459.out 3).trans rfl, (blk_cell BK459.out 4).trans rfl, (blk_cell BK459.out 5).trans rfl⟩ (fun hHeld => ?_); refine with_tabW spec_ChangeLevel.tab13 spec_ChangeLevel.bits13 (fun HT_ HW_ => ?_)
        generalize w48.drew = w49 at BK451 BK459 HB hHeld ⊢
        refine pure_ (i := 0) (N := some 67) (v := ?_) (a' := ?_) #[true, false, false, false, false, false, false, false, false, false, false] rfl rfl (any_of HT_.out (by kernel_rfl)) (fun _ _ _ h => h) (Or.inl ⟨by rfl, ?_⟩) ?_ ?_
        rotate_left
        ·
         intro w'
         go_simp
         with_reducible rfl
        rotate_left
        ·
         simp only [Act.put, List.setIfInBounds_toArray, List.set_cons_zero, List.set_cons_succ, i64_w, i32_w]
         rfl
        refine pure_ (i := 1) (N := some 68) (v := ?_) (a' := ?_) #[true, true, false, false, false, false, false, false, false, false, false] rfl rfl (any_of HT_.out (by kernel_rfl)) (fun _ _ _ h => h) (Or.inl ⟨by rfl, ?_⟩) ?_ ?_
        rotate_left
        ·
         intro w'
         go_simp
         with_reducible rfl
        rotate_left
        ·
         simp only [Act.put, List.setIfInBounds_toArray, List.set_cons_zero, List.set_cons_succ, i64_w, i32_w]
         rfl
        refine take_ (i := 2) (N := some 69) (v := ?_) (a' := ?_) #[true, true, true, false, false, false, false, false, false, false, false] rfl rfl (take_ofW HT_.out HW_.out (by kernel_rfl)) (fun _ _ _ h => h) (Or.inl ⟨by rfl, ?_⟩) hHeld ?_ ?_
        rotate_left
        ·
         rintro w' ⟨s0, s1, s2, s3, s4, s5, s6, s7, s8, s9, s10, s11⟩
         go_simp
         with_reducible rfl
        rotate_left
        ·
         simp only [Act.put, List.setIfInBounds_toArray, List.set_cons_zero, List.set_cons_succ, i64_w, i32_w]
         rfl
        refine take_ (i := 4) (N := some 71) (v := ?_) (a' := ?_) #[true, true, true, false, true, false, false, false, false, false, false] rfl rfl (take_ofW HT_.out HW_.out (by kernel_rfl)) (fun _ _ _ h => h) (Or.inl ⟨by rfl, ?_⟩) hHeld ?_ ?_
        rotate_left
        ·
         rintro w' ⟨s0, s1, s2, s3, s4, s5, s6, s7, s8, s9, s10, s11⟩
         go_simp
         with_reducible rfl
        rotate_left
        ·
         simp only [Act.put, List.setIfInBounds_toArray, List.set_cons_zero, List.set_cons_succ, i64_w, i32_w]
         rfl
        refine one_ (i := 3) (N := some 70) #[true, true, true, true, true, false, false, false, false, false, false] rfl rfl (one_of HT_.out (by kernel_rfl)) (by decide) (fun K hK => ?_)
        refine goes_ Try.func47 (by kernel_rfl) rfl #[.slice (some ad450) l0.length c0, .int .i64 t443, .agg #[.int .i64 ((rd_T37 l0 t443).f0), .int .i64 ((rd_T37 l0 t443).f1), .int .i64 ((rd_T37 l0 t443).f2), .int .i64 ((rd_T37 l0 t443).f3), .int .i64 ((rd_T37 l0 t443).f4), .int .i64 a3]] (by rfl) rfl rfl (by (try simp only [List.map_toArray, List.map_cons, List.map_nil]); first | done | rfl | (simp only [List.length_drop, List.length_take]; rfl)) ?_
        with_reducible refine (spec_l14With.calls _ _ l0 t443 ((rd_T37 l0 t443).f0) ((rd_T37 l0 t443).f1) ((rd_T37 l0 t443).f2) ((rd_T37 l0 t443).f3) ((rd_T37 l0 t443).f4) a3 t460 _ ?side1 ?side2 A38.out).mono ?_
        (case side1 => repeat (first | exact (Kd.C_below HR0.out HB.out) | (with_reducible refine Kd.C_alloc ?_ _) | (with_reducible refine Kd.C_drewN ?_ _) | (with_reducible refine Kd.C_drew ?_)))
        (case side2 => exact HC0.out)
        rintro e w50 ⟨v461, rfl, ho0, hb⟩
        refine ⟨_, rfl, ?_⟩
        have n0_ := Aside0.mk (Kd.R_lower (Kd.R_newB (Kd.R_newB ho0 (g := gb451) (o := .cells #[.int .i64 ((rd_T37 l0 t443).f0), .int .i64 ((rd_T37 l0 t443).f1), .int .i64 ((rd_T37 l0 t443).f2), .int .i64 ((rd_T37 l0 t443).f3), .int .i64 ((rd_T37 l0 t443).f4), .int .i64 a3] 37 (0, 0)) (by (with_reducible repeat (first | refine blk_drewN ?_ _ | refine blk_drew ?_ | refine blk_alloc ?_ _)); exact BK451.out)) (g := gb459) (o := .cells #[.int .i64 ((rd_T37 l0 t443).f0), .int .i64 ((rd_T37 l0 t443).f1), .int .i64 a2, .int .i64 ((rd_T37 l0 t443).f3), .int .i64 a3, .int .i64 ((rd_T37 l0 t443).f5)] 37 (0, 0)) (by (with_reducible repeat (first | refine blk_drewN ?_ _ | refine blk_drew ?_ | refine blk_alloc ?_ _)); exact BK459.out)) (below_size (by repeat (first | (with_reducible first | exact HB.out | apply below_alloc | apply pw_below_drewN | apply below_drew1 | refine below_set ?_ GE451.out | refine below_set ?_ GE459.out) | exact HB.out))))
        have n1_ := Aside0.mk (blk_below (g := gb451) (o := .cells #[.int .i64 ((rd_T37 l0 t443).f0), .int .i64 ((rd_T37 l0 t443).f1), .int .i64 ((rd_T37 l0 t443).f2), .int .i64 ((rd_T37 l0 t443).f3), .int .i64 ((rd_T37 l0 t443).f4), .int .i64 a3] 37 (0, 0)) (by (with_reducible repeat (first | refine blk_drewN ?_ _ | refine blk_drew ?_ | refine blk_alloc ?_ _)); exact BK451.out) hb)
        have n2_ := Aside0.mk (blk_below (g := gb459) (o := .cells #[.int .i64 ((rd_T37 l0 t443).f0), .int .i64 ((rd_T37 l0 t443).f1), .int .i64 a2, .int .i64 ((rd_T37 l0 t443).f3), .int .i64 a3, .int .i64 ((rd_T37 l0 t443).f5)] 37 (0, 0)) (by (with_reducible repeat (first | refine blk_drewN ?_ _ | refine blk_drew ?_ | refine blk_alloc ?_ _)); exact BK459.out) hb)
        have n3_ := Aside0.mk (below_step (by repeat (first | (with_reducible first | exact HB.out | apply below_alloc | apply pw_below_drewN | apply below_drew1 | refine below_set ?_ GE451.out | refine below_set ?_ GE459.out) | exact HB.out)) hb)
        clear BK451
        clear BK459
        clear HB
        have HO462 := n0_
        have BK451 := n1_
        have BK459 := n2_
        have HB := n3_
        clear n0_ n1_ n2_ n3_
        (try clear hb)
        (try clear hb2)
        (try clear hk)
        (try clear hi)
        (try clear ho0)
        obtain ⟨Ao51, co51, eo51⟩ := Kd.R_slice HO462.out
        (first | subst eo51 | (injection eo51 with f1_ f2_ f3_; have f4_ := f1_.symm; have f5_ := f3_.symm; clear f1_ f2_ f3_; subst f4_; subst f5_))
        refine hK.out _ _ ⟨(blk_cell BK451.out 0).trans rfl, (blk_cell BK451.out 1).trans rfl, (blk_cell BK451.out 2).trans rfl, (blk_cell BK451.out 3).trans rfl, (blk_cell BK451.out 4).trans rfl, (blk_cell BK451.out 5).trans rfl, (blk_cell BK459.out 0).trans rfl, (blk_cell BK459.out 1).trans rfl, (blk_cell BK459.out 2).trans rfl, (blk_cell BK459.out 3).trans rfl, (blk_cell BK459.out 4).trans rfl, (blk_cell BK459.out 5).trans rfl⟩ (fun hHeld => ?_)
        clear hK K
        refine norm_ (a' := ?_) ?_ ?_
        rotate_left
        ·
         show Act.put _ (some 70) _ = _
         simp only [Act.put, List.setIfInBounds_toArray, List.set_cons_zero, List.set_cons_succ, i64_w, i32_w]
         rfl
        refine one_ (i := 5) (N := some 72) #[true, true, true, true, true, true, false, false, false, false, false] rfl rfl (one_of HT_.out (by kernel_rfl)) (by decide) (fun K hK => ?_)
        refine goes_ Try.func48 (by kernel_rfl) rfl #[.slice Ao51 t460.length co51, .agg #[.int .i64 ((rd_T37 l0 t443).f0), .int .i64 ((rd_T37 l0 t443).f1), .int .i64 a2, .int .i64 ((rd_T37 l0 t443).f3), .int .i64 a3, .int .i64 ((rd_T37 l0 t443).f5)]] (by rfl) rfl rfl (by (try simp only [List.map_toArray, List.map_cons, List.map_nil]); first | done | rfl | (simp only [List.length_drop, List.length_take]; rfl)) ?_
        with_reducible refine (spec_l14Issue.calls _ _ t460 ((rd_T37 l0 t443).f0) ((rd_T37 l0 t443).f1) a2 ((rd_T37 l0 t443).f3) a3 ((rd_T37 l0 t443).f5) t463 t466 _ ?side1 ?side2 A39.out).mono ?_
        (case side1 => repeat (first | exact (Kd.R_reads' HO462.out).2.2 | (with_reducible refine Kd.C_alloc ?_ _) | (with_reducible refine Kd.C_drewN ?_ _) | (with_reducible refine Kd.C_drew ?_)))
        (case side2 => exact (Kd.R_reads' HO462.out).2.1)
        rintro e w52 ⟨v464, rfl, ho0, hb⟩
        refine ⟨_, rfl, ?_⟩
        have n0_ := Aside0.mk (Kd.R_elder' (by (with_reducible repeat (first | apply Kd.R_alloc | apply Kd.R_drewN | apply Kd.R_drew)); exact HO462.out) (Kd.R_base ho0) hb)
        have n1_ := Aside0.mk (Kd.R_lower (Kd.R_newB (Kd.R_newB (Kd.R_new' ho0 (Kd.R_lt (by (with_reducible repeat (first | apply Kd.R_alloc | apply Kd.R_drewN | apply Kd.R_drew)); exact HO462.out))) (g := gb451) (o := .cells #[.int .i64 ((rd_T37 l0 t443).f0), .int .i64 ((rd_T37 l0 t443).f1), .int .i64 ((rd_T37 l0 t443).f2), .int .i64 ((rd_T37 l0 t443).f3), .int .i64 ((rd_T37 l0 t443).f4), .int .i64 a3] 37 (0, 0)) (by (with_reducible repeat (first | refine blk_drewN ?_ _ | refine blk_drew ?_ | refine blk_alloc ?_ _)); exact BK451.out)) (g := gb459) (o := .cells #[.int .i64 ((rd_T37 l0 t443).f0), .int .i64 ((rd_T37 l0 t443).f1), .int .i64 a2, .int .i64 ((rd_T37 l0 t443).f3), .int .i64 a3, .int .i64 ((rd_T37 l0 t443).f5)] 37 (0, 0)) (by (with_reducible repeat (first | refine blk_drewN ?_ _ | refine blk_drew ?_ | refine blk_alloc ?_ _)); exact BK459.out)) (below_size (by repeat (first | (with_reducible first | exact HB.out | apply below_alloc | apply pw_below_drewN | apply below_drew1 | refine below_set ?_ GE451.out | refine below_set ?_ GE459.out) | exact HB.out))))
        have n2_ := Aside0.mk (blk_below (g := gb451) (o := .cells #[.int .i64 ((rd_T37 l0 t443).f0), .int .i64 ((rd_T37 l0 t443).f1), .int .i64 ((rd_T37 l0 t443).f2), .int .i64 ((rd_T37 l0 t443).f3), .int .i64 ((rd_T37 l0 t443).f4), .int .i64 a3] 37 (0, 0)) (by (with_reducible repeat (first | refine blk_drewN ?_ _ | refine blk_drew ?_ | refine blk_alloc ?_ _)); exact BK451.out) hb)
        have n3_ := Aside0.mk (blk_below (g := gb459) (o := .cells #[.int .i64 ((rd_T37 l0 t443).f0), .int .i64 ((rd_T37 l0 t443).f1), .int .i64 a2, .int .i64 ((rd_T37 l0 t443).f3), .int .i64 a3, .int .i64 ((rd_T37 l0 t443).f5)] 37 (0, 0)) (by (with_reducible repeat (first | refine blk_drewN ?_ _ | refine blk_drew ?_ | refine blk_alloc ?_ _)); exact BK459.out) hb)
        have n4_ := Aside0.mk (below_step (by repeat (first | (with_reducible first | exact HB.out | apply below_alloc | apply pw_below_drewN | apply below_drew1 | refine below_set ?_ GE451.out | refine below_set ?_ GE459.out) | exact HB.out)) hb)
        clear HO462
        clear BK451
        clear BK459
        clear HB
        have HO462 := n0_
        have HO465 := n1_
        have BK451 := n2_
        have BK459 := n3_
        have HB := n4_
        clear n0_ n1_ n2_ n3_ n4_
        (try clear hb)
        (try clear hb2)
        (try clear hk)
        (try clear hi)
        (try clear ho0)
        refine hK.out _ _ ⟨(blk_cell BK451.out 0).trans rfl, (blk_cell BK451.out 1).trans rfl, (blk_cell BK451.out 2).trans rfl, (blk_cell BK451.out 3).trans rfl, (blk_cell BK451.out 4).trans rfl, (blk_cell BK451.out 5).trans rfl, (blk_cell BK459.out 0).trans rfl, (blk_cell BK459.out 1).trans rfl, (blk_cell BK459.out 2).trans rfl, (blk_cell BK459.out 3).trans rfl, (blk_cell BK459.out 4).trans rfl, (blk_cell BK459.out 5).trans rfl⟩ (fun hHeld => ?_)
        clear hK K
        refine norm_ (a' := ?_) ?_ ?_
        rotate_left
        ·
         show Act.put _ (some 72) _ = _
         simp only [Act.put, List.setIfInBounds_toArray, List.set_cons_zero, List.set_cons_succ, i64_w, i32_w]
         rfl
        refine pure_ (i := 6) (N := some 66) (v := ?_) (a' := ?_) #[true, true, true, true, true, true, true, false, false, false, false] rfl rfl (any_of HT_.out (by kernel_rfl)) (fun _ _ _ h => h) (Or.inl ⟨by rfl, ?_⟩) ?_ ?_
        rotate_left
        ·
         intro w'
         go_simp
         with_reducible rfl
        rotate_left
        ·
         simp only [Act.put, List.setIfInBounds_toArray, List.set_cons_zero, List.set_cons_succ, i64_w, i32_w]
         rfl
        refine pure_ (i := 7) (N := some 73) (v := ?_) (a' := ?_) #[true, true, true, true, true, true, true, true, false, false, false] rfl rfl (any_of HT_.out (by kernel_rfl)) (fun _ _ _ h => h) (Or.inl ⟨by rfl, ?_⟩) ?_ ?_
        rotate_left
        ·
         intro w'
         go_simp
         with_reducible rfl
        rotate_left
        ·
         simp only [Act.put, List.setIfInBounds_toArray, List.set_cons_zero, List.set_cons_succ, i64_w, i32_w]
         rfl
        refine pure_ (i := 8) (N := some 74) (v := ?_) (a' := ?_) #[true, true, true, true, true, true, true, true, true, false, false] rfl rfl (any_of HT_.out (by kernel_rfl)) (fun _ _ _ h => h) (Or.inl ⟨by rfl, ?_⟩) ?_ ?_
        rotate_left
        ·
         intro w'
         go_simp
         with_reducible rfl
        rotate_left
        ·
         simp only [Act.put, List.setIfInBounds_toArray, List.set_cons_zero, List.set_cons_succ, i64_w, i32_w]
         rfl
        refine pure_ (i := 9) (N := some 13) (v := ?_) (a' := ?_) #[true, true, true, true, true, true, true, true, true, true, false] rfl rfl (any_of HT_.out (by kernel_rfl)) (fun _ _ _ h => h) (Or.inl ⟨by rfl, ?_⟩) ?_ ?_
        rotate_left
        ·
         intro w'
         go_simp
         with_reducible rfl
        rotate_left
        ·
         simp only [Act.put, List.setIfInBounds_toArray, List.set_cons_zero, List.set_cons_succ, i64_w, i32_w]
         rfl
        refine pure_ (i := 10) (N := some 1) (v := ?_) (a' := ?_) #[true, true, true, true, true, true, true, true, true, true, true] rfl rfl (any_of HT_.out (by kernel_rfl)) (fun _ _ _ h => h) (Or.inl ⟨by rfl, ?_⟩) ?_ ?_
        rotate_left
        ·
         intro w'
         go_simp
         with_reducible rfl
        rotate_left
        ·
         simp only [Act.put, List.setIfInBounds_toArray, List.set_cons_zero, List.set_cons_succ, i64_w, i32_w]
         rfl
        refine done_ (done_of HT_.out (by kernel_rfl)) ?_
        obtain ⟨Ao53, co53, eo53⟩ := Kd.R_slice HO465.out
        subst eo53
        try go_wp2_with (first | ((with_reducible refine gate_callee (f := 28) rfl ?_); refine goesL_ (some 76) rfl rfl Try.func28 (by kernel_rfl) rfl #[.slice Ao53 t463.length co53] rfl (by (try simp only [List.map_toArray, List.map_cons, List.map_nil]); first | done | rfl | (simp only [List.length_drop, List.length_take]; rfl)) ?_; (with_reducible refine (spec_l14List.calls kj5 _ _ t463 true _ ?side1 ?side2 A40.out).mono ?_); (case side1 => repeat (first | exact (Kd.R_reads' HO465.out).2.2 | (with_reducible refine Kd.C_alloc ?_ _) | (with_reducible refine Kd.C_drewN ?_ _) | (with_reducible refine Kd.C_drew ?_))); (case side2 => exact (Kd.R_reads' HO465.out).2.1); rintro e w54 ⟨rfl, hb⟩; refine ⟨_, rfl, ?_⟩; have n0_ := Aside0.mk (Kd.R_below (by (with_reducible repeat (first | apply Kd.R_alloc | apply Kd.R_drewN | apply Kd.R_drew)); exact HO462.out) hb); have n1_ := Aside0.mk (Kd.R_below (by (with_reducible repeat (first | apply Kd.R_alloc | apply Kd.R_drewN | apply Kd.R_drew)); exact HO465.out) hb); have n2_ := Aside0.mk (blk_below (g := gb451) (o := .cells #[.int .i64 ((rd_T37 l0 t443).f0), .int .i64 ((rd_T37 l0 t443).f1), .int .i64 ((rd_T37 l0 t443).f2), .int .i64 ((rd_T37 l0 t443).f3), .int .i64 ((rd_T37 l0 t443).f4), .int .i64 a3] 37 (0, 0)) (by (with_reducible repeat (first | refine blk_drewN ?_ _ | refine blk_drew ?_ | refine blk_alloc ?_ _)); exact BK451.out) hb); have n3_ := Aside0.mk (blk_below (g := gb459) (o := .cells #[.int .i64 ((rd_T37 l0 t443).f0), .int .i64 ((rd_T37 l0 t443).f1), .int .i64 a2, .int .i64 ((rd_T37 l0 t443).f3), .int .i64 a3, .int .i64 ((rd_T37 l0 t443).f5)] 37 (0, 0)) (by (with_reducible repeat (first | refine blk_drewN ?_ _ | refine blk_drew ?_ | refine blk_alloc ?_ _)); exact BK459.out) hb); have n4_ := Aside0.mk (below_step (by repeat (first | (with_reducible first | exact HB.out | apply below_alloc | apply pw_below_drewN | apply below_drew1 | refine below_set ?_ GE451.out | refine below_set ?_ GE459.out) | exact HB.out)) hb); clear HO462; clear HO465; clear BK451; clear BK459; clear HB; have HO462 := n0_; have HO465 := n1_; have BK451 := n2_; have BK459 := n3_; have HB := n4_; clear n0_ n1_ n2_ n3_ n4_; (try clear hb); (try clear hb2); (try clear hk); (try clear hi)))
        go_ret3
        exact ⟨_, by first | rfl | (simp [errW_none, errW_some] <;> rfl) | (simp [*, errW_none, errW_some] <;> rfl), by (with_reducible repeat (first | apply Kd.R_alloc | apply Kd.R_drewN | apply Kd.R_drew)); exact Kd.R_mono HO465.out (fun _ hk => trivial), by repeat (first | (with_reducible first | exact HB.out | apply below_alloc | apply pw_below_drewN | apply below_drew1 | refine below_set ?_ GE451.out | refine below_set ?_ GE459.out) | exact HB.out)⟩
       ·
        replace c41 := Bool.eq_false_iff.mpr c41
        subst c41
        have H1 : (some ((([] : List (S37))), 0, false)) = some (r1, r2, r3) := by rw [if_neg (show ¬ (false = true) by decide)] at H; exact H
        clear H
        have H := H1
        clear H1
        obtain ⟨y468, hy468⟩ : ∃ y_ : List (S37), y_ = (([] : List (S37))) := ⟨_, rfl⟩
        replace H : (some (y468, 0, false)) = some (r1, r2, r3) := by first | (rw [hy468]; with_reducible exact H) | (have H2_ := (Option.bind_some _ _).symm.trans H; rw [hy468]; with_reducible exact H2_) | (have H2_ := (Option.bind_some _ _).symm.trans H; with_reducible exact H2_) | with_reducible exact H | (rw [hy468]; exact H) | exact H
        have Ny468 := Aside0.mk hy468
        clear hy468
        simp only [Option.some.injEq, Prod.mk.injEq] at H
        obtain ⟨rfl, rfl, rfl⟩ := H
        have p450 : 0 ≤ (t443 : Int) := of_decide_eq_true (by first | (with_reducible assumption) | assumption)
        have q450 : t443 < (l0.length : Int) := of_decide_eq_true (by first | (with_reducible assumption) | assumption)
        obtain ⟨ad450, e450, hx450_0, hx450_1, hx450_2, hx450_3, hx450_4, hx450_5⟩ := at_T37 HR0.out t443 p450 q450
        cases e450
        replace hx450_0 := (HB.out.cell (World.block_lt_of_cell? w _ hx450_0)).trans hx450_0
        replace hx450_1 := (HB.out.cell (World.block_lt_of_cell? w _ hx450_1)).trans hx450_1
        replace hx450_2 := (HB.out.cell (World.block_lt_of_cell? w _ hx450_2)).trans hx450_2
        replace hx450_3 := (HB.out.cell (World.block_lt_of_cell? w _ hx450_3)).trans hx450_3
        replace hx450_4 := (HB.out.cell (World.block_lt_of_cell? w _ hx450_4)).trans hx450_4
        replace hx450_5 := (HB.out.cell (World.block_lt_of_cell? w _ hx450_5)).trans hx450_5
        replace p450 := eq_true p450
        replace q450 := eq_true q450
        try go_wp2_with (first | ((with_reducible refine gate_dst (N := 12) rfl ?_); refine box_event ?hg (N := 12) ?hd (cs := #[.int .i64 0, .int .i64 0, .int .i64 0, .int .i64 0, .int .i64 0, .int .i64 0]) (t := 37) ?hr ?_; (case hd => rfl); (case hg => rfl); (case hr => first | (go_simp; done) | (go_simp; rfl)); intro gb451 hg w55 hbox hb; have n0_ := Aside0.mk (below_step (by repeat (first | (with_reducible first | exact HB.out | apply below_alloc | apply pw_below_drewN | apply below_drew1) | exact HB.out)) hb); have n1_ := Aside0.mk (hbox); have n2_ := Aside0.mk ((by rw [hg]; exact (below_size (by repeat (first | (with_reducible first | exact HB.out | apply below_alloc | apply pw_below_drewN | apply below_drew1) | exact HB.out))) : w.heap.size ≤ gb451)); have n3_ := Aside0.mk ((by rw [hg]; exact (below_size (by repeat (first | (with_reducible first | exact HB.out | apply below_alloc | apply pw_below_drewN | apply below_drew1) | exact HB.out))) : w.heap.size ≤ gb451)); clear HB; have HB := n0_; have BK451 := n1_; have GW451 := n2_; have GE451 := n3_; clear n0_ n1_ n2_ n3_; clear hb hbox hg; have hcz56_0 : w55.cell? ⟨gb451, 0, none⟩ = some (.int .i64 0) := (blk_cell BK451.out 0).trans rfl; have hcz56_1 : w55.cell? ⟨gb451, 1, none⟩ = some (.int .i64 0) := (blk_cell BK451.out 1).trans rfl; have hcz56_2 : w55.cell? ⟨gb451, 2, none⟩ = some (.int .i64 0) := (blk_cell BK451.out 2).trans rfl; have hcz56_3 : w55.cell? ⟨gb451, 3, none⟩ = some (.int .i64 0) := (blk_cell BK451.out 3).trans rfl; have hcz56_4 : w55.cell? ⟨gb451, 4, none⟩ = some (.int .i64 0) := (blk_cell BK451.out 4).trans rfl; have hcz56_5 : w55.cell? ⟨gb451, 5, none⟩ = some (.int .i64 0) := (blk_cell BK451.out 5).trans rfl; have hl56_0 : ∀ v0 v1 v2 v3 v4 v5 u0 : Value, (((((((w55.setCell ⟨gb451, 0, none⟩ v0).setCell ⟨gb451, 1, none⟩ v1).setCell ⟨gb451, 2, none⟩ v2).setCell ⟨gb451, 3, none⟩ v3).setCell ⟨gb451, 4, none⟩ v4).setCell ⟨gb451, 5, none⟩ v5).setCell ⟨gb451, 2, none⟩ u0).cell? ⟨gb451, 2, none⟩ = some u0 := fun v0 v1 v2 v3 v4 v5 u0 => (blk_cell (blk_set (blk_set (blk_set (blk_set (blk_set (blk_set (blk_set BK451.out 0 v0) 1 v1) 2 v2) 3 v3) 4 v4) 5 v5) 2 u0) 2).trans (by simp); have hl56_1 : ∀ v0 v1 v2 v3 v4 v5 u0 u1 : Value, ((((((((w55.setCell ⟨gb451, 0, none⟩ v0).setCell ⟨gb451, 1, none⟩ v1).setCell ⟨gb451, 2, none⟩ v2).setCell ⟨gb451, 3, none⟩ v3).setCell ⟨gb451, 4, none⟩ v4).setCell ⟨gb451, 5, none⟩ v5).setCell ⟨gb451, 2, none⟩ u0).setCell ⟨gb451, 4, none⟩ u1).cell? ⟨gb451, 4, none⟩ = some u1 := fun v0 v1 v2 v3 v4 v5 u0 u1 => (blk_cell (blk_set (blk_set (blk_set (blk_set (blk_set (blk_set (blk_set (blk_set BK451.out 0 v0) 1 v1) 2 v2) 3 v3) 4 v4) 5 v5) 2 u0) 4 u1) 4).trans (by simp); have hl56_2 : ∀ v0 v1 v2 v3 v4 v5 u0 : Value, (((((((w55.setCell ⟨gb451, 0, none⟩ v0).setCell ⟨gb451, 1, none⟩ v1).setCell ⟨gb451, 2, none⟩ v2).setCell ⟨gb451, 3, none⟩ v3).setCell ⟨gb451, 4, none⟩ v4).setCell ⟨gb451, 5, none⟩ v5).setCell ⟨gb451, 5, none⟩ u0).cell? ⟨gb451, 5, none⟩ = some u0 := fun v0 v1 v2 v3 v4 v5 u0 => (blk_cell (blk_set (blk_set (blk_set (blk_set (blk_set (blk_set (blk_set BK451.out 0 v0) 1 v1) 2 v2) 3 v3) 4 v4) 5 v5) 5 u0) 5).trans (by simp); have hfz56_0 := blk_frozen BK451.out 0; have hfz56_1 := blk_frozen BK451.out 1; have hfz56_2 := blk_frozen BK451.out 2; have hfz56_3 := blk_frozen BK451.out 3; have hfz56_4 := blk_frozen BK451.out 4; have hfz56_5 := blk_frozen BK451.out 5) | ((with_reducible refine gate_dst (N := 14) rfl ?_); refine box_event ?hg (N := 14) ?hd (cs := #[.int .i64 0, .int .i64 0, .int .i64 0, .int .i64 0, .int .i64 0, .int .i64 0]) (t := 37) ?hr ?_; (case hd => rfl); (case hg => rfl); (case hr => first | (go_simp; done) | (go_simp; rfl)); intro gb459 hg w57 hbox hb; have n0_ := Aside0.mk (blk_below (g := gb451) (o := .cells #[.int .i64 ((rd_T37 l0 t443).f0), .int .i64 ((rd_T37 l0 t443).f1), .int .i64 ((rd_T37 l0 t443).f2), .int .i64 ((rd_T37 l0 t443).f3), .int .i64 ((rd_T37 l0 t443).f4), .int .i64 ((rd_T37 l0 t443).f5)] 37 (0, 0)) (by (with_reducible repeat (first | refine blk_drewN ?_ _ | refine blk_drew ?_ | refine blk_alloc ?_ _)); refine blk_put (cs := #[.int .i64 ((rd_T37 l0 t443).f0), .int .i64 ((rd_T37 l0 t443).f1), .int .i64 ((rd_T37 l0 t443).f2), .int .i64 ((rd_T37 l0 t443).f3), .int .i64 ((rd_T37 l0 t443).f4), .int .i64 0]) ?_ 5 _ rfl; (with_reducible repeat (first | refine blk_drewN ?_ _ | refine blk_drew ?_ | refine blk_alloc ?_ _)); refine blk_put (cs := #[.int .i64 ((rd_T37 l0 t443).f0), .int .i64 ((rd_T37 l0 t443).f1), .int .i64 ((rd_T37 l0 t443).f2), .int .i64 ((rd_T37 l0 t443).f3), .int .i64 0, .int .i64 0]) ?_ 4 _ rfl; (with_reducible repeat (first | refine blk_drewN ?_ _ | refine blk_drew ?_ | refine blk_alloc ?_ _)); refine blk_put (cs := #[.int .i64 ((rd_T37 l0 t443).f0), .int .i64 ((rd_T37 l0 t443).f1), .int .i64 ((rd_T37 l0 t443).f2), .int .i64 0, .int .i64 0, .int .i64 0]) ?_ 3 _ rfl; (with_reducible repeat (first | refine blk_drewN ?_ _ | refine blk_drew ?_ | refine blk_alloc ?_ _)); refine blk_put (cs := #[.int .i64 ((rd_T37 l0 t443).f0), .int .i64 ((rd_T37 l0 t443).f1), .int .i64 0, .int .i64 0, .int .i64 0, .int .i64 0]) ?_ 2 _ rfl; (with_reducible repeat (first | refine blk_drewN ?_ _ | refine blk_drew ?_ | refine blk_alloc ?_ _)); refine blk_put (cs := #[.int .i64 ((rd_T37 l0 t443).f0), .int .i64 0, .int .i64 0, .int .i64 0, .int .i64 0, .int .i64 0]) ?_ 1 _ rfl; (with_reducible repeat (first | refine blk_drewN ?_ _ | refine blk_drew ?_ | refine blk_alloc ?_ _)); refine blk_put (cs := #[.int .i64 0, .int .i64 0, .int .i64 0, .int .i64 0, .int .i64 0, .int .i64 0]) ?_ 0 _ rfl; (with_reducible repeat (first | refine blk_drewN ?_ _ | refine blk_drew ?_ | refine blk_alloc ?_ _)); exact BK451.out) hb); have n1_ := Aside0.mk (below_step (by repeat (first | (with_reducible first | exact HB.out | apply below_alloc | apply pw_below_drewN | apply below_drew1 | refine below_set ?_ GE451.out) | exact HB.out)) hb); have n2_ := Aside0.mk (hbox); have n3_ := Aside0.mk ((by rw [hg]; exact (below_size (by repeat (first | (with_reducible first | exact HB.out | apply below_alloc | apply pw_below_drewN | apply below_drew1 | refine below_set ?_ GE451.out) | exact HB.out))) : w.heap.size ≤ gb459)); have n4_ := Aside0.mk ((by rw [hg]; exact (below_size (by repeat (first | (with_reducible first | exact HB.out | apply below_alloc | apply pw_below_drewN | apply below_drew1 | refine below_set ?_ GE451.out) | exact HB.out))) : w.heap.size ≤ gb459)); have n5_ := Aside0.mk ((by rw [hg]; exact Nat.ne_of_lt (blk_lt (g := gb451) (o := .cells #[.int .i64 ((rd_T37 l0 t443).f0), .int .i64 ((rd_T37 l0 t443).f1), .int .i64 ((rd_T37 l0 t443).f2), .int .i64 ((rd_T37 l0 t443).f3), .int .i64 ((rd_T37 l0 t443).f4), .int .i64 ((rd_T37 l0 t443).f5)] 37 (0, 0)) (by (with_reducible repeat (first | refine blk_drewN ?_ _ | refine blk_drew ?_ | refine blk_alloc ?_ _)); refine blk_put (cs := #[.int .i64 ((rd_T37 l0 t443).f0), .int .i64 ((rd_T37 l0 t443).f1), .int .i64 ((rd_T37 l0 t443).f2), .int .i64 ((rd_T37 l0 t443).f3), .int .i64 ((rd_T37 l0 t443).f4), .int .i64 0]) ?_ 5 _ rfl; (with_reducible repeat (first | refine blk_drewN ?_ _ | refine blk_drew ?_ | refine blk_alloc ?_ _)); refine blk_put (cs := #[.int .i64 ((rd_T37 l0 t443).f0), .int .i64 ((rd_T37 l0 t443).f1), .int .i64 ((rd_T37 l0 t443).f2), .int .i64 ((rd_T37 l0 t443).f3), .int .i64 0, .int .i64 0]) ?_ 4 _ rfl; (with_reducible repeat (first | refine blk_drewN ?_ _ | refine blk_drew ?_ | refine blk_alloc ?_ _)); refine blk_put (cs := #[.int .i64 ((rd_T37 l0 t443).f0), .int .i64 ((rd_T37 l0 t443).f1), .int .i64 ((rd_T37 l0 t443).f2), .int .i64 0, .int .i64 0, .int .i64 0]) ?_ 3 _ rfl; (with_reducible repeat (first | refine blk_drewN ?_ _ | refine blk_drew ?_ | refine blk_alloc ?_ _)); refine blk_put (cs := #[.int .i64 ((rd_T37 l0 t443).f0), .int .i64 ((rd_T37 l0 t443).f1), .int .i64 0, .int .i64 0, .int .i64 0, .int .i64 0]) ?_ 2 _ rfl; (with_reducible repeat (first | refine blk_drewN ?_ _ | refine blk_drew ?_ | refine blk_alloc ?_ _)); refine blk_put (cs := #[.int .i64 ((rd_T37 l0 t443).f0), .int .i64 0, .int .i64 0, .int .i64 0, .int .i64 0, .int .i64 0]) ?_ 1 _ rfl; (with_reducible repeat (first | refine blk_drewN ?_ _ | refine blk_drew ?_ | refine blk_alloc ?_ _)); refine blk_put (cs := #[.int .i64 0, .int .i64 0, .int .i64 0, .int .i64 0, .int .i64 0, .int .i64 0]) ?_ 0 _ rfl; (with_reducible repeat (first | refine blk_drewN ?_ _ | refine blk_drew ?_ | refine blk_alloc ?_ _)); exact BK451.out)) : gb451 ≠ gb459)); have n6_ := Aside0.mk ((by rw [hg]; exact Nat.ne_of_gt (blk_lt (g := gb451) (o := .cells #[.int .i64 ((rd_T37 l0 t443).f0), .int .i64 ((rd_T37 l0 t443).f1), .int .i64 ((rd_T37 l0 t443).f2), .int .i64 ((rd_T37 l0 t443).f3), .int .i64 ((rd_T37 l0 t443).f4), .int .i64 ((rd_T37 l0 t443).f5)] 37 (0, 0)) (by (with_reducible repeat (first | refine blk_drewN ?_ _ | refine blk_drew ?_ | refine blk_alloc ?_ _)); refine blk_put (cs := #[.int .i64 ((rd_T37 l0 t443).f0), .int .i64 ((rd_T37 l0 t443).f1), .int .i64 ((rd_T37 l0 t443).f2), .int .i64 ((rd_T37 l0 t443).f3), .int .i64 ((rd_T37 l0 t443).f4), .int .i64 0]) ?_ 5 _ rfl; (with_reducible repeat (first | refine blk_drewN ?_ _ | refine blk_drew ?_ | refine blk_alloc ?_ _)); refine blk_put (cs := #[.int .i64 ((rd_T37 l0 t443).f0), .int .i64 ((rd_T37 l0 t443).f1), .int .i64 ((rd_T37 l0 t443).f2), .int .i64 ((rd_T37 l0 t443).f3), .int .i64 0, .int .i64 0]) ?_ 4 _ rfl; (with_reducible repeat (first | refine blk_drewN ?_ _ | refine blk_drew ?_ | refine blk_alloc ?_ _)); refine blk_put (cs := #[.int .i64 ((rd_T37 l0 t443).f0), .int .i64 ((rd_T37 l0 t443).f1), .int .i64 ((rd_T37 l0 t443).f2), .int .i64 0, .int .i64 0, .int .i64 0]) ?_ 3 _ rfl; (with_reducible repeat (first | refine blk_drewN ?_ _ | refine blk_drew ?_ | refine blk_alloc ?_ _)); refine blk_put (cs := #[.int .i64 ((rd_T37 l0 t443).f0), .int .i64 ((rd_T37 l0 t443).f1), .int .i64 0, .int .i64 0, .int .i64 0, .int .i64 0]) ?_ 2 _ rfl; (with_reducible repeat (first | refine blk_drewN ?_ _ | refine blk_drew ?_ | refine blk_alloc ?_ _)); refine blk_put (cs := #[.int .i64 ((rd_T37 l0 t443).f0), .int .i64 0, .int .i64 0, .int .i64 0, .int .i64 0, .int .i64 0]) ?_ 1 _ rfl; (with_reducible repeat (first | refine blk_drewN ?_ _ | refine blk_drew ?_ | refine blk_alloc ?_ _)); refine blk_put (cs := #[.int .i64 0, .int .i64 0, .int .i64 0, .int .i64 0, .int .i64 0, .int .i64 0]) ?_ 0 _ rfl; (with_reducible repeat (first | refine blk_drewN ?_ _ | refine blk_drew ?_ | refine blk_alloc ?_ _)); exact BK451.out)) : gb459 ≠ gb451)); clear BK451; clear HB; have BK451 := n0_; have HB := n1_; have BK459 := n2_; have GW459 := n3_; have GE459 := n4_; have NB451_459 := n5_; have NB459_451 := n6_; clear n0_ n1_ n2_ n3_ n4_ n5_ n6_; clear hb hbox hg; have hnb58 := NB459_451.out; have hnc58 := NB451_459.out; have hcz59_0 : w57.cell? ⟨gb459, 0, none⟩ = some (.int .i64 0) := (blk_cell BK459.out 0).trans rfl; have hcz59_1 : w57.cell? ⟨gb459, 1, none⟩ = some (.int .i64 0) := (blk_cell BK459.out 1).trans rfl; have hcz59_2 : w57.cell? ⟨gb459, 2, none⟩ = some (.int .i64 0) := (blk_cell BK459.out 2).trans rfl; have hcz59_3 : w57.cell? ⟨gb459, 3, none⟩ = some (.int .i64 0) := (blk_cell BK459.out 3).trans rfl; have hcz59_4 : w57.cell? ⟨gb459, 4, none⟩ = some (.int .i64 0) := (blk_cell BK459.out 4).trans rfl; have hcz59_5 : w57.cell? ⟨gb459, 5, none⟩ = some (.int .i64 0) := (blk_cell BK459.out 5).trans rfl; have hl59_0 : ∀ v0 v1 v2 v3 v4 v5 u0 : Value, (((((((w57.setCell ⟨gb459, 0, none⟩ v0).setCell ⟨gb459, 1, none⟩ v1).setCell ⟨gb459, 2, none⟩ v2).setCell ⟨gb459, 3, none⟩ v3).setCell ⟨gb459, 4, none⟩ v4).setCell ⟨gb459, 5, none⟩ v5).setCell ⟨gb459, 2, none⟩ u0).cell? ⟨gb459, 2, none⟩ = some u0 := fun v0 v1 v2 v3 v4 v5 u0 => (blk_cell (blk_set (blk_set (blk_set (blk_set (blk_set (blk_set (blk_set BK459.out 0 v0) 1 v1) 2 v2) 3 v3) 4 v4) 5 v5) 2 u0) 2).trans (by simp); have hl59_1 : ∀ v0 v1 v2 v3 v4 v5 u0 u1 : Value, ((((((((w57.setCell ⟨gb459, 0, none⟩ v0).setCell ⟨gb459, 1, none⟩ v1).setCell ⟨gb459, 2, none⟩ v2).setCell ⟨gb459, 3, none⟩ v3).setCell ⟨gb459, 4, none⟩ v4).setCell ⟨gb459, 5, none⟩ v5).setCell ⟨gb459, 2, none⟩ u0).setCell ⟨gb459, 4, none⟩ u1).cell? ⟨gb459, 4, none⟩ = some u1 := fun v0 v1 v2 v3 v4 v5 u0 u1 => (blk_cell (blk_set (blk_set (blk_set (blk_set (blk_set (blk_set (blk_set (blk_set BK459.out 0 v0) 1 v1) 2 v2) 3 v3) 4 v4) 5 v5) 2 u0) 4 u1) 4).trans (by simp); have hl59_2 : ∀ v0 v1 v2 v3 v4 v5 u0 : Value, (((((((w57.setCell ⟨gb459, 0, none⟩ v0).setCell ⟨gb459, 1, none⟩ v1).setCell ⟨gb459, 2, none⟩ v2).setCell ⟨gb459, 3, none⟩ v3).setCell ⟨gb459, 4, none⟩ v4).setCell ⟨gb459, 5, none⟩ v5).setCell ⟨gb459, 5, none⟩ u0).cell? ⟨gb459, 5, none⟩ = some u0 := fun v0 v1 v2 v3 v4 v5 u0 => (blk_cell (blk_set (blk_set (blk_set (blk_set (blk_set (blk_set (blk_set BK459.out 0 v0) 1 v1) 2 v2) 3 v3) 4 v4) 5 v5) 5 u0) 5).trans (by simp); have hfz59_0 := blk_frozen BK459.out 0; have hfz59_1 := blk_frozen BK459.out 1; have hfz59_2 := blk_frozen BK459.out 2; have hfz59_3 := blk_frozen BK459.out 3; have hfz59_4 := blk_frozen BK459.out 4; have hfz59_5 := blk_frozen BK459.out 5; have hcz60_0 : w57.cell? ⟨gb451, 0, none⟩ = some (.int .i64 ((rd_T37 l0 t443).f0)) := (blk_cell BK451.out 0).trans rfl; have hcz60_1 : w57.cell? ⟨gb451, 1, none⟩ = some (.int .i64 ((rd_T37 l0 t443).f1)) := (blk_cell BK451.out 1).trans rfl; have hcz60_2 : w57.cell? ⟨gb451, 2, none⟩ = some (.int .i64 ((rd_T37 l0 t443).f2)) := (blk_cell BK451.out 2).trans rfl; have hcz60_3 : w57.cell? ⟨gb451, 3, none⟩ = some (.int .i64 ((rd_T37 l0 t443).f3)) := (blk_cell BK451.out 3).trans rfl; have hcz60_4 : w57.cell? ⟨gb451, 4, none⟩ = some (.int .i64 ((rd_T37 l0 t443).f4)) := (blk_cell BK451.out 4).trans rfl; have hcz60_5 : w57.cell? ⟨gb451, 5, none⟩ = some (.int .i64 ((rd_T37 l0 t443).f5)) := (blk_cell BK451.out 5).trans rfl; have hfz60_0 := blk_frozen BK451.out 0; have hfz60_1 := blk_frozen BK451.out 1; have hfz60_2 := blk_frozen BK451.out 2; have hfz60_3 := blk_frozen BK451.out 3; have hfz60_4 := blk_frozen BK451.out 4; have hfz60_5 := blk_frozen BK451.out 5))
        have n0_ : Aside0 ((((((((((w57.setCell ⟨gb459, 0, none⟩ (.int .i64 ((rd_T37 l0 t443).f0))).setCell ⟨gb459, 1, none⟩ (.int .i64 ((rd_T37 l0 t443).f1))).setCell ⟨gb459, 2, none⟩ (.int .i64 ((rd_T37 l0 t443).f2))).setCell ⟨gb459, 3, none⟩ (.int .i64 ((rd_T37 l0 t443).f3))).setCell ⟨gb459, 4, none⟩ (.int .i64 ((rd_T37 l0 t443).f4))).setCell ⟨gb459, 5, none⟩ (.int .i64 ((rd_T37 l0 t443).f5))).setCell ⟨gb459, 2, none⟩ (.int .i64 a2)).setCell ⟨gb459, 4, none⟩ (.int .i64 a3)).setCell ⟨gb451, 5, none⟩ (.int .i64 a3)).heap[gb451]? = some (.cells #[.int .i64 ((rd_T37 l0 t443).f0), .int .i64 ((rd_T37 l0 t443).f1), .int .i64 ((rd_T37 l0 t443).f2), .int .i64 ((rd_T37 l0 t443).f3), .int .i64 ((rd_T37 l0 t443).f4), .int .i64 a3] 37 (0, 0))) := ⟨by (with_reducible repeat (first | refine blk_drewN ?_ _ | refine blk_drew ?_ | refine blk_alloc ?_ _)); refine blk_put (cs := #[.int .i64 ((rd_T37 l0 t443).f0), .int .i64 ((rd_T37 l0 t443).f1), .int .i64 ((rd_T37 l0 t443).f2), .int .i64 ((rd_T37 l0 t443).f3), .int .i64 ((rd_T37 l0 t443).f4), .int .i64 ((rd_T37 l0 t443).f5)]) ?_ 5 _ rfl; (with_reducible repeat (first | refine blk_drewN ?_ _ | refine blk_drew ?_ | refine blk_alloc ?_ _)); refine blk_far ?_ NB451_459.out _; (with_reducible repeat (first | refine blk_drewN ?_ _ | refine blk_drew ?_ | refine blk_alloc ?_ _)); refine blk_far ?_ NB451_459.out _; (with_reducible repeat (first | refine blk_drewN ?_ _ | refine blk_drew ?_ | refine blk_alloc ?_ _)); refine blk_far ?_ NB451_459.out _; (with_reducible repeat (first | refine blk_drewN ?_ _ | refine blk_drew ?_ | refine blk_alloc ?_ _)); refine blk_far ?_ NB451_459.out _; (with_reducible repeat (first | refine blk_drewN ?_ _ | refine blk_drew ?_ | refine blk_alloc ?_ _)); refine blk_far ?_ NB451_459.out _; (with_reducible repeat (first | refine blk_drewN ?_ _ | refine blk_drew ?_ | refine blk_alloc ?_ _)); refine blk_far ?_ NB451_459.out _; (with_reducible repeat (first | refine blk_drewN ?_ _ | refine blk_drew ?_ | refine blk_alloc ?_ _)); refine blk_far ?_ NB451_459.out _; (with_reducible repeat (first | refine blk_drewN ?_ _ | refine blk_drew ?_ | refine blk_alloc ?_ _)); refine blk_far ?_ NB451_459.out _; (with_reducible repeat (first | refine blk_drewN ?_ _ | refine blk_drew ?_ | refine blk_alloc ?_ _)); exact BK451.out⟩
        have n1_ : Aside0 ((((((((((w57.setCell ⟨gb459, 0, none⟩ (.int .i64 ((rd_T37 l0 t443).f0))).setCell ⟨gb459, 1, none⟩ (.int .i64 ((rd_T37 l0 t443).f1))).setCell ⟨gb459, 2, none⟩ (.int .i64 ((rd_T37 l0 t443).f2))).setCell ⟨gb459, 3, none⟩ (.int .i64 ((rd_T37 l0 t443).f3))).setCell ⟨gb459, 4, none⟩ (.int .i64 ((rd_T37 l0 t443).f4))).setCell ⟨gb459, 5, none⟩ (.int .i64 ((rd_T37 l0 t443).f5))).setCell ⟨gb459, 2, none⟩ (.int .i64 a2)).setCell ⟨gb459, 4, none⟩ (.int .i64 a3)).setCell ⟨gb451, 5, none⟩ (.int .i64 a3)).heap[gb459]? = some (.cells #[.int .i64 ((rd_T37 l0 t443).f0), .int .i64 ((rd_T37 l0 t443).f1), .int .i64 a2, .int .i64 ((rd_T37 l0 t443).f3), .int .i64 a3, .int .i64 ((rd_T37 l0 t443).f5)] 37 (0, 0))) := ⟨by (with_reducible repeat (first | refine blk_drewN ?_ _ | refine blk_drew ?_ | refine blk_alloc ?_ _)); refine blk_far ?_ NB459_451.out _; (with_reducible repeat (first | refine blk_drewN ?_ _ | refine blk_drew ?_ | refine blk_alloc ?_ _)); refine blk_put (cs := #[.int .i64 ((rd_T37 l0 t443).f0), .int .i64 ((rd_T37 l0 t443).f1), .int .i64 a2, .int .i64 ((rd_T37 l0 t443).f3), .int .i64 ((rd_T37 l0 t443).f4), .int .i64 ((rd_T37 l0 t443).f5)]) ?_ 4 _ rfl; (with_reducible repeat (first | refine blk_drewN ?_ _ | refine blk_drew ?_ | refine blk_alloc ?_ _)); refine blk_put (cs := #[.int .i64 ((rd_T37 l0 t443).f0), .int .i64 ((rd_T37 l0 t443).f1), .int .i64 ((rd_T37 l0 t443).f2), .int .i64 ((rd_T37 l0 t443).f3), .int .i64 ((rd_T37 l0 t443).f4), .int .i64 ((rd_T37 l0 t443).f5)]) ?_ 2 _ rfl; (with_reducible repeat (first | refine blk_drewN ?_ _ | refine blk_drew ?_ | refine blk_alloc ?_ _)); refine blk_put (cs := #[.int .i64 ((rd_T37 l0 t443).f0), .int .i64 ((rd_T37 l0 t443).f1), .int .i64 ((rd_T37 l0 t443).f2), .int .i64 ((rd_T37 l0 t443).f3), .int .i64 ((rd_T37 l0 t443).f4), .int .i64 0]) ?_ 5 _ rfl; (with_reducible repeat (first | refine blk_drewN ?_ _ | refine blk_drew ?_ | refine blk_alloc ?_ _)); refine blk_put (cs := #[.int .i64 ((rd_T37 l0 t443).f0), .int .i64 ((rd_T37 l0 t443).f1), .int .i64 ((rd_T37 l0 t443).f2), .int .i64 ((rd_T37 l0 t443).f3), .int .i64 0, .int .i64 0]) ?_ 4 _ rfl; (with_reducible repeat (first | refine blk_drewN ?_ _ | refine blk_drew ?_ | refine blk_alloc ?_ _)); refine blk_put (cs := #[.int .i64 ((rd_T37 l0 t443).f0), .int .i64 ((rd_T37 l0 t443).f1), .int .i64 ((rd_T37 l0 t443).f2), .int .i64 0, .int .i64 0, .int .i64 0]) ?_ 3 _ rfl; (with_reducible repeat (first | refine blk_drewN ?_ _ | refine blk_drew ?_ | refine blk_alloc ?_ _)); refine blk_put (cs := #[.int .i64 ((rd_T37 l0 t443).f0), .int .i64 ((rd_T37 l0 t443).f1), .int .i64 0, .int .i64 0, .int .i64 0, .int .i64 0]) ?_ 2 _ rfl; (with_reducible repeat (first | refine blk_drewN ?_ _ | refine blk_drew ?_ | refine blk_alloc ?_ _)); refine blk_put (cs := #[.int .i64 ((rd_T37 l0 t443).f0), .int .i64 0, .int .i64 0, .int .i64 0, .int .i64 0, .int .i64 0]) ?_ 1 _ rfl; (with_reducible repeat (first | refine blk_drewN ?_ _ | refine blk_drew ?_ | refine blk_alloc ?_ _)); refine blk_put (cs := #[.int .i64 0, .int .i64 0, .int .i64 0, .int .i64 0, .int .i64 0, .int .i64 0]) ?_ 0 _ rfl; (with_reducible repeat (first | refine blk_drewN ?_ _ | refine blk_drew ?_ | refine blk_alloc ?_ _)); exact BK459.out⟩
        have n2_ : Aside0 (Below w.heap.size w (((((((((w57.setCell ⟨gb459, 0, none⟩ (.int .i64 ((rd_T37 l0 t443).f0))).setCell ⟨gb459, 1, none⟩ (.int .i64 ((rd_T37 l0 t443).f1))).setCell ⟨gb459, 2, none⟩ (.int .i64 ((rd_T37 l0 t443).f2))).setCell ⟨gb459, 3, none⟩ (.int .i64 ((rd_T37 l0 t443).f3))).setCell ⟨gb459, 4, none⟩ (.int .i64 ((rd_T37 l0 t443).f4))).setCell ⟨gb459, 5, none⟩ (.int .i64 ((rd_T37 l0 t443).f5))).setCell ⟨gb459, 2, none⟩ (.int .i64 a2)).setCell ⟨gb459, 4, none⟩ (.int .i64 a3)).setCell ⟨gb451, 5, none⟩ (.int .i64 a3))) := ⟨by repeat (first | (with_reducible first | exact HB.out | apply below_alloc | apply pw_below_drewN | apply below_drew1 | refine below_set ?_ GE451.out | refine below_set ?_ GE459.out) | exact HB.out)⟩
        (try clear BK451)
        (try clear BK459)
        (try clear HB)
        generalize (((((((((w57.setCell ⟨gb459, 0, none⟩ (.int .i64 ((rd_T37 l0 t443).f0))).setCell ⟨gb459, 1, none⟩ (.int .i64 ((rd_T37 l0 t443).f1))).setCell ⟨gb459, 2, none⟩ (.int .i64 ((rd_T37 l0 t443).f2))).setCell ⟨gb459, 3, none⟩ (.int .i64 ((rd_T37 l0 t443).f3))).setCell ⟨gb459, 4, none⟩ (.int .i64 ((rd_T37 l0 t443).f4))).setCell ⟨gb459, 5, none⟩ (.int .i64 ((rd_T37 l0 t443).f5))).setCell ⟨gb459, 2, none⟩ (.int .i64 a2)).setCell ⟨gb459, 4, none⟩ (.int .i64 a3)).setCell ⟨gb451, 5, none⟩ (.int .i64 a3)) = w61 at n0_ n1_ n2_ ⊢
        have BK451 := n0_
        have BK459 := n1_
        have HB := n2_
        clear n0_ n1_ n2_
        have n0_ := Aside0.mk (blk_drew BK451.out)
        have n1_ := Aside0.mk (blk_drew BK459.out)
        have n2_ := Aside0.mk (below_drew1 HB.out)
        clear BK451
        clear BK459
        clear HB
        have BK451 := n0_
        have BK459 := n1_
        have HB := n2_
        clear n0_ n1_ n2_
        refine start_ (n := 11) (S := fun w' => w'.cell? ⟨gb451, 0, none⟩ = some (.int .i64 ((rd_T37 l0 t443).f0)) ∧ w'.cell? ⟨gb451, 1, none⟩ = some (.int .i64 ((rd_T37 l0 t443).f1)) ∧ w'.cell? ⟨gb451, 2, none⟩ = some (.int .i64 ((rd_T37 l0 t443).f2)) ∧ w'.cell? ⟨gb451, 3, none⟩ = some (.int .i64 ((rd_T37 l0 t443).f3)) ∧ w'.cell? ⟨gb451, 4, none⟩ = some (.int .i64 ((rd_T37 l0 t443).f4)) ∧ w'.cell? ⟨gb451, 5, none⟩ = some (.int .i64 a3) ∧ w'.cell? ⟨gb459, 0, none⟩ = some (.int .i64 ((rd_T37 l0 t443).f0)) ∧ w'.cell? ⟨gb459, 1, none⟩ = some (.int .i64 ((rd_T37 l0 t443).f1)) ∧ w'.cell? ⟨gb459, 2, none⟩ = some (.int .i64 a2) ∧ w'.cell? ⟨gb459, 3, none⟩ = some (.int .i64 ((rd_T37 l0 t443).f3)) ∧ w'.cell? ⟨gb459, 4, none⟩ = some (.int .i64 a3) ∧ w'.cell? ⟨gb459, 5, none⟩ = some (.int .i64 ((rd_T37 l0 t443).f5))) (ds := []) #[false, false, false, false, false, false, false, false, false, false, false] (by kernel_rfl) rfl rfl ⟨(blk_cell BK451.out 0).trans rfl, (blk_cell BK451.out 1).trans rfl, (blk_cell BK451.out 2).trans rfl, (blk_cell BK451.out 3).trans rfl, (blk_cell BK451.out 4).trans rfl, (blk_cell BK451.out 5).trans rfl, (blk_cell BK459.out 0).trans rfl, (blk_cell BK459.out 1).trans rfl, (blk_cell BK459.out 2).trans rfl, (blk_cell BK459.out 3).trans rfl, (blk_cell BK459.out 4).trans rfl, (blk_cell BK459.out 5).trans rfl⟩ (fun hHeld => ?_); refine with_tabW spec_ChangeLevel.tab13 spec_ChangeLevel.bits13 (fun HT_ HW_ => ?_)
        generalize w61.drew = w62 at BK451 BK459 HB hHeld ⊢
        refine pure_ (i := 0) (N := some 67) (v := ?_) (a' := ?_) #[true, false, false, false, false, false, false, false, false, false, false] rfl rfl (any_of HT_.out (by kernel_rfl)) (fun _ _ _ h => h) (Or.inl ⟨by rfl, ?_⟩) ?_ ?_
        rotate_left
        ·
         intro w'
         go_simp
         with_reducible rfl
        rotate_left
        ·
         simp only [Act.put, List.setIfInBounds_toArray, List.set_cons_zero, List.set_cons_succ, i64_w, i32_w]
         rfl
        refine pure_ (i := 1) (N := some 68) (v := ?_) (a' := ?_) #[true, true, false, false, false, false, false, false, false, false, false] rfl rfl (any_of HT_.out (by kernel_rfl)) (fun _ _ _ h => h) (Or.inl ⟨by rfl, ?_⟩) ?_ ?_
        rotate_left
        ·
         intro w'
         go_simp
         with_reducible rfl
        rotate_left
        ·
         simp only [Act.put, List.setIfInBounds_toArray, List.set_cons_zero, List.set_cons_succ, i64_w, i32_w]
         rfl
        refine take_ (i := 2) (N := some 69) (v := ?_) (a' := ?_) #[true, true, true, false, false, false, false, false, false, false, false] rfl rfl (take_ofW HT_.out HW_.out (by kernel_rfl)) (fun _ _ _ h => h) (Or.inl ⟨by rfl, ?_⟩) hHeld ?_ ?_
        rotate_left
        ·
         rintro w' ⟨s0, s1, s2, s3, s4, s5, s6, s7, s8, s9, s10, s11⟩
         go_simp
         with_reducible rfl
        rotate_left
        ·
         simp only [Act.put, List.setIfInBounds_toArray, List.set_cons_zero, List.set_cons_succ, i64_w, i32_w]
         rfl
        refine take_ (i := 4) (N := some 71) (v := ?_) (a' := ?_) #[true, true, true, false, true, false, false, false, false, false, false] rfl rfl (take_ofW HT_.out HW_.out (by kernel_rfl)) (fun _ _ _ h => h) (Or.inl ⟨by rfl, ?_⟩) hHeld ?_ ?_
        rotate_left
        ·
         rintro w' ⟨s0, s1, s2, s3, s4, s5, s6, s7, s8, s9, s10, s11⟩
         go_simp
         with_reducible rfl
        rotate_left
        ·
         simp only [Act.put, List.setIfInBounds_toArray, List.set_cons_zero, List.set_cons_succ, i64_w, i32_w]
         rfl
        refine one_ (i := 3) (N := some 70) #[true, true, true, true, true, false, false, false, false, false, false] rfl rfl (one_of HT_.out (by kernel_rfl)) (by decide) (fun K hK => ?_)
        refine goes_ Try.func47 (by kernel_rfl) rfl #[.slice (some ad450) l0.length c0, .int .i64 t443, .agg #[.int .i64 ((rd_T37 l0 t443).f0), .int .i64 ((rd_T37 l0 t443).f1), .int .i64 ((rd_T37 l0 t443).f2), .int .i64 ((rd_T37 l0 t443).f3), .int .i64 ((rd_T37 l0 t443).f4), .int .i64 a3]] (by rfl) rfl rfl (by (try simp only [List.map_toArray, List.map_cons, List.map_nil]); first | done | rfl | (simp only [List.length_drop, List.length_take]; rfl)) ?_
        with_reducible refine (spec_l14With.calls _ _ l0 t443 ((rd_T37 l0 t443).f0) ((rd_T37 l0 t443).f1) ((rd_T37 l0 t443).f2) ((rd_T37 l0 t443).f3) ((rd_T37 l0 t443).f4) a3 t460 _ ?side1 ?side2 A38.out).mono ?_
        (case side1 => repeat (first | exact (Kd.C_below HR0.out HB.out) | (with_reducible refine Kd.C_alloc ?_ _) | (with_reducible refine Kd.C_drewN ?_ _) | (with_reducible refine Kd.C_drew ?_)))
        (case side2 => exact HC0.out)
        rintro e w63 ⟨v461, rfl, ho0, hb⟩
        refine ⟨_, rfl, ?_⟩
        have n0_ := Aside0.mk (Kd.R_lower (Kd.R_newB (Kd.R_newB ho0 (g := gb451) (o := .cells #[.int .i64 ((rd_T37 l0 t443).f0), .int .i64 ((rd_T37 l0 t443).f1), .int .i64 ((rd_T37 l0 t443).f2), .int .i64 ((rd_T37 l0 t443).f3), .int .i64 ((rd_T37 l0 t443).f4), .int .i64 a3] 37 (0, 0)) (by (with_reducible repeat (first | refine blk_drewN ?_ _ | refine blk_drew ?_ | refine blk_alloc ?_ _)); exact BK451.out)) (g := gb459) (o := .cells #[.int .i64 ((rd_T37 l0 t443).f0), .int .i64 ((rd_T37 l0 t443).f1), .int .i64 a2, .int .i64 ((rd_T37 l0 t443).f3), .int .i64 a3, .int .i64 ((rd_T37 l0 t443).f5)] 37 (0, 0)) (by (with_reducible repeat (first | refine blk_drewN ?_ _ | refine blk_drew ?_ | refine blk_alloc ?_ _)); exact BK459.out)) (below_size (by repeat (first | (with_reducible first | exact HB.out | apply below_alloc | apply pw_below_drewN | apply below_drew1 | refine below_set ?_ GE451.out | refine below_set ?_ GE459.out) | exact HB.out))))
        have n1_ := Aside0.mk (blk_below (g := gb451) (o := .cells #[.int .i64 ((rd_T37 l0 t443).f0), .int .i64 ((rd_T37 l0 t443).f1), .int .i64 ((rd_T37 l0 t443).f2), .int .i64 ((rd_T37 l0 t443).f3), .int .i64 ((rd_T37 l0 t443).f4), .int .i64 a3] 37 (0, 0)) (by (with_reducible repeat (first | refine blk_drewN ?_ _ | refine blk_drew ?_ | refine blk_alloc ?_ _)); exact BK451.out) hb)
        have n2_ := Aside0.mk (blk_below (g := gb459) (o := .cells #[.int .i64 ((rd_T37 l0 t443).f0), .int .i64 ((rd_T37 l0 t443).f1), .int .i64 a2, .int .i64 ((rd_T37 l0 t443).f3), .int .i64 a3, .int .i64 ((rd_T37 l0 t443).f5)] 37 (0, 0)) (by (with_reducible repeat (first | refine blk_drewN ?_ _ | refine blk_drew ?_ | refine blk_alloc ?_ _)); exact BK459.out) hb)
        have n3_ := Aside0.mk (below_step (by repeat (first | (with_reducible first | exact HB.out | apply below_alloc | apply pw_below_drewN | apply below_drew1 | refine below_set ?_ GE451.out | refine below_set ?_ GE459.out) | exact HB.out)) hb)
        clear BK451
        clear BK459
        clear HB
        have HO462 := n0_
        have BK451 := n1_
        have BK459 := n2_
        have HB := n3_
        clear n0_ n1_ n2_ n3_
        (try clear hb)
        (try clear hb2)
        (try clear hk)
        (try clear hi)
        (try clear ho0)
        obtain ⟨Ao64, co64, eo64⟩ := Kd.R_slice HO462.out
        (first | subst eo64 | (injection eo64 with f1_ f2_ f3_; have f4_ := f1_.symm; have f5_ := f3_.symm; clear f1_ f2_ f3_; subst f4_; subst f5_))
        refine hK.out _ _ ⟨(blk_cell BK451.out 0).trans rfl, (blk_cell BK451.out 1).trans rfl, (blk_cell BK451.out 2).trans rfl, (blk_cell BK451.out 3).trans rfl, (blk_cell BK451.out 4).trans rfl, (blk_cell BK451.out 5).trans rfl, (blk_cell BK459.out 0).trans rfl, (blk_cell BK459.out 1).trans rfl, (blk_cell BK459.out 2).trans rfl, (blk_cell BK459.out 3).trans rfl, (blk_cell BK459.out 4).trans rfl, (blk_cell BK459.out 5).trans rfl⟩ (fun hHeld => ?_)
        clear hK K
        refine norm_ (a' := ?_) ?_ ?_
        rotate_left
        ·
         show Act.put _ (some 70) _ = _
         simp only [Act.put, List.setIfInBounds_toArray, List.set_cons_zero, List.set_cons_succ, i64_w, i32_w]
         rfl
        refine one_ (i := 5) (N := some 72) #[true, true, true, true, true, true, false, false, false, false, false] rfl rfl (one_of HT_.out (by kernel_rfl)) (by decide) (fun K hK => ?_)
        refine goes_ Try.func48 (by kernel_rfl) rfl #[.slice Ao64 t460.length co64, .agg #[.int .i64 ((rd_T37 l0 t443).f0), .int .i64 ((rd_T37 l0 t443).f1), .int .i64 a2, .int .i64 ((rd_T37 l0 t443).f3), .int .i64 a3, .int .i64 ((rd_T37 l0 t443).f5)]] (by rfl) rfl rfl (by (try simp only [List.map_toArray, List.map_cons, List.map_nil]); first | done | rfl | (simp only [List.length_drop, List.length_take]; rfl)) ?_
        with_reducible refine (spec_l14Issue.calls _ _ t460 ((rd_T37 l0 t443).f0) ((rd_T37 l0 t443).f1) a2 ((rd_T37 l0 t443).f3) a3 ((rd_T37 l0 t443).f5) t463 t466 _ ?side1 ?side2 A39.out).mono ?_
        (case side1 => repeat (first | exact (Kd.R_reads' HO462.out).2.2 | (with_reducible refine Kd.C_alloc ?_ _) | (with_reducible refine Kd.C_drewN ?_ _) | (with_reducible refine Kd.C_drew ?_)))
        (case side2 => exact (Kd.R_reads' HO462.out).2.1)
        rintro e w65 ⟨v464, rfl, ho0, hb⟩
        refine ⟨_, rfl, ?_⟩
        have n0_ := Aside0.mk (Kd.R_elder' (by (with_reducible repeat (first | apply Kd.R_alloc | apply Kd.R_drewN | apply Kd.R_drew)); exact HO462.out) (Kd.R_base ho0) hb)
        have n1_ := Aside0.mk (Kd.R_lower (Kd.R_newB (Kd.R_newB (Kd.R_new' ho0 (Kd.R_lt (by (with_reducible repeat (first | apply Kd.R_alloc | apply Kd.R_drewN | apply Kd.R_drew)); exact HO462.out))) (g := gb451) (o := .cells #[.int .i64 ((rd_T37 l0 t443).f0), .int .i64 ((rd_T37 l0 t443).f1), .int .i64 ((rd_T37 l0 t443).f2), .int .i64 ((rd_T37 l0 t443).f3), .int .i64 ((rd_T37 l0 t443).f4), .int .i64 a3] 37 (0, 0)) (by (with_reducible repeat (first | refine blk_drewN ?_ _ | refine blk_drew ?_ | refine blk_alloc ?_ _)); exact BK451.out)) (g := gb459) (o := .cells #[.int .i64 ((rd_T37 l0 t443).f0), .int .i64 ((rd_T37 l0 t443).f1), .int .i64 a2, .int .i64 ((rd_T37 l0 t443).f3), .int .i64 a3, .int .i64 ((rd_T37 l0 t443).f5)] 37 (0, 0)) (by (with_reducible repeat (first | refine blk_drewN ?_ _ | refine blk_drew ?_ | refine blk_alloc ?_ _)); exact BK459.out)) (below_size (by repeat (first | (with_reducible first | exact HB.out | apply below_alloc | apply pw_below_drewN | apply below_drew1 | refine below_set ?_ GE451.out | refine below_set ?_ GE459.out) | exact HB.out))))
        have n2_ := Aside0.mk (blk_below (g := gb451) (o := .cells #[.int .i64 ((rd_T37 l0 t443).f0), .int .i64 ((rd_T37 l0 t443).f1), .int .i64 ((rd_T37 l0 t443).f2), .int .i64 ((rd_T37 l0 t443).f3), .int .i64 ((rd_T37 l0 t443).f4), .int .i64 a3] 37 (0, 0)) (by (with_reducible repeat (first | refine blk_drewN ?_ _ | refine blk_drew ?_ | refine blk_alloc ?_ _)); exact BK451.out) hb)
        have n3_ := Aside0.mk (blk_below (g := gb459) (o := .cells #[.int .i64 ((rd_T37 l0 t443).f0), .int .i64 ((rd_T37 l0 t443).f1), .int .i64 a2, .int .i64 ((rd_T37 l0 t443).f3), .int .i64 a3, .int .i64 ((rd_T37 l0 t443).f5)] 37 (0, 0)) (by (with_reducible repeat (first | refine blk_drewN ?_ _ | refine blk_drew ?_ | refine blk_alloc ?_ _)); exact BK459.out) hb)
        have n4_ := Aside0.mk (below_step (by repeat (first | (with_reducible first | exact HB.out | apply below_alloc | apply pw_below_drewN | apply below_drew1 | refine below_set ?_ GE451.out | refine below_set ?_ GE459.out) | exact HB.out)) hb)
        clear HO462
        clear BK451
        clear BK459
        clear HB
        have HO462 := n0_
        have HO465 := n1_
        have BK451 := n2_
        have BK459 := n3_
        have HB := n4_
        clear n0_ n1_ n2_ n3_ n4_
        (try clear hb)
        (try clear hb2)
        (try clear hk)
        (try clear hi)
        (try clear ho0)
        refine hK.out _ _ ⟨(blk_cell BK451.out 0).trans rfl, (blk_cell BK451.out 1).trans rfl, (blk_cell BK451.out 2).trans rfl, (blk_cell BK451.out 3).trans rfl, (blk_cell BK451.out 4).trans rfl, (blk_cell BK451.out 5).trans rfl, (blk_cell BK459.out 0).trans rfl, (blk_cell BK459.out 1).trans rfl, (blk_cell BK459.out 2).trans rfl, (blk_cell BK459.out 3).trans rfl, (blk_cell BK459.out 4).trans rfl, (blk_cell BK459.out 5).trans rfl⟩ (fun hHeld => ?_)
        clear hK K
        refine norm_ (a' := ?_) ?_ ?_
        rotate_left
        ·
         show Act.put _ (some 72) _ = _
         simp only [Act.put, List.setIfInBounds_toArray, List.set_cons_zero, List.set_cons_succ, i64_w, i32_w]
         rfl
        refine pure_ (i := 6) (N := some 66) (v := ?_) (a' := ?_) #[true, true, true, true, true, true, true, false, false, false, false] rfl rfl (any_of HT_.out (by kernel_rfl)) (fun _ _ _ h => h) (Or.inl ⟨by rfl, ?_⟩) ?_ ?_
        rotate_left
        ·
         intro w'
         go_simp
         with_reducible rfl
        rotate_left
        ·
         simp only [Act.put, List.setIfInBounds_toArray, List.set_cons_zero, List.set_cons_succ, i64_w, i32_w]
         rfl
        refine pure_ (i := 7) (N := some 73) (v := ?_) (a' := ?_) #[true, true, true, true, true, true, true, true, false, false, false] rfl rfl (any_of HT_.out (by kernel_rfl)) (fun _ _ _ h => h) (Or.inl ⟨by rfl, ?_⟩) ?_ ?_
        rotate_left
        ·
         intro w'
         go_simp
         with_reducible rfl
        rotate_left
        ·
         simp only [Act.put, List.setIfInBounds_toArray, List.set_cons_zero, List.set_cons_succ, i64_w, i32_w]
         rfl
        refine pure_ (i := 8) (N := some 74) (v := ?_) (a' := ?_) #[true, true, true, true, true, true, true, true, true, false, false] rfl rfl (any_of HT_.out (by kernel_rfl)) (fun _ _ _ h => h) (Or.inl ⟨by rfl, ?_⟩) ?_ ?_
        rotate_left
        ·
         intro w'
         go_simp
         with_reducible rfl
        rotate_left
        ·
         simp only [Act.put, List.setIfInBounds_toArray, List.set_cons_zero, List.set_cons_succ, i64_w, i32_w]
         rfl
        refine pure_ (i := 9) (N := some 13) (v := ?_) (a' := ?_) #[true, true, true, true, true, true, true, true, true, true, false] rfl rfl (any_of HT_.out (by kernel_rfl)) (fun _ _ _ h => h) (Or.inl ⟨by rfl, ?_⟩) ?_ ?_
        rotate_left
        ·
         intro w'
         go_simp
         with_reducible rfl
        rotate_left
        ·
         simp only [Act.put, List.setIfInBounds_toArray, List.set_cons_zero, List.set_cons_succ, i64_w, i32_w]
         rfl
        refine pure_ (i := 10) (N := some 1) (v := ?_) (a' := ?_) #[true, true, true, true, true, true, true, true, true, true, true] rfl rfl (any_of HT_.out (by kernel_rfl)) (fun _ _ _ h => h) (Or.inl ⟨by rfl, ?_⟩) ?_ ?_
        rotate_left
        ·
         intro w'
         go_simp
         with_reducible rfl
        rotate_left
        ·
         simp only [Act.put, List.setIfInBounds_toArray, List.set_cons_zero, List.set_cons_succ, i64_w, i32_w]
         rfl
        refine done_ (done_of HT_.out (by kernel_rfl)) ?_
        obtain ⟨Ao66, co66, eo66⟩ := Kd.R_slice HO465.out
        subst eo66
        try go_wp2_with (first | ((with_reducible refine gate_callee (f := 28) rfl ?_); refine goesL_ (some 76) rfl rfl Try.func28 (by kernel_rfl) rfl #[.slice Ao66 t463.length co66] rfl (by (try simp only [List.map_toArray, List.map_cons, List.map_nil]); first | done | rfl | (simp only [List.length_drop, List.length_take]; rfl)) ?_; (with_reducible refine (spec_l14List.calls kj5 _ _ t463 false _ ?side1 ?side2 A40.out).mono ?_); (case side1 => repeat (first | exact (Kd.R_reads' HO465.out).2.2 | (with_reducible refine Kd.C_alloc ?_ _) | (with_reducible refine Kd.C_drewN ?_ _) | (with_reducible refine Kd.C_drew ?_))); (case side2 => exact (Kd.R_reads' HO465.out).2.1); rintro e w67 ⟨rfl, hb⟩; refine ⟨_, rfl, ?_⟩; have n0_ := Aside0.mk (Kd.R_below (by (with_reducible repeat (first | apply Kd.R_alloc | apply Kd.R_drewN | apply Kd.R_drew)); exact HO462.out) hb); have n1_ := Aside0.mk (Kd.R_below (by (with_reducible repeat (first | apply Kd.R_alloc | apply Kd.R_drewN | apply Kd.R_drew)); exact HO465.out) hb); have n2_ := Aside0.mk (blk_below (g := gb451) (o := .cells #[.int .i64 ((rd_T37 l0 t443).f0), .int .i64 ((rd_T37 l0 t443).f1), .int .i64 ((rd_T37 l0 t443).f2), .int .i64 ((rd_T37 l0 t443).f3), .int .i64 ((rd_T37 l0 t443).f4), .int .i64 a3] 37 (0, 0)) (by (with_reducible repeat (first | refine blk_drewN ?_ _ | refine blk_drew ?_ | refine blk_alloc ?_ _)); exact BK451.out) hb); have n3_ := Aside0.mk (blk_below (g := gb459) (o := .cells #[.int .i64 ((rd_T37 l0 t443).f0), .int .i64 ((rd_T37 l0 t443).f1), .int .i64 a2, .int .i64 ((rd_T37 l0 t443).f3), .int .i64 a3, .int .i64 ((rd_T37 l0 t443).f5)] 37 (0, 0)) (by (with_reducible repeat (first | refine blk_drewN ?_ _ | refine blk_drew ?_ | refine blk_alloc ?_ _)); exact BK459.out) hb); have n4_ := Aside0.mk (below_step (by repeat (first | (with_reducible first | exact HB.out | apply below_alloc | apply pw_below_drewN | apply below_drew1 | refine below_set ?_ GE451.out | refine below_set ?_ GE459.out) | exact HB.out)) hb); clear HO462; clear HO465; clear BK451; clear BK459; clear HB; have HO462 := n0_; have HO465 := n1_; have BK451 := n2_; have BK459 := n3_; have HB := n4_; clear n0_ n1_ n2_ n3_ n4_; (try clear hb); (try clear hb2); (try clear hk); (try clear hi)) | ((with_reducible refine gate_dst (N := 78) rfl ?_); refine Kd.R_lit k37 _ 37 ?hg (N := 78) ?hd (xs := ([] : List (S37))) (inner := []) (ok := fun _ => True) (okp := fun _ => True) ?hr ?hp (fun _ hk => hk) trivial (Below.refl _ _) (Nat.le_refl _) (by simp) ?_; (case hd => rfl); (case hg => rfl); (case hr => first | (go_simp; done) | (go_simp; rfl)); (case hp => exact (Reps.none _ _)); intro v469 w68 ho69 hb hg_ hnew_; clear hg_ hnew_; (first | rw [← Ny468.out] at ho69 | (simp only [Int.reduceToNat] at ho69; rw [← Ny468.out] at ho69)); have n0_ := Aside0.mk (Kd.R_elder' (by (with_reducible repeat (first | apply Kd.R_alloc | apply Kd.R_drewN | apply Kd.R_drew)); exact HO462.out) (Kd.R_base ho69) hb); have n1_ := Aside0.mk (Kd.R_elder' (by (with_reducible repeat (first | apply Kd.R_alloc | apply Kd.R_drewN | apply Kd.R_drew)); exact HO465.out) (Kd.R_base ho69) hb); have n2_ := Aside0.mk (Kd.R_lower (Kd.R_newB (Kd.R_newB (Kd.R_new' (Kd.R_new' ho69 (Kd.R_lt (by (with_reducible repeat (first | apply Kd.R_alloc | apply Kd.R_drewN | apply Kd.R_drew)); exact HO462.out))) (Kd.R_lt (by (with_reducible repeat (first | apply Kd.R_alloc | apply Kd.R_drewN | apply Kd.R_drew)); exact HO465.out))) (g := gb451) (o := .cells #[.int .i64 ((rd_T37 l0 t443).f0), .int .i64 ((rd_T37 l0 t443).f1), .int .i64 ((rd_T37 l0 t443).f2), .int .i64 ((rd_T37 l0 t443).f3), .int .i64 ((rd_T37 l0 t443).f4), .int .i64 a3] 37 (0, 0)) (by (with_reducible repeat (first | refine blk_drewN ?_ _ | refine blk_drew ?_ | refine blk_alloc ?_ _)); exact BK451.out)) (g := gb459) (o := .cells #[.int .i64 ((rd_T37 l0 t443).f0), .int .i64 ((rd_T37 l0 t443).f1), .int .i64 a2, .int .i64 ((rd_T37 l0 t443).f3), .int .i64 a3, .int .i64 ((rd_T37 l0 t443).f5)] 37 (0, 0)) (by (with_reducible repeat (first | refine blk_drewN ?_ _ | refine blk_drew ?_ | refine blk_alloc ?_ _)); exact BK459.out)) (below_size (by repeat (first | (with_reducible first | exact HB.out | apply below_alloc | apply pw_below_drewN | apply below_drew1 | refine below_set ?_ GE451.out | refine below_set ?_ GE459.out) | exact HB.out)))); have n3_ := Aside0.mk (blk_below (g := gb451) (o := .cells #[.int .i64 ((rd_T37 l0 t443).f0), .int .i64 ((rd_T37 l0 t443).f1), .int .i64 ((rd_T37 l0 t443).f2), .int .i64 ((rd_T37 l0 t443).f3), .int .i64 ((rd_T37 l0 t443).f4), .int .i64 a3] 37 (0, 0)) (by (with_reducible repeat (first | refine blk_drewN ?_ _ | refine blk_drew ?_ | refine blk_alloc ?_ _)); exact BK451.out) hb); have n4_ := Aside0.mk (blk_below (g := gb459) (o := .cells #[.int .i64 ((rd_T37 l0 t443).f0), .int .i64 ((rd_T37 l0 t443).f1), .int .i64 a2, .int .i64 ((rd_T37 l0 t443).f3), .int .i64 a3, .int .i64 ((rd_T37 l0 t443).f5)] 37 (0, 0)) (by (with_reducible repeat (first | refine blk_drewN ?_ _ | refine blk_drew ?_ | refine blk_alloc ?_ _)); exact BK459.out) hb); have n5_ := Aside0.mk (below_step (by repeat (first | (with_reducible first | exact HB.out | apply below_alloc | apply pw_below_drewN | apply below_drew1 | refine below_set ?_ GE451.out | refine below_set ?_ GE459.out) | exact HB.out)) hb); clear HO462; clear HO465; clear BK451; clear BK459; clear HB; have HO462 := n0_; have HO465 := n1_; have HO470 := n2_; have BK451 := n3_; have BK459 := n4_; have HB := n5_; clear n0_ n1_ n2_ n3_ n4_ n5_; clear hb ho69))
        go_ret3
        exact ⟨_, by first | rfl | (simp [errW_none, errW_some] <;> rfl) | (simp [*, errW_none, errW_some] <;> rfl), by (with_reducible repeat (first | apply Kd.R_alloc | apply Kd.R_drewN | apply Kd.R_drew)); exact Kd.R_mono HO470.out (fun _ hk => trivial), by repeat (first | (with_reducible first | exact HB.out | apply below_alloc | apply pw_below_drewN | apply below_drew1 | refine below_set ?_ GE451.out | refine below_set ?_ GE459.out) | exact HB.out)⟩
     ·
      rw [if_neg c21] at H
      exact absurd H (by simp)
    ·
     rw [if_neg c20] at H
     exact absurd H (by simp)

end Go.Proofs.Ytfemneoahkglmaa.Q
