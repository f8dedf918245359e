-- Printed by a program of this session (wip/tools/seatprint.py) that runs over the kit's print.
import Derived.Test.YtfemneoahkglmaaQ0
import Derived.Test.YtfemneoahkglmaaQf45
import Derived.Test.YtfemneoahkglmaaQf9
import Derived.Test.YtfemneoahkglmaaQf42
import Derived.Test.YtfemneoahkglmaaQf46
namespace Go.Proofs.Ytfemneoahkglmaa.Q
open Go.RowKit Go.Proofs.YtfemneoahkglmaaW.PrintWords Go.Proofs.YtfemneoahkglmaaW.PrintLast Go.Proofs.YtfemneoahkglmaaW.PrintMore
attribute [local go_sem] max2_int min2_int max_two min_two max_three min_three max_four min_four   -- for this text's walks alone
set_option linter.unusedVariables false
set_option linter.unusedSimpArgs false

/-! ### impl_ChangeLevel: function 12 -/
def impl_ChangeLevel.j0 : Nat → List (S37) → Int → Int → Int → Int → Bool → Option ((List (S37)) × Int × Bool)
 | 0, _, _, _, _, _, _ => none
 | k + 1, x0, x1, x2, x3, x11, x41 => if x41 = true then (some (([] : List (S37)), 0, false)) else ((impl_Warning_25.f x0).bind fun t396 => (if 0 ≤ x11 then (if x11 < (x0.length : Int) then (if x3 ≤ ((rd_T37 x0 x11).f4) then (if x11 < (t396.length : Int) then (some ((t396.set (x11 : Int).toNat (⟨(rd_T37 t396 x11).f0, (rd_T37 t396 x11).f1, x2, (rd_T37 t396 x11).f3, (rd_T37 t396 x11).f4, (rd_T37 t396 x11).f5⟩ : S37)), x1, true)) else (none)) else (if x11 < (t396.length : Int) then ((impl_issued.f k (t396.set (x11 : Int).toNat (⟨(rd_T37 t396 x11).f0, (rd_T37 t396 x11).f1, (rd_T37 t396 x11).f2, (rd_T37 t396 x11).f3, (rd_T37 t396 x11).f4, x3⟩ : S37)) ((rd_T37 x0 x11).f0) ((rd_T37 x0 x11).f1) x2 ((rd_T37 x0 x11).f3) x3 ((rd_T37 x0 x11).f5)).bind fun bt404 => (some (bt404.1, bt404.2.1, bt404.2.2))) else (none))) else (none)) else (none)))
def impl_ChangeLevel.f (k : Nat) (l0 : List (S37)) (a1 : Int) (a2 : Int) (a3 : Int) : Option ((List (S37)) × Int × Bool) := (impl_warningAt.f k l0 a1).bind fun t392 => (if t392 < 0 then (impl_ChangeLevel.j0 k l0 a1 a2 a3 t392 true) else (if 0 ≤ t392 then (if t392 < (l0.length : Int) then (if a2 = ((rd_T37 l0 t392).f2) then (impl_ChangeLevel.j0 k l0 a1 a2 a3 t392 true) else ((impl_within.f a2 1 3).bind fun t394 => (if t394 = true then (impl_ChangeLevel.j0 k l0 a1 a2 a3 t392 (decide (a3 ≥ ((rd_T37 l0 t392).f5)))) else (impl_ChangeLevel.j0 k l0 a1 a2 a3 t392 true)))) else (none)) else (none)))
theorem impl_ChangeLevel.mono_l : ∀ k, (∀ y0 y1 y2 y3 y4 y5, LeO (impl_ChangeLevel.j0 k y0 y1 y2 y3 y4 y5) (impl_ChangeLevel.j0 (k + 1) y0 y1 y2 y3 y4 y5))
 | 0 => fun _ _ _ _ _ _ r h => by simp [impl_ChangeLevel.j0] at h
 | k + 1 => by
  have ih0 := impl_ChangeLevel.mono_l k
  ·
   intro y0 y1 y2 y3 y4 y5
   unfold impl_ChangeLevel.j0
   repeat' first
   | (with_reducible exact ih0 _ _ _ _ _ _)
   | (with_reducible exact impl_issued.mono _ _ _ _ _ _ _ _)
   | (with_reducible exact impl_warningAt.mono _ _ _)
   | (with_reducible exact LeO.refl _)
   | (with_reducible exact LeO.none _)
   | (with_reducible refine LeO.ite ?_ ?_)
   | (with_reducible refine LeO.bind ?_ (fun _ => ?_))
   | exact ih0 _ _ _ _ _ _
   | exact impl_issued.mono _ _ _ _ _ _ _ _
   | exact impl_warningAt.mono _ _ _
   | exact LeO.none _
   | refine LeO.ite ?_ ?_
   | refine LeO.bind ?_ (fun _ => ?_)
theorem impl_ChangeLevel.mono : ∀ a0 a1 a2 a3 k, LeO (impl_ChangeLevel.f k a0 a1 a2 a3) (impl_ChangeLevel.f (k + 1) a0 a1 a2 a3) := by
 intro a0 a1 a2 a3 k
 have ih0 := impl_ChangeLevel.mono_l k
 unfold impl_ChangeLevel.f
 repeat' first
   | (with_reducible exact ih0 _ _ _ _ _ _)
   | (with_reducible exact impl_issued.mono _ _ _ _ _ _ _ _)
   | (with_reducible exact impl_warningAt.mono _ _ _)
   | (with_reducible exact LeO.refl _)
   | (with_reducible exact LeO.none _)
   | (with_reducible refine LeO.ite ?_ ?_)
   | (with_reducible refine LeO.bind ?_ (fun _ => ?_))
   | exact ih0 _ _ _ _ _ _
   | exact impl_issued.mono _ _ _ _ _ _ _ _
   | exact impl_warningAt.mono _ _ _
   | exact LeO.none _
   | refine LeO.ite ?_ ?_
   | refine LeO.bind ?_ (fun _ => ?_)
set_option maxHeartbeats 8000000 in
set_option maxRecDepth 100000 in
theorem impl_ChangeLevel.calls (k : Nat) (A0 : Option Addr) (c0 : Nat) (l0 : List (S37)) (a1 : Int) (a2 : Int) (a3 : Int) (r1 : List (S37)) (r2 : Int) (r3 : Bool) (w : World) (hr0 : Kd.C k37 w A0 l0.length l0) (hc0 : l0.length ≤ c0) (h : impl_ChangeLevel.f k l0 a1 a2 a3 = some (r1, r2, r3)) :
  Calls Try.prog 12 #[.slice A0 l0.length c0, .int .i64 a1, .int .i64 a2, .int .i64 a3] w fun e w' => ∃ v0_ : Value, e = .returned (.tuple #[v0_, .int .i64 r2, .bool r3]) ∧ Kd.R k37 37 w' w.heap.size (fun _ => True) v0_ r1 ∧ Below w.heap.size w w' := by
 have hu37 := Try.underlying37
 have HR0 := Aside0.mk hr0
 have HC0 := Aside0.mk hc0
 clear hr0 hc0
 have HB := Aside0.mk (Below.refl w.heap.size w)
 have H : ((impl_warningAt.f k l0 a1).bind fun t392 => (if t392 < 0 then (impl_ChangeLevel.j0 k l0 a1 a2 a3 t392 true) else (if 0 ≤ t392 then (if t392 < (l0.length : Int) then (if a2 = ((rd_T37 l0 t392).f2) then (impl_ChangeLevel.j0 k l0 a1 a2 a3 t392 true) else ((impl_within.f a2 1 3).bind fun t394 => (if t394 = true then (impl_ChangeLevel.j0 k l0 a1 a2 a3 t392 (decide (a3 ≥ ((rd_T37 l0 t392).f5)))) else (impl_ChangeLevel.j0 k l0 a1 a2 a3 t392 true)))) else (none)) else (none)))) = some (r1, r2, r3) := h
 clear h
 replace H := Option.bind_eq_some_iff.mp H
 obtain ⟨t392, A50, H⟩ := H
 replace H : (if t392 < 0 then (impl_ChangeLevel.j0 k l0 a1 a2 a3 t392 true) else (if 0 ≤ t392 then (if t392 < (l0.length : Int) then (if a2 = ((rd_T37 l0 t392).f2) then (impl_ChangeLevel.j0 k l0 a1 a2 a3 t392 true) else ((impl_within.f a2 1 3).bind fun t394 => (if t394 = true then (impl_ChangeLevel.j0 k l0 a1 a2 a3 t392 (decide (a3 ≥ ((rd_T37 l0 t392).f5)))) else (impl_ChangeLevel.j0 k l0 a1 a2 a3 t392 true)))) else (none)) else (none))) = some (r1, r2, r3) := H
 have A5 := Aside0.mk A50
 clear A50
 have HC6 := Aside0.mk H
 clear H
 go_enter Try.func12, Try.ntmps12
 go_upto_region 2 with (first | ((with_reducible refine gate_callee (f := 44) rfl ?_); refine goesL_ (some 16) rfl rfl Try.func44 (by kernel_rfl) rfl #[.slice A0 l0.length c0, .int .i64 a1] rfl (by (try simp only [List.map_toArray, List.map_cons, List.map_nil]); first | done | rfl | (simp only [List.length_drop, List.length_take]; rfl)) ?_; (with_reducible refine (impl_warningAt.calls k _ _ l0 a1 t392 _ ?side1 ?side2 A5.out).mono ?_); (case side1 => repeat (first | exact HR0.out | (with_reducible refine Kd.C_alloc ?_ _) | (with_reducible refine Kd.C_drewN ?_ _) | (with_reducible refine Kd.C_drew ?_))); (case side2 => exact HC0.out); rintro e w7 ⟨rfl, hb⟩; refine ⟨_, rfl, ?_⟩; have n0_ := Aside0.mk (below_step (by repeat (first | (with_reducible first | exact HB.out | apply below_alloc | apply pw_below_drewN | apply below_drew1) | exact HB.out)) hb); clear HB; have HB := n0_; clear n0_; (try clear hb); (try clear hb2); (try clear hk); (try clear hi)))
 (try simp only [Act.put, List.setIfInBounds_toArray, List.set_cons_zero, List.set_cons_succ])
 go_cut [41] (fun v41 wc => ∃ (kq : Nat) (x41_5 : Bool), v41 = .bool x41_5 ∧ Aside0 (impl_ChangeLevel.j0 kq l0 a1 a2 a3 t392 x41_5 = some (r1, r2, r3)) ∧ Aside0 (kq ≤ k) ∧ Aside0 (Below w.heap.size w wc))
 case first =>
  have H := HC6.out
  clear HC6
  by_cases c8 : t392 < 0
  ·
   rw [if_pos c8] at H
   have c8b0 : decide (t392 < 0) = true := decide_eq_true c8
   clear c8
   (first | rw [c8b0] | (simp only [i64_w, i32_w]; rw [c8b0]) | skip)
   have H' := Aside0.mk H
   clear H
   go_wp2
   go_meet
   case rel => exact ⟨_, (true), (by first | rfl | (simp; done) | (simp [*]; done)), H', ⟨by first | omega | exact Nat.le_refl _⟩, ⟨by repeat (first | (with_reducible first | exact HB.out | apply below_alloc | apply pw_below_drewN | apply below_drew1) | exact HB.out)⟩⟩
  ·
   rw [if_neg c8] at H
   have c8b0 : decide (t392 < 0) = false := decide_eq_false c8
   clear c8
   (first | rw [c8b0] | (simp only [i64_w, i32_w]; rw [c8b0]) | skip)
   by_cases c9 : 0 ≤ t392
   ·
    rw [if_pos c9] at H
    have c9b0 : decide (0 ≤ t392) = true := decide_eq_true c9
    clear c9
    by_cases c10 : t392 < (l0.length : Int)
    ·
     rw [if_pos c10] at H
     have c10b0 : decide (t392 < (l0.length : Int)) = true := decide_eq_true c10
     clear c10
     by_cases c11 : a2 = ((rd_T37 l0 t392).f2)
     ·
      rw [if_pos c11] at H
      have c11b0 : (a2 == ((rd_T37 l0 t392).f2)) = true := beq_iff_eq.mpr c11
      have c11b1 : (a2 != ((rd_T37 l0 t392).f2)) = false := bne_eq_false_iff_eq.mpr c11
      clear c11
      have H' := Aside0.mk H
      clear H
      have p393 : 0 ≤ (t392 : Int) := of_decide_eq_true (by first | (with_reducible assumption) | assumption)
      have q393 : t392 < (l0.length : Int) := of_decide_eq_true (by first | (with_reducible assumption) | assumption)
      obtain ⟨ad393, e393, hx393_0, hx393_1, hx393_2, hx393_3, hx393_4, hx393_5⟩ := at_T37 HR0.out t392 p393 q393
      cases e393
      replace hx393_0 := (HB.out.cell (World.block_lt_of_cell? w _ hx393_0)).trans hx393_0
      replace hx393_1 := (HB.out.cell (World.block_lt_of_cell? w _ hx393_1)).trans hx393_1
      replace hx393_2 := (HB.out.cell (World.block_lt_of_cell? w _ hx393_2)).trans hx393_2
      replace hx393_3 := (HB.out.cell (World.block_lt_of_cell? w _ hx393_3)).trans hx393_3
      replace hx393_4 := (HB.out.cell (World.block_lt_of_cell? w _ hx393_4)).trans hx393_4
      replace hx393_5 := (HB.out.cell (World.block_lt_of_cell? w _ hx393_5)).trans hx393_5
      replace p393 := eq_true p393
      replace q393 := eq_true q393
      go_wp2
      go_meet
      case rel => exact ⟨_, (true), (by first | rfl | (simp; done) | (simp [*]; done)), H', ⟨by first | omega | exact Nat.le_refl _⟩, ⟨by repeat (first | (with_reducible first | exact HB.out | apply below_alloc | apply pw_below_drewN | apply below_drew1) | exact HB.out)⟩⟩
     ·
      rw [if_neg c11] at H
      have c11b0 : (a2 == ((rd_T37 l0 t392).f2)) = false := beq_eq_false_iff_ne.mpr c11
      have c11b1 : (a2 != ((rd_T37 l0 t392).f2)) = true := bne_iff_ne.mpr c11
      replace H := Option.bind_eq_some_iff.mp H
      obtain ⟨t394, A120, H⟩ := H
      replace H : (if t394 = true then (impl_ChangeLevel.j0 k l0 a1 a2 a3 t392 (decide (a3 ≥ ((rd_T37 l0 t392).f5)))) else (impl_ChangeLevel.j0 k l0 a1 a2 a3 t392 true)) = some (r1, r2, r3) := H
      have A12 := Aside0.mk A120
      clear A120
      by_cases c13 : t394 = true
      ·
       subst c13
       have H1 : (impl_ChangeLevel.j0 k l0 a1 a2 a3 t392 (decide (a3 ≥ ((rd_T37 l0 t392).f5)))) = some (r1, r2, r3) := by rw [if_pos rfl] at H; exact H
       clear H
       have H := H1
       clear H1
       have H' := Aside0.mk H
       clear H
       have p393 : 0 ≤ (t392 : Int) := of_decide_eq_true (by first | (with_reducible assumption) | assumption)
       have q393 : t392 < (l0.length : Int) := of_decide_eq_true (by first | (with_reducible assumption) | assumption)
       obtain ⟨ad393, e393, hx393_0, hx393_1, hx393_2, hx393_3, hx393_4, hx393_5⟩ := at_T37 HR0.out t392 p393 q393
       cases e393
       replace hx393_0 := (HB.out.cell (World.block_lt_of_cell? w _ hx393_0)).trans hx393_0
       replace hx393_1 := (HB.out.cell (World.block_lt_of_cell? w _ hx393_1)).trans hx393_1
       replace hx393_2 := (HB.out.cell (World.block_lt_of_cell? w _ hx393_2)).trans hx393_2
       replace hx393_3 := (HB.out.cell (World.block_lt_of_cell? w _ hx393_3)).trans hx393_3
       replace hx393_4 := (HB.out.cell (World.block_lt_of_cell? w _ hx393_4)).trans hx393_4
       replace hx393_5 := (HB.out.cell (World.block_lt_of_cell? w _ hx393_5)).trans hx393_5
       replace p393 := eq_true p393
       replace q393 := eq_true q393
       go_wp2_with (first | (go_at_call 45; (with_reducible refine (impl_within.calls a2 1 3 true _ A12.out).mono ?_); rintro e w' ⟨rfl, ⟨nd, rfl⟩⟩; have p395 : 0 ≤ (t392 : Int) := of_decide_eq_true (by first | (with_reducible assumption) | assumption); have q395 : t392 < (l0.length : Int) := of_decide_eq_true (by first | (with_reducible assumption) | assumption); obtain ⟨ad395, e395, hx395_0, hx395_1, hx395_2, hx395_3, hx395_4, hx395_5⟩ := at_T37 HR0.out t392 p395 q395; obtain rfl : ad393 = ad395 := (by injection e395); replace hx395_0 := (HB.out.cell (World.block_lt_of_cell? w _ hx395_0)).trans hx395_0; replace hx395_1 := (HB.out.cell (World.block_lt_of_cell? w _ hx395_1)).trans hx395_1; replace hx395_2 := (HB.out.cell (World.block_lt_of_cell? w _ hx395_2)).trans hx395_2; replace hx395_3 := (HB.out.cell (World.block_lt_of_cell? w _ hx395_3)).trans hx395_3; replace hx395_4 := (HB.out.cell (World.block_lt_of_cell? w _ hx395_4)).trans hx395_4; replace hx395_5 := (HB.out.cell (World.block_lt_of_cell? w _ hx395_5)).trans hx395_5; replace p395 := eq_true p395; replace q395 := eq_true q395))
       go_meet
       case rel => exact ⟨_, (decide (a3 ≥ ((rd_T37 l0 t392).f5))), (by first | rfl | (simp; done) | (simp [*]; done)), H', ⟨by first | omega | exact Nat.le_refl _⟩, ⟨by repeat (first | (with_reducible first | exact HB.out | apply below_alloc | apply pw_below_drewN | apply below_drew1) | exact HB.out)⟩⟩
      ·
       replace c13 := Bool.eq_false_iff.mpr c13
       subst c13
       have H1 : (impl_ChangeLevel.j0 k l0 a1 a2 a3 t392 true) = some (r1, r2, r3) := by rw [if_neg (show ¬ (false = true) by decide)] at H; exact H
       clear H
       have H := H1
       clear H1
       have H' := Aside0.mk H
       clear H
       have p393 : 0 ≤ (t392 : Int) := of_decide_eq_true (by first | (with_reducible assumption) | assumption)
       have q393 : t392 < (l0.length : Int) := of_decide_eq_true (by first | (with_reducible assumption) | assumption)
       obtain ⟨ad393, e393, hx393_0, hx393_1, hx393_2, hx393_3, hx393_4, hx393_5⟩ := at_T37 HR0.out t392 p393 q393
       cases e393
       replace hx393_0 := (HB.out.cell (World.block_lt_of_cell? w _ hx393_0)).trans hx393_0
       replace hx393_1 := (HB.out.cell (World.block_lt_of_cell? w _ hx393_1)).trans hx393_1
       replace hx393_2 := (HB.out.cell (World.block_lt_of_cell? w _ hx393_2)).trans hx393_2
       replace hx393_3 := (HB.out.cell (World.block_lt_of_cell? w _ hx393_3)).trans hx393_3
       replace hx393_4 := (HB.out.cell (World.block_lt_of_cell? w _ hx393_4)).trans hx393_4
       replace hx393_5 := (HB.out.cell (World.block_lt_of_cell? w _ hx393_5)).trans hx393_5
       replace p393 := eq_true p393
       replace q393 := eq_true q393
       go_wp2_with (first | (go_at_call 45; (with_reducible refine (impl_within.calls a2 1 3 false _ A12.out).mono ?_); rintro e w' ⟨rfl, ⟨nd, rfl⟩⟩))
       go_meet
       case rel => exact ⟨_, (true), (by first | rfl | (simp; done) | (simp [*]; done)), H', ⟨by first | omega | exact Nat.le_refl _⟩, ⟨by repeat (first | (with_reducible first | exact HB.out | apply below_alloc | apply pw_below_drewN | apply below_drew1) | exact HB.out)⟩⟩
    ·
     rw [if_neg c10] at H
     exact absurd H (by simp)
   ·
    rw [if_neg c9] at H
    exact absurd H (by simp)
 case rest =>
  clear HC6
  try clear c1
  try clear p2
  try clear p3
  try clear q3
  try clear hx3
  try clear c4
  try clear c8
  try clear c8b0
  try clear c9
  try clear c9b0
  try clear c10
  try clear c10b0
  try clear c11
  try clear c11b0
  try clear c11b1
  try clear c12
  try clear c13
  try clear hx393_0
  try clear hx393_1
  try clear hx393_2
  try clear hx393_3
  try clear hx393_4
  try clear hx393_5
  try clear hx395_0
  try clear hx395_1
  try clear hx395_2
  try clear hx395_3
  try clear hx395_4
  try clear hx395_5
  try clear p393
  try clear p395
  try clear q393
  try clear q395
  obtain ⟨kq, x41_5, rfl, HA, HJ5, HB⟩ := hcut
  cases kq with
  | zero => exact absurd HA.out (by simp [impl_ChangeLevel.j0])
  | succ kj5 =>
   have H := HA.out
   clear HA
   simp only [impl_ChangeLevel.j0] at H
   by_cases c14 : x41_5 = true
   ·
    subst c14
    have H1 : (some (([] : List (S37)), 0, false)) = some (r1, r2, r3) := by rw [if_pos rfl] at H; exact H
    clear H
    have H := H1
    clear H1
    simp only [Option.some.injEq, Prod.mk.injEq] at H
    obtain ⟨rfl, rfl, rfl⟩ := H
    go_wp2
    go_ret3
    exact ⟨_, by first | rfl | (simp [errW_none, errW_some] <;> rfl) | (simp [*, errW_none, errW_some] <;> rfl), by first | exact Kd.R_nil _ _ _ _ _ | exact Kd.N_nil _ _ _ _ _ | exact Kd.V_nil _ _ _ _ _ | exact Kd.Q_nil _ _ _ _ _ | exact Kd.S_nil _ _ _ _ _, by repeat (first | (with_reducible first | exact HB.out | apply below_alloc | apply pw_below_drewN | apply below_drew1) | exact HB.out)⟩
   ·
    replace c14 := Bool.eq_false_iff.mpr c14
    subst c14
    have H1 : ((impl_Warning_25.f l0).bind fun t396 => (if 0 ≤ t392 then (if t392 < (l0.length : Int) then (if a3 ≤ ((rd_T37 l0 t392).f4) then (if t392 < (t396.length : Int) then (some ((t396.set (t392 : Int).toNat (⟨(rd_T37 t396 t392).f0, (rd_T37 t396 t392).f1, a2, (rd_T37 t396 t392).f3, (rd_T37 t396 t392).f4, (rd_T37 t396 t392).f5⟩ : S37)), a1, true)) else (none)) else (if t392 < (t396.length : Int) then ((impl_issued.f kj5 (t396.set (t392 : Int).toNat (⟨(rd_T37 t396 t392).f0, (rd_T37 t396 t392).f1, (rd_T37 t396 t392).f2, (rd_T37 t396 t392).f3, (rd_T37 t396 t392).f4, a3⟩ : S37)) ((rd_T37 l0 t392).f0) ((rd_T37 l0 t392).f1) a2 ((rd_T37 l0 t392).f3) a3 ((rd_T37 l0 t392).f5)).bind fun bt404 => (some (bt404.1, bt404.2.1, bt404.2.2))) else (none))) else (none)) else (none))) = some (r1, r2, r3) := by rw [if_neg (show ¬ (false = true) by decide)] at H; exact H
    clear H
    have H := H1
    clear H1
    replace H := Option.bind_eq_some_iff.mp H
    obtain ⟨t396, A150, H⟩ := H
    replace H : (if 0 ≤ t392 then (if t392 < (l0.length : Int) then (if a3 ≤ ((rd_T37 l0 t392).f4) then (if t392 < (t396.length : Int) then (some ((t396.set (t392 : Int).toNat (⟨(rd_T37 t396 t392).f0, (rd_T37 t396 t392).f1, a2, (rd_T37 t396 t392).f3, (rd_T37 t396 t392).f4, (rd_T37 t396 t392).f5⟩ : S37)), a1, true)) else (none)) else (if t392 < (t396.length : Int) then ((impl_issued.f kj5 (t396.set (t392 : Int).toNat (⟨(rd_T37 t396 t392).f0, (rd_T37 t396 t392).f1, (rd_T37 t396 t392).f2, (rd_T37 t396 t392).f3, (rd_T37 t396 t392).f4, a3⟩ : S37)) ((rd_T37 l0 t392).f0) ((rd_T37 l0 t392).f1) a2 ((rd_T37 l0 t392).f3) a3 ((rd_T37 l0 t392).f5)).bind fun bt404 => (some (bt404.1, bt404.2.1, bt404.2.2))) else (none))) else (none)) else (none)) = some (r1, r2, r3) := H
    have A15 := Aside0.mk A150
    clear A150
    by_cases c16 : 0 ≤ t392
    ·
     rw [if_pos c16] at H
     have c16b0 : decide (0 ≤ t392) = true := decide_eq_true c16
     clear c16
     by_cases c17 : t392 < (l0.length : Int)
     ·
      rw [if_pos c17] at H
      have c17b0 : decide (t392 < (l0.length : Int)) = true := decide_eq_true c17
      clear c17
      by_cases c18 : a3 ≤ ((rd_T37 l0 t392).f4)
      ·
       rw [if_pos c18] at H
       have c18b0 : decide (a3 ≤ ((rd_T37 l0 t392).f4)) = true := decide_eq_true c18
       clear c18
       by_cases c19 : t392 < (t396.length : Int)
       ·
        rw [if_pos c19] at H
        have c19b0 : decide (t392 < (t396.length : Int)) = true := decide_eq_true c19
        clear c19
        obtain ⟨y400, hy400⟩ : ∃ y_ : List (S37), y_ = (t396.set (t392 : Int).toNat (⟨(rd_T37 t396 t392).f0, (rd_T37 t396 t392).f1, a2, (rd_T37 t396 t392).f3, (rd_T37 t396 t392).f4, (rd_T37 t396 t392).f5⟩ : S37)) := ⟨_, rfl⟩
        replace H : (some (y400, a1, true)) = some (r1, r2, r3) := by first | (rw [hy400]; with_reducible exact H) | (have H2_ := (Option.bind_some _ _).symm.trans H; rw [hy400]; with_reducible exact H2_) | (have H2_ := (Option.bind_some _ _).symm.trans H; with_reducible exact H2_) | with_reducible exact H | (rw [hy400]; exact H) | exact H
        have Ny400 := Aside0.mk hy400
        clear hy400
        simp only [Option.some.injEq, Prod.mk.injEq] at H
        obtain ⟨rfl, rfl, rfl⟩ := H
        go_wp2_with (first | ((with_reducible refine gate_callee (f := 25) rfl ?_); refine goesL_ (some 43) rfl rfl Try.func25 (by kernel_rfl) rfl #[.slice A0 l0.length c0] rfl (by (try simp only [List.map_toArray, List.map_cons, List.map_nil]); first | done | rfl | (simp only [List.length_drop, List.length_take]; rfl)) ?_; (with_reducible refine (impl_Warning_25.calls _ _ l0 t396 _ ?side1 ?side2 A15.out).mono ?_); (case side1 => repeat (first | exact (Kd.C_below HR0.out HB.out) | (with_reducible refine Kd.C_alloc ?_ _) | (with_reducible refine Kd.C_drewN ?_ _) | (with_reducible refine Kd.C_drew ?_))); (case side2 => exact HC0.out); rintro e w21 ⟨v397, rfl, ho0, hb⟩; refine ⟨_, rfl, ?_⟩; have n0_ := Aside0.mk (Kd.R_lower ho0 (below_size (by repeat (first | (with_reducible first | exact HB.out | apply below_alloc | apply pw_below_drewN | apply below_drew1) | exact HB.out)))); have n1_ := Aside0.mk (below_step (by repeat (first | (with_reducible first | exact HB.out | apply below_alloc | apply pw_below_drewN | apply below_drew1) | exact HB.out)) hb); clear HB; have HO398 := n0_; have HB := n1_; clear n0_ n1_; (try clear hb); (try clear hb2); (try clear hk); (try clear hi); (try clear ho0); have p399 : 0 ≤ (t392 : Int) := of_decide_eq_true (by first | (with_reducible assumption) | assumption); have q399 : t392 < (l0.length : Int) := of_decide_eq_true (by first | (with_reducible assumption) | assumption); obtain ⟨ad399, e399, hx399_0, hx399_1, hx399_2, hx399_3, hx399_4, hx399_5⟩ := at_T37 HR0.out t392 p399 q399; cases e399; replace hx399_0 := (HB.out.cell (World.block_lt_of_cell? w _ hx399_0)).trans hx399_0; replace hx399_1 := (HB.out.cell (World.block_lt_of_cell? w _ hx399_1)).trans hx399_1; replace hx399_2 := (HB.out.cell (World.block_lt_of_cell? w _ hx399_2)).trans hx399_2; replace hx399_3 := (HB.out.cell (World.block_lt_of_cell? w _ hx399_3)).trans hx399_3; replace hx399_4 := (HB.out.cell (World.block_lt_of_cell? w _ hx399_4)).trans hx399_4; replace hx399_5 := (HB.out.cell (World.block_lt_of_cell? w _ hx399_5)).trans hx399_5; replace p399 := eq_true p399; replace q399 := eq_true q399; have p20 : 0 ≤ (t392 : Int) := of_decide_eq_true (by first | (with_reducible assumption) | assumption); have q20 : (t392 : Int) < ((t396.length : Int) : Int) := of_decide_eq_true (by first | (with_reducible assumption) | assumption); obtain ⟨go20, co20, eo20, gb20, gl20, cl20, HG20⟩ := Kd.R_form HO398.out (by omega); (first | cases eo20 | (injection eo20 with ea_ en_ ec_; (first | subst ea_ | (injection ea_ with ea_; subst ea_)); subst ec_; clear en_)); have GB20 := Aside0.mk gb20; have GG20 := Aside0.mk HG20; clear gb20 gl20 HG20; obtain ⟨ce20, hcl20, hM20, hcc20, hfr20⟩ := Kd.R_elem HO398.out z37 (t392 : Int) p20 q20; obtain rfl := k37_openM hM20; have hx20_0 : w21.cell? ⟨go20, (t392 : Int).toNat * 6, none⟩ = some (.int .i64 ((rd_T37 t396 t392).f0)) := hcc20 0 _ rfl; have hx20_1 : w21.cell? ⟨go20, (t392 : Int).toNat * 6 + 1, none⟩ = some (.int .i64 ((rd_T37 t396 t392).f1)) := hcc20 1 _ rfl; have hx20_2 : w21.cell? ⟨go20, (t392 : Int).toNat * 6 + 2, none⟩ = some (.int .i64 ((rd_T37 t396 t392).f2)) := hcc20 2 _ rfl; have hx20_3 : w21.cell? ⟨go20, (t392 : Int).toNat * 6 + 3, none⟩ = some (.int .i64 ((rd_T37 t396 t392).f3)) := hcc20 3 _ rfl; have hx20_4 : w21.cell? ⟨go20, (t392 : Int).toNat * 6 + 4, none⟩ = some (.int .i64 ((rd_T37 t396 t392).f4)) := hcc20 4 _ rfl; have hx20_5 : w21.cell? ⟨go20, (t392 : Int).toNat * 6 + 5, none⟩ = some (.int .i64 ((rd_T37 t396 t392).f5)) := hcc20 5 _ rfl; have hf20_0 : w21.frozen? ⟨go20, (t392 : Int).toNat * 6, none⟩ = false := hfr20 0; have hf20_1 : w21.frozen? ⟨go20, (t392 : Int).toNat * 6 + 1, none⟩ = false := hfr20 1; have hf20_2 : w21.frozen? ⟨go20, (t392 : Int).toNat * 6 + 2, none⟩ = false := hfr20 2; have hf20_3 : w21.frozen? ⟨go20, (t392 : Int).toNat * 6 + 3, none⟩ = false := hfr20 3; have hf20_4 : w21.frozen? ⟨go20, (t392 : Int).toNat * 6 + 4, none⟩ = false := hfr20 4; have hf20_5 : w21.frozen? ⟨go20, (t392 : Int).toNat * 6 + 5, none⟩ = false := hfr20 5; clear hcl20 hcc20 hfr20 hM20; replace p20 := eq_true p20; replace q20 := eq_true q20; have HX22 := Aside0.mk (show Kd.R k37 37 w21 w.heap.size (fun _ => True) (.slice (some ⟨go20, 0, none⟩) t396.length co20) t396 from (by (with_reducible repeat (first | apply Kd.R_alloc | apply Kd.R_drewN | apply Kd.R_drew)); exact HO398.out)); obtain ⟨ce22, hcl22, hM22, hcc22, hfr22⟩ := Kd.R_elem HX22.out z37 (t392 : Int) (of_decide_eq_true (by first | (with_reducible assumption) | assumption)) (by have h_ : (t392 : Int) < ((t396.length : Int) : Int) := of_decide_eq_true (by first | (with_reducible assumption) | assumption); first | exact h_ | (have e_ := (Kd.R_reads' HO398.out).1; omega) | simpa using h_); obtain rfl := k37_openM hM22; have HP22 := Kd.R_seg HX22.out (t392 : Int) (of_decide_eq_true (by first | (with_reducible assumption) | assumption)) (by have h_ : (t392 : Int) < ((t396.length : Int) : Int) := of_decide_eq_true (by first | (with_reducible assumption) | assumption); first | exact h_ | (have e_ := (Kd.R_reads' HO398.out).1; omega) | simpa using h_) (seg := [.int .i64 a2]) (j := 2) hcl22 hcc22 (show 3 ≤ 6 from by decide) (x' := (⟨(rd_T37 t396 t392).f0, (rd_T37 t396 t392).f1, a2, (rd_T37 t396 t392).f3, (rd_T37 t396 t392).f4, (rd_T37 t396 t392).f5⟩ : S37)) (k37_mkM _ _ _ (⟨(rd_T37 t396 t392).f0, (rd_T37 t396 t392).f1, a2, (rd_T37 t396 t392).f3, (rd_T37 t396 t392).f4, (rd_T37 t396 t392).f5⟩ : S37) ) (fun _ hk => hk); have hx22_2 := hcc22 2 _ rfl; (try simp only [show (k37).sz = 6 from rfl, Nat.mul_one, Nat.add_zero] at hx22_2); have hf22_2 := hfr22 2; (try simp only [show (k37).sz = 6 from rfl, Nat.mul_one, Nat.add_zero] at hf22_2); clear hcl22 hcc22 hfr22 hM22) | ((with_reducible refine gate_store (t := 3) (p := 55) rfl ?_); refine store_event (t := 3) (p := 55) (v := ?vo_w23) (w1 := (w21.setCell ⟨go20, (t392 : Int).toNat * 6 + 2, none⟩ (.int .i64 a2))) ?hg ?ho ?hn ?hr ?_; (case ho => rfl); (case hg => rfl); (case hn => rfl); (case hr => first | (go_simp; done) | (go_simp; rfl)); intro w23 hw; have hg : w21.grownBy w23 (some go20) := (by rw [hw]; exact HP22.2); have hp_ : Kd.R k37 37 w23 w.heap.size (fun _ => True) (.slice (some ⟨go20, 0, none⟩) t396.length co20) y400 := (by rw [hw, Ny400.out]; exact HP22.1); clear HP22; have n0_ := Aside0.mk (hp_); have n1_ := Aside0.mk ((by rw [hw]; exact below_set (HB.out) GB20.out : Below w.heap.size w w23)); clear HO398; clear HB; have HO398 := n0_; have HB := n1_; clear n0_ n1_; clear hg hw hp_))
        go_ret3
        exact ⟨_, by first | rfl | (simp [errW_none, errW_some] <;> rfl) | (simp [*, errW_none, errW_some] <;> rfl), by (with_reducible repeat (first | apply Kd.R_alloc | apply Kd.R_drewN | apply Kd.R_drew)); exact HO398.out, by repeat (first | (with_reducible first | exact HB.out | apply below_alloc | apply pw_below_drewN | apply below_drew1) | exact HB.out)⟩
       ·
        rw [if_neg c19] at H
        exact absurd H (by simp)
      ·
       rw [if_neg c18] at H
       have c18b0 : decide (a3 ≤ ((rd_T37 l0 t392).f4)) = false := decide_eq_false c18
       clear c18
       by_cases c24 : t392 < (t396.length : Int)
       ·
        rw [if_pos c24] at H
        have c24b0 : decide (t392 < (t396.length : Int)) = true := decide_eq_true c24
        clear c24
        obtain ⟨y403, hy403⟩ : ∃ y_ : List (S37), y_ = (t396.set (t392 : Int).toNat (⟨(rd_T37 t396 t392).f0, (rd_T37 t396 t392).f1, (rd_T37 t396 t392).f2, (rd_T37 t396 t392).f3, (rd_T37 t396 t392).f4, a3⟩ : S37)) := ⟨_, rfl⟩
        replace H : ((impl_issued.f kj5 y403 ((rd_T37 l0 t392).f0) ((rd_T37 l0 t392).f1) a2 ((rd_T37 l0 t392).f3) a3 ((rd_T37 l0 t392).f5)).bind fun bt404 => (some (bt404.1, bt404.2.1, bt404.2.2))) = some (r1, r2, r3) := by first | (rw [hy403]; with_reducible exact H) | (have H2_ := (Option.bind_some _ _).symm.trans H; rw [hy403]; with_reducible exact H2_) | (have H2_ := (Option.bind_some _ _).symm.trans H; with_reducible exact H2_) | with_reducible exact H | (rw [hy403]; exact H) | exact H
        have Ny403 := Aside0.mk hy403
        clear hy403
        replace H := Option.bind_eq_some_iff.mp H
        obtain ⟨⟨t404, t407, t408⟩, A260, H⟩ := H
        replace H : (some (t404, t407, t408)) = some (r1, r2, r3) := H
        have A26 := Aside0.mk A260
        clear A260
        simp only [Option.some.injEq, Prod.mk.injEq] at H
        obtain ⟨rfl, rfl, rfl⟩ := H
        go_wp2_with (first | ((with_reducible refine gate_callee (f := 25) rfl ?_); refine goesL_ (some 43) rfl rfl Try.func25 (by kernel_rfl) rfl #[.slice A0 l0.length c0] rfl (by (try simp only [List.map_toArray, List.map_cons, List.map_nil]); first | done | rfl | (simp only [List.length_drop, List.length_take]; rfl)) ?_; (with_reducible refine (impl_Warning_25.calls _ _ l0 t396 _ ?side1 ?side2 A15.out).mono ?_); (case side1 => repeat (first | exact (Kd.C_below HR0.out HB.out) | (with_reducible refine Kd.C_alloc ?_ _) | (with_reducible refine Kd.C_drewN ?_ _) | (with_reducible refine Kd.C_drew ?_))); (case side2 => exact HC0.out); rintro e w27 ⟨v397, rfl, ho0, hb⟩; refine ⟨_, rfl, ?_⟩; have n0_ := Aside0.mk (Kd.R_lower ho0 (below_size (by repeat (first | (with_reducible first | exact HB.out | apply below_alloc | apply pw_below_drewN | apply below_drew1) | exact HB.out)))); have n1_ := Aside0.mk (below_step (by repeat (first | (with_reducible first | exact HB.out | apply below_alloc | apply pw_below_drewN | apply below_drew1) | exact HB.out)) hb); clear HB; have HO398 := n0_; have HB := n1_; clear n0_ n1_; (try clear hb); (try clear hb2); (try clear hk); (try clear hi); (try clear ho0); have p399 : 0 ≤ (t392 : Int) := of_decide_eq_true (by first | (with_reducible assumption) | assumption); have q399 : t392 < (l0.length : Int) := of_decide_eq_true (by first | (with_reducible assumption) | assumption); obtain ⟨ad399, e399, hx399_0, hx399_1, hx399_2, hx399_3, hx399_4, hx399_5⟩ := at_T37 HR0.out t392 p399 q399; cases e399; replace hx399_0 := (HB.out.cell (World.block_lt_of_cell? w _ hx399_0)).trans hx399_0; replace hx399_1 := (HB.out.cell (World.block_lt_of_cell? w _ hx399_1)).trans hx399_1; replace hx399_2 := (HB.out.cell (World.block_lt_of_cell? w _ hx399_2)).trans hx399_2; replace hx399_3 := (HB.out.cell (World.block_lt_of_cell? w _ hx399_3)).trans hx399_3; replace hx399_4 := (HB.out.cell (World.block_lt_of_cell? w _ hx399_4)).trans hx399_4; replace hx399_5 := (HB.out.cell (World.block_lt_of_cell? w _ hx399_5)).trans hx399_5; replace p399 := eq_true p399; replace q399 := eq_true q399; have p401 : 0 ≤ (t392 : Int) := of_decide_eq_true (by first | (with_reducible assumption) | assumption); have q401 : t392 < (l0.length : Int) := of_decide_eq_true (by first | (with_reducible assumption) | assumption); obtain ⟨ad401, e401, hx401_0, hx401_1, hx401_2, hx401_3, hx401_4, hx401_5⟩ := at_T37 HR0.out t392 p401 q401; obtain rfl : ad399 = ad401 := (by injection e401); replace hx401_0 := (HB.out.cell (World.block_lt_of_cell? w _ hx401_0)).trans hx401_0; replace hx401_1 := (HB.out.cell (World.block_lt_of_cell? w _ hx401_1)).trans hx401_1; replace hx401_2 := (HB.out.cell (World.block_lt_of_cell? w _ hx401_2)).trans hx401_2; replace hx401_3 := (HB.out.cell (World.block_lt_of_cell? w _ hx401_3)).trans hx401_3; replace hx401_4 := (HB.out.cell (World.block_lt_of_cell? w _ hx401_4)).trans hx401_4; replace hx401_5 := (HB.out.cell (World.block_lt_of_cell? w _ hx401_5)).trans hx401_5; replace p401 := eq_true p401; replace q401 := eq_true q401) | ((with_reducible refine gate_dst (N := 13) rfl ?_); refine box_event ?hg (N := 13) ?hd (cs := #[.int .i64 0, .int .i64 0, .int .i64 0, .int .i64 0, .int .i64 0, .int .i64 0]) (t := 37) ?hr ?_; (case hd => rfl); (case hg => rfl); (case hr => first | (go_simp; done) | (go_simp; rfl)); intro gb402 hg w28 hbox hb; have n0_ := Aside0.mk (Kd.R_below (Kd.R_elderB (by (with_reducible repeat (first | apply Kd.R_alloc | apply Kd.R_drewN | apply Kd.R_drew)); exact HO398.out) gb402 (Nat.le_of_eq hg.symm)) hb); have n1_ := Aside0.mk (below_step (by repeat (first | (with_reducible first | exact HB.out | apply below_alloc | apply pw_below_drewN | apply below_drew1) | exact HB.out)) hb); have n2_ := Aside0.mk (hbox); have n3_ := Aside0.mk ((by rw [hg]; exact (below_size (by repeat (first | (with_reducible first | exact HB.out | apply below_alloc | apply pw_below_drewN | apply below_drew1) | exact HB.out))) : w.heap.size ≤ gb402)); have n4_ := Aside0.mk ((by rw [hg]; exact (below_size (by repeat (first | (with_reducible first | exact HB.out | apply below_alloc | apply pw_below_drewN | apply below_drew1) | exact HB.out))) : w.heap.size ≤ gb402)); clear HO398; clear HB; have HO398 := n0_; have HB := n1_; have BK402 := n2_; have GW402 := n3_; have GE402 := n4_; clear n0_ n1_ n2_ n3_ n4_; clear hb hbox hg; have hcz29_0 : w28.cell? ⟨gb402, 0, none⟩ = some (.int .i64 0) := (blk_cell BK402.out 0).trans rfl; have hcz29_1 : w28.cell? ⟨gb402, 1, none⟩ = some (.int .i64 0) := (blk_cell BK402.out 1).trans rfl; have hcz29_2 : w28.cell? ⟨gb402, 2, none⟩ = some (.int .i64 0) := (blk_cell BK402.out 2).trans rfl; have hcz29_3 : w28.cell? ⟨gb402, 3, none⟩ = some (.int .i64 0) := (blk_cell BK402.out 3).trans rfl; have hcz29_4 : w28.cell? ⟨gb402, 4, none⟩ = some (.int .i64 0) := (blk_cell BK402.out 4).trans rfl; have hcz29_5 : w28.cell? ⟨gb402, 5, none⟩ = some (.int .i64 0) := (blk_cell BK402.out 5).trans rfl; have hfz29_0 := blk_frozen BK402.out 0; have hfz29_1 := blk_frozen BK402.out 1; have hfz29_2 := blk_frozen BK402.out 2; have hfz29_3 := blk_frozen BK402.out 3; have hfz29_4 := blk_frozen BK402.out 4; have hfz29_5 := blk_frozen BK402.out 5) | ((with_reducible refine gate_store (t := 37) (p := 13) rfl ?_); refine store_event (t := 37) (p := 13) (v := ?vo_w30) (w1 := ((((((w28.setCell ⟨gb402, 0, none⟩ (.int .i64 ((rd_T37 l0 t392).f0))).setCell ⟨gb402, 1, none⟩ (.int .i64 ((rd_T37 l0 t392).f1))).setCell ⟨gb402, 2, none⟩ (.int .i64 ((rd_T37 l0 t392).f2))).setCell ⟨gb402, 3, none⟩ (.int .i64 ((rd_T37 l0 t392).f3))).setCell ⟨gb402, 4, none⟩ (.int .i64 ((rd_T37 l0 t392).f4))).setCell ⟨gb402, 5, none⟩ (.int .i64 ((rd_T37 l0 t392).f5)))) ?hg ?ho ?hn ?hr ?_; (case ho => rfl); (case hg => rfl); (case hn => rfl); (case hr => first | (go_simp; done) | (go_simp; rfl)); intro w30 hw; have n0_ : Aside0 (Kd.R k37 37 w30 w.heap.size (fun k_ => k_ ≠ gb402) v397 t396) := ⟨(by rw [hw]; exact (by (with_reducible repeat (first | apply Kd.R_alloc | apply Kd.R_drewN | apply Kd.R_drew)); exact Kd.R_mono (Kd.R_far (p := ⟨gb402, 5, none⟩) (Kd.R_far (p := ⟨gb402, 4, none⟩) (Kd.R_far (p := ⟨gb402, 3, none⟩) (Kd.R_far (p := ⟨gb402, 2, none⟩) (Kd.R_far (p := ⟨gb402, 1, none⟩) (Kd.R_far (p := ⟨gb402, 0, none⟩) (Kd.R_mono HO398.out (fun k_ hk => (⟨hk, hk.2⟩ : _ ∧ k_ ≠ gb402))) (fun _ hk => hk.2) (.int .i64 ((rd_T37 l0 t392).f0))) (fun _ hk => hk.2) (.int .i64 ((rd_T37 l0 t392).f1))) (fun _ hk => hk.2) (.int .i64 ((rd_T37 l0 t392).f2))) (fun _ hk => hk.2) (.int .i64 ((rd_T37 l0 t392).f3))) (fun _ hk => hk.2) (.int .i64 ((rd_T37 l0 t392).f4))) (fun _ hk => hk.2) (.int .i64 ((rd_T37 l0 t392).f5))) (fun _ hk => hk.1.2)))⟩; have n1_ : Aside0 (w30.heap[gb402]? = some (.cells #[.int .i64 ((rd_T37 l0 t392).f0), .int .i64 ((rd_T37 l0 t392).f1), .int .i64 ((rd_T37 l0 t392).f2), .int .i64 ((rd_T37 l0 t392).f3), .int .i64 ((rd_T37 l0 t392).f4), .int .i64 ((rd_T37 l0 t392).f5)] 37 (0, 0))) := ⟨(by rw [hw]; exact (by (with_reducible repeat (first | refine blk_drewN ?_ _ | refine blk_drew ?_ | refine blk_alloc ?_ _)); refine blk_put (cs := #[.int .i64 ((rd_T37 l0 t392).f0), .int .i64 ((rd_T37 l0 t392).f1), .int .i64 ((rd_T37 l0 t392).f2), .int .i64 ((rd_T37 l0 t392).f3), .int .i64 ((rd_T37 l0 t392).f4), .int .i64 0]) ?_ 5 _ rfl; (with_reducible repeat (first | refine blk_drewN ?_ _ | refine blk_drew ?_ | refine blk_alloc ?_ _)); refine blk_put (cs := #[.int .i64 ((rd_T37 l0 t392).f0), .int .i64 ((rd_T37 l0 t392).f1), .int .i64 ((rd_T37 l0 t392).f2), .int .i64 ((rd_T37 l0 t392).f3), .int .i64 0, .int .i64 0]) ?_ 4 _ rfl; (with_reducible repeat (first | refine blk_drewN ?_ _ | refine blk_drew ?_ | refine blk_alloc ?_ _)); refine blk_put (cs := #[.int .i64 ((rd_T37 l0 t392).f0), .int .i64 ((rd_T37 l0 t392).f1), .int .i64 ((rd_T37 l0 t392).f2), .int .i64 0, .int .i64 0, .int .i64 0]) ?_ 3 _ rfl; (with_reducible repeat (first | refine blk_drewN ?_ _ | refine blk_drew ?_ | refine blk_alloc ?_ _)); refine blk_put (cs := #[.int .i64 ((rd_T37 l0 t392).f0), .int .i64 ((rd_T37 l0 t392).f1), .int .i64 0, .int .i64 0, .int .i64 0, .int .i64 0]) ?_ 2 _ rfl; (with_reducible repeat (first | refine blk_drewN ?_ _ | refine blk_drew ?_ | refine blk_alloc ?_ _)); refine blk_put (cs := #[.int .i64 ((rd_T37 l0 t392).f0), .int .i64 0, .int .i64 0, .int .i64 0, .int .i64 0, .int .i64 0]) ?_ 1 _ rfl; (with_reducible repeat (first | refine blk_drewN ?_ _ | refine blk_drew ?_ | refine blk_alloc ?_ _)); refine blk_put (cs := #[.int .i64 0, .int .i64 0, .int .i64 0, .int .i64 0, .int .i64 0, .int .i64 0]) ?_ 0 _ rfl; (with_reducible repeat (first | refine blk_drewN ?_ _ | refine blk_drew ?_ | refine blk_alloc ?_ _)); exact BK402.out))⟩; have n2_ : Aside0 (Below w.heap.size w w30) := ⟨(by rw [hw]; exact (by repeat (first | (with_reducible first | exact HB.out | apply below_alloc | apply pw_below_drewN | apply below_drew1 | refine below_set ?_ GE402.out) | exact HB.out)))⟩; clear hw; clear HO398; clear BK402; clear HB; have HO398 := n0_; have BK402 := n1_; have HB := n2_; clear n0_ n1_ n2_; have hcz31_0 : w30.cell? ⟨gb402, 0, none⟩ = some (.int .i64 ((rd_T37 l0 t392).f0)) := (blk_cell BK402.out 0).trans rfl; have hcz31_1 : w30.cell? ⟨gb402, 1, none⟩ = some (.int .i64 ((rd_T37 l0 t392).f1)) := (blk_cell BK402.out 1).trans rfl; have hcz31_2 : w30.cell? ⟨gb402, 2, none⟩ = some (.int .i64 ((rd_T37 l0 t392).f2)) := (blk_cell BK402.out 2).trans rfl; have hcz31_3 : w30.cell? ⟨gb402, 3, none⟩ = some (.int .i64 ((rd_T37 l0 t392).f3)) := (blk_cell BK402.out 3).trans rfl; have hcz31_4 : w30.cell? ⟨gb402, 4, none⟩ = some (.int .i64 ((rd_T37 l0 t392).f4)) := (blk_cell BK402.out 4).trans rfl; have hcz31_5 : w30.cell? ⟨gb402, 5, none⟩ = some (.int .i64 ((rd_T37 l0 t392).f5)) := (blk_cell BK402.out 5).trans rfl; have hfz31_0 := blk_frozen BK402.out 0; have hfz31_1 := blk_frozen BK402.out 1; have hfz31_2 := blk_frozen BK402.out 2; have hfz31_3 := blk_frozen BK402.out 3; have hfz31_4 := blk_frozen BK402.out 4; have hfz31_5 := blk_frozen BK402.out 5) | ((with_reducible refine gate_store (t := 3) (p := 64) rfl ?_); refine store_event (t := 3) (p := 64) (v := ?vo_w32) (w1 := (w30.setCell ⟨gb402, 2, none⟩ (.int .i64 a2))) ?hg ?ho ?hn ?hr ?_; (case ho => rfl); (case hg => rfl); (case hn => rfl); (case hr => first | (go_simp; done) | (go_simp; rfl)); intro w32 hw; have n0_ : Aside0 (Kd.R k37 37 w32 w.heap.size (fun k_ => k_ ≠ gb402) v397 t396) := ⟨(by rw [hw]; exact (by (with_reducible repeat (first | apply Kd.R_alloc | apply Kd.R_drewN | apply Kd.R_drew)); exact Kd.R_mono (Kd.R_far (p := ⟨gb402, 2, none⟩) (Kd.R_mono HO398.out (fun k_ hk => (⟨hk, hk⟩ : _ ∧ k_ ≠ gb402))) (fun _ hk => hk.2) (.int .i64 a2)) (fun _ hk => hk.1)))⟩; have n1_ : Aside0 (w32.heap[gb402]? = some (.cells #[.int .i64 ((rd_T37 l0 t392).f0), .int .i64 ((rd_T37 l0 t392).f1), .int .i64 a2, .int .i64 ((rd_T37 l0 t392).f3), .int .i64 ((rd_T37 l0 t392).f4), .int .i64 ((rd_T37 l0 t392).f5)] 37 (0, 0))) := ⟨(by rw [hw]; exact (by (with_reducible repeat (first | refine blk_drewN ?_ _ | refine blk_drew ?_ | refine blk_alloc ?_ _)); refine blk_put (cs := #[.int .i64 ((rd_T37 l0 t392).f0), .int .i64 ((rd_T37 l0 t392).f1), .int .i64 ((rd_T37 l0 t392).f2), .int .i64 ((rd_T37 l0 t392).f3), .int .i64 ((rd_T37 l0 t392).f4), .int .i64 ((rd_T37 l0 t392).f5)]) ?_ 2 _ rfl; (with_reducible repeat (first | refine blk_drewN ?_ _ | refine blk_drew ?_ | refine blk_alloc ?_ _)); exact BK402.out))⟩; have n2_ : Aside0 (Below w.heap.size w w32) := ⟨(by rw [hw]; exact (by repeat (first | (with_reducible first | exact HB.out | apply below_alloc | apply pw_below_drewN | apply below_drew1 | refine below_set ?_ GE402.out) | exact HB.out)))⟩; clear hw; clear HO398; clear BK402; clear HB; have HO398 := n0_; have BK402 := n1_; have HB := n2_; clear n0_ n1_ n2_; have hcz33_0 : w32.cell? ⟨gb402, 0, none⟩ = some (.int .i64 ((rd_T37 l0 t392).f0)) := (blk_cell BK402.out 0).trans rfl; have hcz33_1 : w32.cell? ⟨gb402, 1, none⟩ = some (.int .i64 ((rd_T37 l0 t392).f1)) := (blk_cell BK402.out 1).trans rfl; have hcz33_2 : w32.cell? ⟨gb402, 2, none⟩ = some (.int .i64 a2) := (blk_cell BK402.out 2).trans rfl; have hcz33_3 : w32.cell? ⟨gb402, 3, none⟩ = some (.int .i64 ((rd_T37 l0 t392).f3)) := (blk_cell BK402.out 3).trans rfl; have hcz33_4 : w32.cell? ⟨gb402, 4, none⟩ = some (.int .i64 ((rd_T37 l0 t392).f4)) := (blk_cell BK402.out 4).trans rfl; have hcz33_5 : w32.cell? ⟨gb402, 5, none⟩ = some (.int .i64 ((rd_T37 l0 t392).f5)) := (blk_cell BK402.out 5).trans rfl; have hfz33_0 := blk_frozen BK402.out 0; have hfz33_1 := blk_frozen BK402.out 1; have hfz33_2 := blk_frozen BK402.out 2; have hfz33_3 := blk_frozen BK402.out 3; have hfz33_4 := blk_frozen BK402.out 4; have hfz33_5 := blk_frozen BK402.out 5) | ((with_reducible refine gate_store (t := 3) (p := 65) rfl ?_); refine store_event (t := 3) (p := 65) (v := ?vo_w34) (w1 := (w32.setCell ⟨gb402, 4, none⟩ (.int .i64 a3))) ?hg ?ho ?hn ?hr ?_; (case ho => rfl); (case hg => rfl); (case hn => rfl); (case hr => first | (go_simp; done) | (go_simp; rfl)); intro w34 hw; have n0_ : Aside0 (Kd.R k37 37 w34 w.heap.size (fun k_ => k_ ≠ gb402) v397 t396) := ⟨(by rw [hw]; exact (by (with_reducible repeat (first | apply Kd.R_alloc | apply Kd.R_drewN | apply Kd.R_drew)); exact Kd.R_mono (Kd.R_far (p := ⟨gb402, 4, none⟩) (Kd.R_mono HO398.out (fun k_ hk => (⟨hk, hk⟩ : _ ∧ k_ ≠ gb402))) (fun _ hk => hk.2) (.int .i64 a3)) (fun _ hk => hk.1)))⟩; have n1_ : Aside0 (w34.heap[gb402]? = some (.cells #[.int .i64 ((rd_T37 l0 t392).f0), .int .i64 ((rd_T37 l0 t392).f1), .int .i64 a2, .int .i64 ((rd_T37 l0 t392).f3), .int .i64 a3, .int .i64 ((rd_T37 l0 t392).f5)] 37 (0, 0))) := ⟨(by rw [hw]; exact (by (with_reducible repeat (first | refine blk_drewN ?_ _ | refine blk_drew ?_ | refine blk_alloc ?_ _)); refine blk_put (cs := #[.int .i64 ((rd_T37 l0 t392).f0), .int .i64 ((rd_T37 l0 t392).f1), .int .i64 a2, .int .i64 ((rd_T37 l0 t392).f3), .int .i64 ((rd_T37 l0 t392).f4), .int .i64 ((rd_T37 l0 t392).f5)]) ?_ 4 _ rfl; (with_reducible repeat (first | refine blk_drewN ?_ _ | refine blk_drew ?_ | refine blk_alloc ?_ _)); exact BK402.out))⟩; have n2_ : Aside0 (Below w.heap.size w w34) := ⟨(by rw [hw]; exact (by repeat (first | (with_reducible first | exact HB.out | apply below_alloc | apply pw_below_drewN | apply below_drew1 | refine below_set ?_ GE402.out) | exact HB.out)))⟩; clear hw; clear HO398; clear BK402; clear HB; have HO398 := n0_; have BK402 := n1_; have HB := n2_; clear n0_ n1_ n2_; have p25 : 0 ≤ (t392 : Int) := of_decide_eq_true (by first | (with_reducible assumption) | assumption); have q25 : (t392 : Int) < ((t396.length : Int) : Int) := of_decide_eq_true (by first | (with_reducible assumption) | assumption); obtain ⟨go25, co25, eo25, gb25, gl25, cl25, HG25⟩ := Kd.R_form HO398.out (by omega); (first | cases eo25 | (injection eo25 with ea_ en_ ec_; (first | subst ea_ | (injection ea_ with ea_; subst ea_)); subst ec_; clear en_)); have GB25 := Aside0.mk gb25; have GG25 := Aside0.mk HG25; clear gb25 gl25 HG25; obtain ⟨ce25, hcl25, hM25, hcc25, hfr25⟩ := Kd.R_elem HO398.out z37 (t392 : Int) p25 q25; obtain rfl := k37_openM hM25; have hx25_0 : w34.cell? ⟨go25, (t392 : Int).toNat * 6, none⟩ = some (.int .i64 ((rd_T37 t396 t392).f0)) := hcc25 0 _ rfl; have hx25_1 : w34.cell? ⟨go25, (t392 : Int).toNat * 6 + 1, none⟩ = some (.int .i64 ((rd_T37 t396 t392).f1)) := hcc25 1 _ rfl; have hx25_2 : w34.cell? ⟨go25, (t392 : Int).toNat * 6 + 2, none⟩ = some (.int .i64 ((rd_T37 t396 t392).f2)) := hcc25 2 _ rfl; have hx25_3 : w34.cell? ⟨go25, (t392 : Int).toNat * 6 + 3, none⟩ = some (.int .i64 ((rd_T37 t396 t392).f3)) := hcc25 3 _ rfl; have hx25_4 : w34.cell? ⟨go25, (t392 : Int).toNat * 6 + 4, none⟩ = some (.int .i64 ((rd_T37 t396 t392).f4)) := hcc25 4 _ rfl; have hx25_5 : w34.cell? ⟨go25, (t392 : Int).toNat * 6 + 5, none⟩ = some (.int .i64 ((rd_T37 t396 t392).f5)) := hcc25 5 _ rfl; have hf25_0 : w34.frozen? ⟨go25, (t392 : Int).toNat * 6, none⟩ = false := hfr25 0; have hf25_1 : w34.frozen? ⟨go25, (t392 : Int).toNat * 6 + 1, none⟩ = false := hfr25 1; have hf25_2 : w34.frozen? ⟨go25, (t392 : Int).toNat * 6 + 2, none⟩ = false := hfr25 2; have hf25_3 : w34.frozen? ⟨go25, (t392 : Int).toNat * 6 + 3, none⟩ = false := hfr25 3; have hf25_4 : w34.frozen? ⟨go25, (t392 : Int).toNat * 6 + 4, none⟩ = false := hfr25 4; have hf25_5 : w34.frozen? ⟨go25, (t392 : Int).toNat * 6 + 5, none⟩ = false := hfr25 5; clear hcl25 hcc25 hfr25 hM25; replace p25 := eq_true p25; replace q25 := eq_true q25; have HX35 := Aside0.mk (show Kd.R k37 37 w34 w.heap.size (fun k_ => k_ ≠ gb402) (.slice (some ⟨go25, 0, none⟩) t396.length co25) t396 from (by (with_reducible repeat (first | apply Kd.R_alloc | apply Kd.R_drewN | apply Kd.R_drew)); exact HO398.out)); obtain ⟨ce35, hcl35, hM35, hcc35, hfr35⟩ := Kd.R_elem HX35.out z37 (t392 : Int) (of_decide_eq_true (by first | (with_reducible assumption) | assumption)) (by have h_ : (t392 : Int) < ((t396.length : Int) : Int) := of_decide_eq_true (by first | (with_reducible assumption) | assumption); first | exact h_ | (have e_ := (Kd.R_reads' HO398.out).1; omega) | simpa using h_); obtain rfl := k37_openM hM35; have HP35 := Kd.R_seg HX35.out (t392 : Int) (of_decide_eq_true (by first | (with_reducible assumption) | assumption)) (by have h_ : (t392 : Int) < ((t396.length : Int) : Int) := of_decide_eq_true (by first | (with_reducible assumption) | assumption); first | exact h_ | (have e_ := (Kd.R_reads' HO398.out).1; omega) | simpa using h_) (seg := [.int .i64 a3]) (j := 5) hcl35 hcc35 (show 6 ≤ 6 from by decide) (x' := (⟨(rd_T37 t396 t392).f0, (rd_T37 t396 t392).f1, (rd_T37 t396 t392).f2, (rd_T37 t396 t392).f3, (rd_T37 t396 t392).f4, a3⟩ : S37)) (k37_mkM _ _ _ (⟨(rd_T37 t396 t392).f0, (rd_T37 t396 t392).f1, (rd_T37 t396 t392).f2, (rd_T37 t396 t392).f3, (rd_T37 t396 t392).f4, a3⟩ : S37) ) (fun _ hk => hk); have hx35_5 := hcc35 5 _ rfl; (try simp only [show (k37).sz = 6 from rfl, Nat.mul_one, Nat.add_zero] at hx35_5); have hf35_5 := hfr35 5; (try simp only [show (k37).sz = 6 from rfl, Nat.mul_one, Nat.add_zero] at hf35_5); clear hcl35 hcc35 hfr35 hM35) | ((with_reducible refine gate_store (t := 3) (p := 70) rfl ?_); refine store_event (t := 3) (p := 70) (v := ?vo_w36) (w1 := (w34.setCell ⟨go25, (t392 : Int).toNat * 6 + 5, none⟩ (.int .i64 a3))) ?hg ?ho ?hn ?hr ?_; (case ho => rfl); (case hg => rfl); (case hn => rfl); (case hr => first | (go_simp; done) | (go_simp; rfl)); intro w36 hw; have hg : w34.grownBy w36 (some go25) := (by rw [hw]; exact HP35.2); have hp_ : Kd.R k37 37 w36 w.heap.size (fun k_ => k_ ≠ gb402) (.slice (some ⟨go25, 0, none⟩) t396.length co25) y403 := (by rw [hw, Ny403.out]; exact HP35.1); clear HP35; have n0_ := Aside0.mk (hp_); have n1_ := Aside0.mk (blk_grown (g := gb402) (o := .cells #[.int .i64 ((rd_T37 l0 t392).f0), .int .i64 ((rd_T37 l0 t392).f1), .int .i64 a2, .int .i64 ((rd_T37 l0 t392).f3), .int .i64 a3, .int .i64 ((rd_T37 l0 t392).f5)] 37 (0, 0)) (by (with_reducible repeat (first | refine blk_drewN ?_ _ | refine blk_drew ?_ | refine blk_alloc ?_ _)); exact BK402.out) hg (Kd.R_away HO398.out (fun _ hk => hk))); have n2_ := Aside0.mk ((by rw [hw]; exact below_set (HB.out) GB25.out : Below w.heap.size w w36)); clear HO398; clear BK402; clear HB; have HO398 := n0_; have BK402 := n1_; have HB := n2_; clear n0_ n1_ n2_; clear hg hw hp_; have hcz37_0 : w36.cell? ⟨gb402, 0, none⟩ = some (.int .i64 ((rd_T37 l0 t392).f0)) := (blk_cell BK402.out 0).trans rfl; have hcz37_1 : w36.cell? ⟨gb402, 1, none⟩ = some (.int .i64 ((rd_T37 l0 t392).f1)) := (blk_cell BK402.out 1).trans rfl; have hcz37_2 : w36.cell? ⟨gb402, 2, none⟩ = some (.int .i64 a2) := (blk_cell BK402.out 2).trans rfl; have hcz37_3 : w36.cell? ⟨gb402, 3, none⟩ = some (.int .i64 ((rd_T37 l0 t392).f3)) := (blk_cell BK402.out 3).trans rfl; have hcz37_4 : w36.cell? ⟨gb402, 4, none⟩ = some (.int .i64 a3) := (blk_cell BK402.out 4).trans rfl; have hcz37_5 : w36.cell? ⟨gb402, 5, none⟩ = some (.int .i64 ((rd_T37 l0 t392).f5)) := (blk_cell BK402.out 5).trans rfl; have hfz37_0 := blk_frozen BK402.out 0; have hfz37_1 := blk_frozen BK402.out 1; have hfz37_2 := blk_frozen BK402.out 2; have hfz37_3 := blk_frozen BK402.out 3; have hfz37_4 := blk_frozen BK402.out 4; have hfz37_5 := blk_frozen BK402.out 5) | ((with_reducible refine gate_callee (f := 46) rfl ?_); refine goesL_ (some 73) rfl rfl Try.func46 (by kernel_rfl) rfl #[.slice (some ⟨go25, 0, none⟩) y403.length co25, .agg #[.int .i64 ((rd_T37 l0 t392).f0), .int .i64 ((rd_T37 l0 t392).f1), .int .i64 a2, .int .i64 ((rd_T37 l0 t392).f3), .int .i64 a3, .int .i64 ((rd_T37 l0 t392).f5)]] rfl (by (try simp only [List.map_toArray, List.map_cons, List.map_nil]); first | done | (rw [show y403.length = t396.length from (Kd.R_reads' HO398.out).1.symm] <;> rfl) | rfl | (simp only [List.length_drop, List.length_take]; rfl)) ?_; (with_reducible refine (impl_issued.calls kj5 _ _ y403 ((rd_T37 l0 t392).f0) ((rd_T37 l0 t392).f1) a2 ((rd_T37 l0 t392).f3) a3 ((rd_T37 l0 t392).f5) t404 t407 t408 _ ?side1 ?side2 A26.out).mono ?_); (case side1 => repeat (first | exact (Kd.R_reads' HO398.out).2.2 | (with_reducible refine Kd.C_alloc ?_ _) | (with_reducible refine Kd.C_drewN ?_ _) | (with_reducible refine Kd.C_drew ?_))); (case side2 => rw [show y403.length = t396.length from (Kd.R_reads' HO398.out).1.symm]; exact (Kd.R_reads' HO398.out).2.1); rintro e w38 ⟨v405, rfl, ho0, hb⟩; refine ⟨_, rfl, ?_⟩; have n0_ := Aside0.mk (Kd.R_elder' (by (with_reducible repeat (first | apply Kd.R_alloc | apply Kd.R_drewN | apply Kd.R_drew)); exact HO398.out) (Kd.R_base ho0) hb); have n1_ := Aside0.mk (Kd.R_lower (Kd.R_newB (Kd.R_new' ho0 (Kd.R_lt (by (with_reducible repeat (first | apply Kd.R_alloc | apply Kd.R_drewN | apply Kd.R_drew)); exact HO398.out))) (g := gb402) (o := .cells #[.int .i64 ((rd_T37 l0 t392).f0), .int .i64 ((rd_T37 l0 t392).f1), .int .i64 a2, .int .i64 ((rd_T37 l0 t392).f3), .int .i64 a3, .int .i64 ((rd_T37 l0 t392).f5)] 37 (0, 0)) (by (with_reducible repeat (first | refine blk_drewN ?_ _ | refine blk_drew ?_ | refine blk_alloc ?_ _)); exact BK402.out)) (below_size (by repeat (first | (with_reducible first | exact HB.out | apply below_alloc | apply pw_below_drewN | apply below_drew1 | refine below_set ?_ GE402.out) | exact HB.out)))); have n2_ := Aside0.mk (blk_below (g := gb402) (o := .cells #[.int .i64 ((rd_T37 l0 t392).f0), .int .i64 ((rd_T37 l0 t392).f1), .int .i64 a2, .int .i64 ((rd_T37 l0 t392).f3), .int .i64 a3, .int .i64 ((rd_T37 l0 t392).f5)] 37 (0, 0)) (by (with_reducible repeat (first | refine blk_drewN ?_ _ | refine blk_drew ?_ | refine blk_alloc ?_ _)); exact BK402.out) hb); have n3_ := Aside0.mk (below_step (by repeat (first | (with_reducible first | exact HB.out | apply below_alloc | apply pw_below_drewN | apply below_drew1 | refine below_set ?_ GE402.out) | exact HB.out)) hb); clear HO398; clear BK402; clear HB; have HO398 := n0_; have HO406 := n1_; have BK402 := n2_; have HB := n3_; clear n0_ n1_ n2_ n3_; (try clear hb); (try clear hb2); (try clear hk); (try clear hi); (try clear ho0)))
        go_ret3
        exact ⟨_, by first | rfl | (simp [errW_none, errW_some] <;> rfl) | (simp [*, errW_none, errW_some] <;> rfl), by (with_reducible repeat (first | apply Kd.R_alloc | apply Kd.R_drewN | apply Kd.R_drew)); exact Kd.R_mono HO406.out (fun _ hk => trivial), by repeat (first | (with_reducible first | exact HB.out | apply below_alloc | apply pw_below_drewN | apply below_drew1 | refine below_set ?_ GE402.out) | exact HB.out)⟩
       ·
        rw [if_neg c24] at H
        exact absurd H (by simp)
     ·
      rw [if_neg c17] at H
      exact absurd H (by simp)
    ·
     rw [if_neg c16] at H
     exact absurd H (by simp)

end Go.Proofs.Ytfemneoahkglmaa.Q
