-- Printed by a program of this session (wip/tools/seatprint.py) that runs over the kit's print.
import Derived.Test.YthmkgdlmegohoaaQ0
import Derived.Test.YthmkgdlmegohoaaQf81
import Derived.Test.YthmkgdlmegohoaaQf57
import Derived.Test.YthmkgdlmegohoaaQf58
import Derived.Test.YthmkgdlmegohoaaQf63
namespace Go.Proofs.Ythmkgdlmegohoaa.Q
open Go.RowKit Go.Proofs.YthmkgdlmegohoaaW.PrintWords Go.Proofs.YthmkgdlmegohoaaW.PrintLast Go.Proofs.YthmkgdlmegohoaaW.PrintMore
attribute [local go_sem] max2_int min2_int max_two min_two max_three min_three max_four min_four   -- for this text's walks alone
set_option linter.unusedVariables false
set_option linter.unusedSimpArgs false

/-! ### impl_ChangeLevel: function 37 -/
def impl_ChangeLevel.j0 : Nat → List (S30) → Int → Int → Int → Int → Bool → Option ((List (S30)) × Int × Bool)
 | 0, _, _, _, _, _, _ => none
 | k + 1, x0, x1, x2, x3, x11, x41 => if x41 = true then (some (([] : List (S30)), 0, false)) else ((impl_Warning_64.f x0).bind fun t743 => (if 0 ≤ x11 then (if x11 < (x0.length : Int) then (if x3 ≤ ((rd_T30 x0 x11).f4) then (if x11 < (t743.length : Int) then (some ((t743.set (x11 : Int).toNat (⟨(rd_T30 t743 x11).f0, (rd_T30 t743 x11).f1, x2, (rd_T30 t743 x11).f3, (rd_T30 t743 x11).f4, (rd_T30 t743 x11).f5⟩ : S30)), x1, true)) else (none)) else (if x11 < (t743.length : Int) then ((impl_issued.f k (t743.set (x11 : Int).toNat (⟨(rd_T30 t743 x11).f0, (rd_T30 t743 x11).f1, (rd_T30 t743 x11).f2, (rd_T30 t743 x11).f3, (rd_T30 t743 x11).f4, x3⟩ : S30)) ((rd_T30 x0 x11).f0) ((rd_T30 x0 x11).f1) x2 ((rd_T30 x0 x11).f3) x3 ((rd_T30 x0 x11).f5)).bind fun bt751 => (some (bt751.1, bt751.2.1, bt751.2.2))) else (none))) else (none)) else (none)))
def impl_ChangeLevel.f (k : Nat) (l0 : List (S30)) (a1 : Int) (a2 : Int) (a3 : Int) : Option ((List (S30)) × Int × Bool) := (impl_warningAt.f k l0 a1).bind fun t739 => (if t739 < 0 then (impl_ChangeLevel.j0 k l0 a1 a2 a3 t739 true) else (if 0 ≤ t739 then (if t739 < (l0.length : Int) then (if a2 = ((rd_T30 l0 t739).f2) then (impl_ChangeLevel.j0 k l0 a1 a2 a3 t739 true) else ((impl_within.f a2 1 3).bind fun t741 => (if t741 = true then (impl_ChangeLevel.j0 k l0 a1 a2 a3 t739 (decide (a3 ≥ ((rd_T30 l0 t739).f5)))) else (impl_ChangeLevel.j0 k l0 a1 a2 a3 t739 true)))) else (none)) else (none)))
theorem impl_ChangeLevel.mono_l : ∀ k, (∀ y0 y1 y2 y3 y4 y5, LeO (impl_ChangeLevel.j0 k y0 y1 y2 y3 y4 y5) (impl_ChangeLevel.j0 (k + 1) y0 y1 y2 y3 y4 y5))
 | 0 => fun _ _ _ _ _ _ r h => by simp [impl_ChangeLevel.j0] at h
 | k + 1 => by
  have ih0 := impl_ChangeLevel.mono_l k
  ·
   intro y0 y1 y2 y3 y4 y5
   unfold impl_ChangeLevel.j0
   repeat' first
   | (with_reducible exact ih0 _ _ _ _ _ _)
   | (with_reducible exact impl_issued.mono _ _ _ _ _ _ _ _)
   | (with_reducible exact impl_warningAt.mono _ _ _)
   | (with_reducible exact LeO.refl _)
   | (with_reducible exact LeO.none _)
   | (with_reducible refine LeO.ite ?_ ?_)
   | (with_reducible refine LeO.bind ?_ (fun _ => ?_))
   | exact ih0 _ _ _ _ _ _
   | exact impl_issued.mono _ _ _ _ _ _ _ _
   | exact impl_warningAt.mono _ _ _
   | exact LeO.none _
   | refine LeO.ite ?_ ?_
   | refine LeO.bind ?_ (fun _ => ?_)
theorem impl_ChangeLevel.mono : ∀ a0 a1 a2 a3 k, LeO (impl_ChangeLevel.f k a0 a1 a2 a3) (impl_ChangeLevel.f (k + 1) a0 a1 a2 a3) := by
 intro a0 a1 a2 a3 k
 have ih0 := impl_ChangeLevel.mono_l k
 unfold impl_ChangeLevel.f
 repeat' first
   | (with_reducible exact ih0 _ _ _ _ _ _)
   | (with_reducible exact impl_issued.mono _ _ _ _ _ _ _ _)
   | (with_reducible exact impl_warningAt.mono _ _ _)
   | (with_reducible exact LeO.refl _)
   | (with_reducible exact LeO.none _)
   | (with_reducible refine LeO.ite ?_ ?_)
   | (with_reducible refine LeO.bind ?_ (fun _ => ?_))
   | exact ih0 _ _ _ _ _ _
   | exact impl_issued.mono _ _ _ _ _ _ _ _
   | exact impl_warningAt.mono _ _ _
   | exact LeO.none _
   | refine LeO.ite ?_ ?_
   | refine LeO.bind ?_ (fun _ => ?_)
set_option maxHeartbeats 8000000 in
set_option maxRecDepth 100000 in
theorem impl_ChangeLevel.calls (k : Nat) (A0 : Option Addr) (c0 : Nat) (l0 : List (S30)) (a1 : Int) (a2 : Int) (a3 : Int) (r1 : List (S30)) (r2 : Int) (r3 : Bool) (w : World) (hr0 : Kd.C k30 w A0 l0.length l0) (hc0 : l0.length ≤ c0) (h : impl_ChangeLevel.f k l0 a1 a2 a3 = some (r1, r2, r3)) :
  Calls Try.prog 37 #[.slice A0 l0.length c0, .int .i64 a1, .int .i64 a2, .int .i64 a3] w fun e w' => ∃ v0_ : Value, e = .returned (.tuple #[v0_, .int .i64 r2, .bool r3]) ∧ Kd.R k30 30 w' w.heap.size (fun _ => True) v0_ r1 ∧ Below w.heap.size w w' := by
 have hu30 := Try.underlying30
 have HR0 := Aside0.mk hr0
 have HC0 := Aside0.mk hc0
 clear hr0 hc0
 have HB := Aside0.mk (Below.refl w.heap.size w)
 have H : ((impl_warningAt.f k l0 a1).bind fun t739 => (if t739 < 0 then (impl_ChangeLevel.j0 k l0 a1 a2 a3 t739 true) else (if 0 ≤ t739 then (if t739 < (l0.length : Int) then (if a2 = ((rd_T30 l0 t739).f2) then (impl_ChangeLevel.j0 k l0 a1 a2 a3 t739 true) else ((impl_within.f a2 1 3).bind fun t741 => (if t741 = true then (impl_ChangeLevel.j0 k l0 a1 a2 a3 t739 (decide (a3 ≥ ((rd_T30 l0 t739).f5)))) else (impl_ChangeLevel.j0 k l0 a1 a2 a3 t739 true)))) else (none)) else (none)))) = some (r1, r2, r3) := h
 clear h
 replace H := Option.bind_eq_some_iff.mp H
 obtain ⟨t739, A50, H⟩ := H
 replace H : (if t739 < 0 then (impl_ChangeLevel.j0 k l0 a1 a2 a3 t739 true) else (if 0 ≤ t739 then (if t739 < (l0.length : Int) then (if a2 = ((rd_T30 l0 t739).f2) then (impl_ChangeLevel.j0 k l0 a1 a2 a3 t739 true) else ((impl_within.f a2 1 3).bind fun t741 => (if t741 = true then (impl_ChangeLevel.j0 k l0 a1 a2 a3 t739 (decide (a3 ≥ ((rd_T30 l0 t739).f5)))) else (impl_ChangeLevel.j0 k l0 a1 a2 a3 t739 true)))) else (none)) else (none))) = some (r1, r2, r3) := H
 have A5 := Aside0.mk A50
 clear A50
 have HC6 := Aside0.mk H
 clear H
 go_enter Try.func37, Try.ntmps37
 go_upto_region 2 with (first | ((with_reducible refine gate_callee (f := 63) rfl ?_); refine goesL_ (some 16) rfl rfl Try.func63 (by kernel_rfl) rfl #[.slice A0 l0.length c0, .int .i64 a1] rfl (by (try simp only [List.map_toArray, List.map_cons, List.map_nil]); first | done | rfl | (simp only [List.length_drop, List.length_take]; rfl)) ?_; (with_reducible refine (impl_warningAt.calls k _ _ l0 a1 t739 _ ?side1 ?side2 A5.out).mono ?_); (case side1 => repeat (first | exact HR0.out | (with_reducible refine Kd.C_alloc ?_ _) | (with_reducible refine Kd.C_drewN ?_ _) | (with_reducible refine Kd.C_drew ?_))); (case side2 => exact HC0.out); rintro e w7 ⟨rfl, hb⟩; refine ⟨_, rfl, ?_⟩; have n0_ := Aside0.mk (below_step (by repeat (first | (with_reducible first | exact HB.out | apply below_alloc | apply pw_below_drewN | apply below_drew1) | exact HB.out)) hb); clear HB; have HB := n0_; clear n0_; (try clear hb); (try clear hb2); (try clear hk); (try clear hi)))
 (try simp only [Act.put, List.setIfInBounds_toArray, List.set_cons_zero, List.set_cons_succ])
 go_cut [41] (fun v41 wc => ∃ (kq : Nat) (x41_5 : Bool), v41 = .bool x41_5 ∧ Aside0 (impl_ChangeLevel.j0 kq l0 a1 a2 a3 t739 x41_5 = some (r1, r2, r3)) ∧ Aside0 (kq ≤ k) ∧ Aside0 (Below w.heap.size w wc))
 case first =>
  have H := HC6.out
  clear HC6
  by_cases c8 : t739 < 0
  ·
   rw [if_pos c8] at H
   have c8b0 : decide (t739 < 0) = true := decide_eq_true c8
   clear c8
   (first | rw [c8b0] | (simp only [i64_w, i32_w]; rw [c8b0]) | skip)
   have H' := Aside0.mk H
   clear H
   go_wp2
   go_meet
   case rel => exact ⟨_, (true), (by first | rfl | (simp; done) | (simp [*]; done)), H', ⟨by first | omega | exact Nat.le_refl _⟩, ⟨by repeat (first | (with_reducible first | exact HB.out | apply below_alloc | apply pw_below_drewN | apply below_drew1) | exact HB.out)⟩⟩
  ·
   rw [if_neg c8] at H
   have c8b0 : decide (t739 < 0) = false := decide_eq_false c8
   clear c8
   (first | rw [c8b0] | (simp only [i64_w, i32_w]; rw [c8b0]) | skip)
   by_cases c9 : 0 ≤ t739
   ·
    rw [if_pos c9] at H
    have c9b0 : decide (0 ≤ t739) = true := decide_eq_true c9
    clear c9
    by_cases c10 : t739 < (l0.length : Int)
    ·
     rw [if_pos c10] at H
     have c10b0 : decide (t739 < (l0.length : Int)) = true := decide_eq_true c10
     clear c10
     by_cases c11 : a2 = ((rd_T30 l0 t739).f2)
     ·
      rw [if_pos c11] at H
      have c11b0 : (a2 == ((rd_T30 l0 t739).f2)) = true := beq_iff_eq.mpr c11
      have c11b1 : (a2 != ((rd_T30 l0 t739).f2)) = false := bne_eq_false_iff_eq.mpr c11
      clear c11
      have H' := Aside0.mk H
      clear H
      have p740 : 0 ≤ (t739 : Int) := of_decide_eq_true (by first | (with_reducible assumption) | assumption)
      have q740 : t739 < (l0.length : Int) := of_decide_eq_true (by first | (with_reducible assumption) | assumption)
      obtain ⟨ad740, e740, hx740_0, hx740_1, hx740_2, hx740_3, hx740_4, hx740_5⟩ := at_T30 HR0.out t739 p740 q740
      cases e740
      replace hx740_0 := (HB.out.cell (World.block_lt_of_cell? w _ hx740_0)).trans hx740_0
      replace hx740_1 := (HB.out.cell (World.block_lt_of_cell? w _ hx740_1)).trans hx740_1
      replace hx740_2 := (HB.out.cell (World.block_lt_of_cell? w _ hx740_2)).trans hx740_2
      replace hx740_3 := (HB.out.cell (World.block_lt_of_cell? w _ hx740_3)).trans hx740_3
      replace hx740_4 := (HB.out.cell (World.block_lt_of_cell? w _ hx740_4)).trans hx740_4
      replace hx740_5 := (HB.out.cell (World.block_lt_of_cell? w _ hx740_5)).trans hx740_5
      replace p740 := eq_true p740
      replace q740 := eq_true q740
      go_wp2
      go_meet
      case rel => exact ⟨_, (true), (by first | rfl | (simp; done) | (simp [*]; done)), H', ⟨by first | omega | exact Nat.le_refl _⟩, ⟨by repeat (first | (with_reducible first | exact HB.out | apply below_alloc | apply pw_below_drewN | apply below_drew1) | exact HB.out)⟩⟩
     ·
      rw [if_neg c11] at H
      have c11b0 : (a2 == ((rd_T30 l0 t739).f2)) = false := beq_eq_false_iff_ne.mpr c11
      have c11b1 : (a2 != ((rd_T30 l0 t739).f2)) = true := bne_iff_ne.mpr c11
      replace H := Option.bind_eq_some_iff.mp H
      obtain ⟨t741, A120, H⟩ := H
      replace H : (if t741 = true then (impl_ChangeLevel.j0 k l0 a1 a2 a3 t739 (decide (a3 ≥ ((rd_T30 l0 t739).f5)))) else (impl_ChangeLevel.j0 k l0 a1 a2 a3 t739 true)) = some (r1, r2, r3) := H
      have A12 := Aside0.mk A120
      clear A120
      by_cases c13 : t741 = true
      ·
       subst c13
       have H1 : (impl_ChangeLevel.j0 k l0 a1 a2 a3 t739 (decide (a3 ≥ ((rd_T30 l0 t739).f5)))) = some (r1, r2, r3) := by rw [if_pos rfl] at H; exact H
       clear H
       have H := H1
       clear H1
       have H' := Aside0.mk H
       clear H
       have p740 : 0 ≤ (t739 : Int) := of_decide_eq_true (by first | (with_reducible assumption) | assumption)
       have q740 : t739 < (l0.length : Int) := of_decide_eq_true (by first | (with_reducible assumption) | assumption)
       obtain ⟨ad740, e740, hx740_0, hx740_1, hx740_2, hx740_3, hx740_4, hx740_5⟩ := at_T30 HR0.out t739 p740 q740
       cases e740
       replace hx740_0 := (HB.out.cell (World.block_lt_of_cell? w _ hx740_0)).trans hx740_0
       replace hx740_1 := (HB.out.cell (World.block_lt_of_cell? w _ hx740_1)).trans hx740_1
       replace hx740_2 := (HB.out.cell (World.block_lt_of_cell? w _ hx740_2)).trans hx740_2
       replace hx740_3 := (HB.out.cell (World.block_lt_of_cell? w _ hx740_3)).trans hx740_3
       replace hx740_4 := (HB.out.cell (World.block_lt_of_cell? w _ hx740_4)).trans hx740_4
       replace hx740_5 := (HB.out.cell (World.block_lt_of_cell? w _ hx740_5)).trans hx740_5
       replace p740 := eq_true p740
       replace q740 := eq_true q740
       go_wp2_with (first | (go_at_call 81; (with_reducible refine (impl_within.calls a2 1 3 true _ A12.out).mono ?_); rintro e w' ⟨rfl, ⟨nd, rfl⟩⟩; have p742 : 0 ≤ (t739 : Int) := of_decide_eq_true (by first | (with_reducible assumption) | assumption); have q742 : t739 < (l0.length : Int) := of_decide_eq_true (by first | (with_reducible assumption) | assumption); obtain ⟨ad742, e742, hx742_0, hx742_1, hx742_2, hx742_3, hx742_4, hx742_5⟩ := at_T30 HR0.out t739 p742 q742; obtain rfl : ad740 = ad742 := (by injection e742); replace hx742_0 := (HB.out.cell (World.block_lt_of_cell? w _ hx742_0)).trans hx742_0; replace hx742_1 := (HB.out.cell (World.block_lt_of_cell? w _ hx742_1)).trans hx742_1; replace hx742_2 := (HB.out.cell (World.block_lt_of_cell? w _ hx742_2)).trans hx742_2; replace hx742_3 := (HB.out.cell (World.block_lt_of_cell? w _ hx742_3)).trans hx742_3; replace hx742_4 := (HB.out.cell (World.block_lt_of_cell? w _ hx742_4)).trans hx742_4; replace hx742_5 := (HB.out.cell (World.block_lt_of_cell? w _ hx742_5)).trans hx742_5; replace p742 := eq_true p742; replace q742 := eq_true q742))
       go_meet
       case rel => exact ⟨_, (decide (a3 ≥ ((rd_T30 l0 t739).f5))), (by first | rfl | (simp; done) | (simp [*]; done)), H', ⟨by first | omega | exact Nat.le_refl _⟩, ⟨by repeat (first | (with_reducible first | exact HB.out | apply below_alloc | apply pw_below_drewN | apply below_drew1) | exact HB.out)⟩⟩
      ·
       replace c13 := Bool.eq_false_iff.mpr c13
       subst c13
       have H1 : (impl_ChangeLevel.j0 k l0 a1 a2 a3 t739 true) = some (r1, r2, r3) := by rw [if_neg (show ¬ (false = true) by decide)] at H; exact H
       clear H
       have H := H1
       clear H1
       have H' := Aside0.mk H
       clear H
       have p740 : 0 ≤ (t739 : Int) := of_decide_eq_true (by first | (with_reducible assumption) | assumption)
       have q740 : t739 < (l0.length : Int) := of_decide_eq_true (by first | (with_reducible assumption) | assumption)
       obtain ⟨ad740, e740, hx740_0, hx740_1, hx740_2, hx740_3, hx740_4, hx740_5⟩ := at_T30 HR0.out t739 p740 q740
       cases e740
       replace hx740_0 := (HB.out.cell (World.block_lt_of_cell? w _ hx740_0)).trans hx740_0
       replace hx740_1 := (HB.out.cell (World.block_lt_of_cell? w _ hx740_1)).trans hx740_1
       replace hx740_2 := (HB.out.cell (World.block_lt_of_cell? w _ hx740_2)).trans hx740_2
       replace hx740_3 := (HB.out.cell (World.block_lt_of_cell? w _ hx740_3)).trans hx740_3
       replace hx740_4 := (HB.out.cell (World.block_lt_of_cell? w _ hx740_4)).trans hx740_4
       replace hx740_5 := (HB.out.cell (World.block_lt_of_cell? w _ hx740_5)).trans hx740_5
       replace p740 := eq_true p740
       replace q740 := eq_true q740
       go_wp2_with (first | (go_at_call 81; (with_reducible refine (impl_within.calls a2 1 3 false _ A12.out).mono ?_); rintro e w' ⟨rfl, ⟨nd, rfl⟩⟩))
       go_meet
       case rel => exact ⟨_, (true), (by first | rfl | (simp; done) | (simp [*]; done)), H', ⟨by first | omega | exact Nat.le_refl _⟩, ⟨by repeat (first | (with_reducible first | exact HB.out | apply below_alloc | apply pw_below_drewN | apply below_drew1) | exact HB.out)⟩⟩
    ·
     rw [if_neg c10] at H
     exact absurd H (by simp)
   ·
    rw [if_neg c9] at H
    exact absurd H (by simp)
 case rest =>
  clear HC6
  try clear c1
  try clear p2
  try clear c3
  try clear c6
  try clear p7
  try clear q7
  try clear hx7
  try clear c8
  try clear c8b0
  try clear c9
  try clear c9b0
  try clear c10
  try clear c10b0
  try clear c11
  try clear c11b0
  try clear c11b1
  try clear c13
  try clear hx740_0
  try clear hx740_1
  try clear hx740_2
  try clear hx740_3
  try clear hx740_4
  try clear hx740_5
  try clear hx742_0
  try clear hx742_1
  try clear hx742_2
  try clear hx742_3
  try clear hx742_4
  try clear hx742_5
  try clear p740
  try clear p742
  try clear q740
  try clear q742
  obtain ⟨kq, x41_5, rfl, HA, HJ5, HB⟩ := hcut
  cases kq with
  | zero => exact absurd HA.out (by simp [impl_ChangeLevel.j0])
  | succ kj5 =>
   have H := HA.out
   clear HA
   simp only [impl_ChangeLevel.j0] at H
   by_cases c14 : x41_5 = true
   ·
    subst c14
    have H1 : (some (([] : List (S30)), 0, false)) = some (r1, r2, r3) := by rw [if_pos rfl] at H; exact H
    clear H
    have H := H1
    clear H1
    simp only [Option.some.injEq, Prod.mk.injEq] at H
    obtain ⟨rfl, rfl, rfl⟩ := H
    go_wp2
    go_ret3
    exact ⟨_, by first | rfl | (simp [errW_none, errW_some] <;> rfl) | (simp [*, errW_none, errW_some] <;> rfl), by first | exact Kd.R_nil _ _ _ _ _ | exact Kd.N_nil _ _ _ _ _ | exact Kd.V_nil _ _ _ _ _ | exact Kd.Q_nil _ _ _ _ _ | exact Kd.S_nil _ _ _ _ _, by repeat (first | (with_reducible first | exact HB.out | apply below_alloc | apply pw_below_drewN | apply below_drew1) | exact HB.out)⟩
   ·
    replace c14 := Bool.eq_false_iff.mpr c14
    subst c14
    have H1 : ((impl_Warning_64.f l0).bind fun t743 => (if 0 ≤ t739 then (if t739 < (l0.length : Int) then (if a3 ≤ ((rd_T30 l0 t739).f4) then (if t739 < (t743.length : Int) then (some ((t743.set (t739 : Int).toNat (⟨(rd_T30 t743 t739).f0, (rd_T30 t743 t739).f1, a2, (rd_T30 t743 t739).f3, (rd_T30 t743 t739).f4, (rd_T30 t743 t739).f5⟩ : S30)), a1, true)) else (none)) else (if t739 < (t743.length : Int) then ((impl_issued.f kj5 (t743.set (t739 : Int).toNat (⟨(rd_T30 t743 t739).f0, (rd_T30 t743 t739).f1, (rd_T30 t743 t739).f2, (rd_T30 t743 t739).f3, (rd_T30 t743 t739).f4, a3⟩ : S30)) ((rd_T30 l0 t739).f0) ((rd_T30 l0 t739).f1) a2 ((rd_T30 l0 t739).f3) a3 ((rd_T30 l0 t739).f5)).bind fun bt751 => (some (bt751.1, bt751.2.1, bt751.2.2))) else (none))) else (none)) else (none))) = some (r1, r2, r3) := by rw [if_neg (show ¬ (false = true) by decide)] at H; exact H
    clear H
    have H := H1
    clear H1
    replace H := Option.bind_eq_some_iff.mp H
    obtain ⟨t743, A150, H⟩ := H
    replace H : (if 0 ≤ t739 then (if t739 < (l0.length : Int) then (if a3 ≤ ((rd_T30 l0 t739).f4) then (if t739 < (t743.length : Int) then (some ((t743.set (t739 : Int).toNat (⟨(rd_T30 t743 t739).f0, (rd_T30 t743 t739).f1, a2, (rd_T30 t743 t739).f3, (rd_T30 t743 t739).f4, (rd_T30 t743 t739).f5⟩ : S30)), a1, true)) else (none)) else (if t739 < (t743.length : Int) then ((impl_issued.f kj5 (t743.set (t739 : Int).toNat (⟨(rd_T30 t743 t739).f0, (rd_T30 t743 t739).f1, (rd_T30 t743 t739).f2, (rd_T30 t743 t739).f3, (rd_T30 t743 t739).f4, a3⟩ : S30)) ((rd_T30 l0 t739).f0) ((rd_T30 l0 t739).f1) a2 ((rd_T30 l0 t739).f3) a3 ((rd_T30 l0 t739).f5)).bind fun bt751 => (some (bt751.1, bt751.2.1, bt751.2.2))) else (none))) else (none)) else (none)) = some (r1, r2, r3) := H
    have A15 := Aside0.mk A150
    clear A150
    by_cases c16 : 0 ≤ t739
    ·
     rw [if_pos c16] at H
     have c16b0 : decide (0 ≤ t739) = true := decide_eq_true c16
     clear c16
     by_cases c17 : t739 < (l0.length : Int)
     ·
      rw [if_pos c17] at H
      have c17b0 : decide (t739 < (l0.length : Int)) = true := decide_eq_true c17
      clear c17
      by_cases c18 : a3 ≤ ((rd_T30 l0 t739).f4)
      ·
       rw [if_pos c18] at H
       have c18b0 : decide (a3 ≤ ((rd_T30 l0 t739).f4)) = true := decide_eq_true c18
       clear c18
       by_cases c19 : t739 < (t743.length : Int)
       ·
        rw [if_pos c19] at H
        have c19b0 : decide (t739 < (t743.length : Int)) = true := decide_eq_true c19
        clear c19
        obtain ⟨y747, hy747⟩ : ∃ y_ : List (S30), y_ = (t743.set (t739 : Int).toNat (⟨(rd_T30 t743 t739).f0, (rd_T30 t743 t739).f1, a2, (rd_T30 t743 t739).f3, (rd_T30 t743 t739).f4, (rd_T30 t743 t739).f5⟩ : S30)) := ⟨_, rfl⟩
        replace H : (some (y747, a1, true)) = some (r1, r2, r3) := by first | (rw [hy747]; with_reducible exact H) | (have H2_ := (Option.bind_some _ _).symm.trans H; rw [hy747]; with_reducible exact H2_) | (have H2_ := (Option.bind_some _ _).symm.trans H; with_reducible exact H2_) | with_reducible exact H | (rw [hy747]; exact H) | exact H
        have Ny747 := Aside0.mk hy747
        clear hy747
        simp only [Option.some.injEq, Prod.mk.injEq] at H
        obtain ⟨rfl, rfl, rfl⟩ := H
        go_wp2_with (first | ((with_reducible refine gate_callee (f := 64) rfl ?_); refine goesL_ (some 43) rfl rfl Try.func64 (by kernel_rfl) rfl #[.slice A0 l0.length c0] rfl (by (try simp only [List.map_toArray, List.map_cons, List.map_nil]); first | done | rfl | (simp only [List.length_drop, List.length_take]; rfl)) ?_; (with_reducible refine (impl_Warning_64.calls _ _ l0 t743 _ ?side1 ?side2 A15.out).mono ?_); (case side1 => repeat (first | exact (Kd.C_below HR0.out HB.out) | (with_reducible refine Kd.C_alloc ?_ _) | (with_reducible refine Kd.C_drewN ?_ _) | (with_reducible refine Kd.C_drew ?_))); (case side2 => exact HC0.out); rintro e w21 ⟨v744, rfl, ho0, hb⟩; refine ⟨_, rfl, ?_⟩; have n0_ := Aside0.mk (Kd.R_lower ho0 (below_size (by repeat (first | (with_reducible first | exact HB.out | apply below_alloc | apply pw_below_drewN | apply below_drew1) | exact HB.out)))); have n1_ := Aside0.mk (below_step (by repeat (first | (with_reducible first | exact HB.out | apply below_alloc | apply pw_below_drewN | apply below_drew1) | exact HB.out)) hb); clear HB; have HO745 := n0_; have HB := n1_; clear n0_ n1_; (try clear hb); (try clear hb2); (try clear hk); (try clear hi); (try clear ho0); have p746 : 0 ≤ (t739 : Int) := of_decide_eq_true (by first | (with_reducible assumption) | assumption); have q746 : t739 < (l0.length : Int) := of_decide_eq_true (by first | (with_reducible assumption) | assumption); obtain ⟨ad746, e746, hx746_0, hx746_1, hx746_2, hx746_3, hx746_4, hx746_5⟩ := at_T30 HR0.out t739 p746 q746; cases e746; replace hx746_0 := (HB.out.cell (World.block_lt_of_cell? w _ hx746_0)).trans hx746_0; replace hx746_1 := (HB.out.cell (World.block_lt_of_cell? w _ hx746_1)).trans hx746_1; replace hx746_2 := (HB.out.cell (World.block_lt_of_cell? w _ hx746_2)).trans hx746_2; replace hx746_3 := (HB.out.cell (World.block_lt_of_cell? w _ hx746_3)).trans hx746_3; replace hx746_4 := (HB.out.cell (World.block_lt_of_cell? w _ hx746_4)).trans hx746_4; replace hx746_5 := (HB.out.cell (World.block_lt_of_cell? w _ hx746_5)).trans hx746_5; replace p746 := eq_true p746; replace q746 := eq_true q746; have p20 : 0 ≤ (t739 : Int) := of_decide_eq_true (by first | (with_reducible assumption) | assumption); have q20 : (t739 : Int) < ((t743.length : Int) : Int) := of_decide_eq_true (by first | (with_reducible assumption) | assumption); obtain ⟨go20, co20, eo20, gb20, gl20, cl20, HG20⟩ := Kd.R_form HO745.out (by omega); (first | cases eo20 | (injection eo20 with ea_ en_ ec_; (first | subst ea_ | (injection ea_ with ea_; subst ea_)); subst ec_; clear en_)); have GB20 := Aside0.mk gb20; have GG20 := Aside0.mk HG20; clear gb20 gl20 HG20; obtain ⟨ce20, hcl20, hM20, hcc20, hfr20⟩ := Kd.R_elem HO745.out z30 (t739 : Int) p20 q20; obtain rfl := k30_openM hM20; have hx20_0 : w21.cell? ⟨go20, (t739 : Int).toNat * 6, none⟩ = some (.int .i64 ((rd_T30 t743 t739).f0)) := hcc20 0 _ rfl; have hx20_1 : w21.cell? ⟨go20, (t739 : Int).toNat * 6 + 1, none⟩ = some (.int .i64 ((rd_T30 t743 t739).f1)) := hcc20 1 _ rfl; have hx20_2 : w21.cell? ⟨go20, (t739 : Int).toNat * 6 + 2, none⟩ = some (.int .i64 ((rd_T30 t743 t739).f2)) := hcc20 2 _ rfl; have hx20_3 : w21.cell? ⟨go20, (t739 : Int).toNat * 6 + 3, none⟩ = some (.int .i64 ((rd_T30 t743 t739).f3)) := hcc20 3 _ rfl; have hx20_4 : w21.cell? ⟨go20, (t739 : Int).toNat * 6 + 4, none⟩ = some (.int .i64 ((rd_T30 t743 t739).f4)) := hcc20 4 _ rfl; have hx20_5 : w21.cell? ⟨go20, (t739 : Int).toNat * 6 + 5, none⟩ = some (.int .i64 ((rd_T30 t743 t739).f5)) := hcc20 5 _ rfl; have hf20_0 : w21.frozen? ⟨go20, (t739 : Int).toNat * 6, none⟩ = false := hfr20 0; have hf20_1 : w21.frozen? ⟨go20, (t739 : Int).toNat * 6 + 1, none⟩ = false := hfr20 1; have hf20_2 : w21.frozen? ⟨go20, (t739 : Int).toNat * 6 + 2, none⟩ = false := hfr20 2; have hf20_3 : w21.frozen? ⟨go20, (t739 : Int).toNat * 6 + 3, none⟩ = false := hfr20 3; have hf20_4 : w21.frozen? ⟨go20, (t739 : Int).toNat * 6 + 4, none⟩ = false := hfr20 4; have hf20_5 : w21.frozen? ⟨go20, (t739 : Int).toNat * 6 + 5, none⟩ = false := hfr20 5; clear hcl20 hcc20 hfr20 hM20; replace p20 := eq_true p20; replace q20 := eq_true q20; have HX22 := Aside0.mk (show Kd.R k30 30 w21 w.heap.size (fun _ => True) (.slice (some ⟨go20, 0, none⟩) t743.length co20) t743 from (by (with_reducible repeat (first | apply Kd.R_alloc | apply Kd.R_drewN | apply Kd.R_drew)); exact HO745.out)); obtain ⟨ce22, hcl22, hM22, hcc22, hfr22⟩ := Kd.R_elem HX22.out z30 (t739 : Int) (of_decide_eq_true (by first | (with_reducible assumption) | assumption)) (by have h_ : (t739 : Int) < ((t743.length : Int) : Int) := of_decide_eq_true (by first | (with_reducible assumption) | assumption); first | exact h_ | (have e_ := (Kd.R_reads' HO745.out).1; omega) | simpa using h_); obtain rfl := k30_openM hM22; have HP22 := Kd.R_seg HX22.out (t739 : Int) (of_decide_eq_true (by first | (with_reducible assumption) | assumption)) (by have h_ : (t739 : Int) < ((t743.length : Int) : Int) := of_decide_eq_true (by first | (with_reducible assumption) | assumption); first | exact h_ | (have e_ := (Kd.R_reads' HO745.out).1; omega) | simpa using h_) (seg := [.int .i64 a2]) (j := 2) hcl22 hcc22 (show 3 ≤ 6 from by decide) (x' := (⟨(rd_T30 t743 t739).f0, (rd_T30 t743 t739).f1, a2, (rd_T30 t743 t739).f3, (rd_T30 t743 t739).f4, (rd_T30 t743 t739).f5⟩ : S30)) (k30_mkM _ _ _ (⟨(rd_T30 t743 t739).f0, (rd_T30 t743 t739).f1, a2, (rd_T30 t743 t739).f3, (rd_T30 t743 t739).f4, (rd_T30 t743 t739).f5⟩ : S30) ) (fun _ hk => hk); have hx22_2 := hcc22 2 _ rfl; (try simp only [show (k30).sz = 6 from rfl, Nat.mul_one, Nat.add_zero] at hx22_2); have hf22_2 := hfr22 2; (try simp only [show (k30).sz = 6 from rfl, Nat.mul_one, Nat.add_zero] at hf22_2); clear hcl22 hcc22 hfr22 hM22) | ((with_reducible refine gate_store (t := 3) (p := 55) rfl ?_); refine store_event (t := 3) (p := 55) (v := ?vo_w23) (w1 := (w21.setCell ⟨go20, (t739 : Int).toNat * 6 + 2, none⟩ (.int .i64 a2))) ?hg ?ho ?hn ?hr ?_; (case ho => rfl); (case hg => rfl); (case hn => rfl); (case hr => first | (go_simp; done) | (go_simp; rfl)); intro w23 hw; have hg : w21.grownBy w23 (some go20) := (by rw [hw]; exact HP22.2); have hp_ : Kd.R k30 30 w23 w.heap.size (fun _ => True) (.slice (some ⟨go20, 0, none⟩) t743.length co20) y747 := (by rw [hw, Ny747.out]; exact HP22.1); clear HP22; have n0_ := Aside0.mk (hp_); have n1_ := Aside0.mk ((by rw [hw]; exact below_set (HB.out) GB20.out : Below w.heap.size w w23)); clear HO745; clear HB; have HO745 := n0_; have HB := n1_; clear n0_ n1_; clear hg hw hp_))
        go_ret3
        exact ⟨_, by first | rfl | (simp [errW_none, errW_some] <;> rfl) | (simp [*, errW_none, errW_some] <;> rfl), by (with_reducible repeat (first | apply Kd.R_alloc | apply Kd.R_drewN | apply Kd.R_drew)); exact HO745.out, by repeat (first | (with_reducible first | exact HB.out | apply below_alloc | apply pw_below_drewN | apply below_drew1) | exact HB.out)⟩
       ·
        rw [if_neg c19] at H
        exact absurd H (by simp)
      ·
       rw [if_neg c18] at H
       have c18b0 : decide (a3 ≤ ((rd_T30 l0 t739).f4)) = false := decide_eq_false c18
       clear c18
       by_cases c24 : t739 < (t743.length : Int)
       ·
        rw [if_pos c24] at H
        have c24b0 : decide (t739 < (t743.length : Int)) = true := decide_eq_true c24
        clear c24
        obtain ⟨y750, hy750⟩ : ∃ y_ : List (S30), y_ = (t743.set (t739 : Int).toNat (⟨(rd_T30 t743 t739).f0, (rd_T30 t743 t739).f1, (rd_T30 t743 t739).f2, (rd_T30 t743 t739).f3, (rd_T30 t743 t739).f4, a3⟩ : S30)) := ⟨_, rfl⟩
        replace H : ((impl_issued.f kj5 y750 ((rd_T30 l0 t739).f0) ((rd_T30 l0 t739).f1) a2 ((rd_T30 l0 t739).f3) a3 ((rd_T30 l0 t739).f5)).bind fun bt751 => (some (bt751.1, bt751.2.1, bt751.2.2))) = some (r1, r2, r3) := by first | (rw [hy750]; with_reducible exact H) | (have H2_ := (Option.bind_some _ _).symm.trans H; rw [hy750]; with_reducible exact H2_) | (have H2_ := (Option.bind_some _ _).symm.trans H; with_reducible exact H2_) | with_reducible exact H | (rw [hy750]; exact H) | exact H
        have Ny750 := Aside0.mk hy750
        clear hy750
        replace H := Option.bind_eq_some_iff.mp H
        obtain ⟨⟨t751, t754, t755⟩, A260, H⟩ := H
        replace H : (some (t751, t754, t755)) = some (r1, r2, r3) := H
        have A26 := Aside0.mk A260
        clear A260
        simp only [Option.some.injEq, Prod.mk.injEq] at H
        obtain ⟨rfl, rfl, rfl⟩ := H
        go_wp2_with (first | ((with_reducible refine gate_callee (f := 64) rfl ?_); refine goesL_ (some 43) rfl rfl Try.func64 (by kernel_rfl) rfl #[.slice A0 l0.length c0] rfl (by (try simp only [List.map_toArray, List.map_cons, List.map_nil]); first | done | rfl | (simp only [List.length_drop, List.length_take]; rfl)) ?_; (with_reducible refine (impl_Warning_64.calls _ _ l0 t743 _ ?side1 ?side2 A15.out).mono ?_); (case side1 => repeat (first | exact (Kd.C_below HR0.out HB.out) | (with_reducible refine Kd.C_alloc ?_ _) | (with_reducible refine Kd.C_drewN ?_ _) | (with_reducible refine Kd.C_drew ?_))); (case side2 => exact HC0.out); rintro e w27 ⟨v744, rfl, ho0, hb⟩; refine ⟨_, rfl, ?_⟩; have n0_ := Aside0.mk (Kd.R_lower ho0 (below_size (by repeat (first | (with_reducible first | exact HB.out | apply below_alloc | apply pw_below_drewN | apply below_drew1) | exact HB.out)))); have n1_ := Aside0.mk (below_step (by repeat (first | (with_reducible first | exact HB.out | apply below_alloc | apply pw_below_drewN | apply below_drew1) | exact HB.out)) hb); clear HB; have HO745 := n0_; have HB := n1_; clear n0_ n1_; (try clear hb); (try clear hb2); (try clear hk); (try clear hi); (try clear ho0); have p746 : 0 ≤ (t739 : Int) := of_decide_eq_true (by first | (with_reducible assumption) | assumption); have q746 : t739 < (l0.length : Int) := of_decide_eq_true (by first | (with_reducible assumption) | assumption); obtain ⟨ad746, e746, hx746_0, hx746_1, hx746_2, hx746_3, hx746_4, hx746_5⟩ := at_T30 HR0.out t739 p746 q746; cases e746; replace hx746_0 := (HB.out.cell (World.block_lt_of_cell? w _ hx746_0)).trans hx746_0; replace hx746_1 := (HB.out.cell (World.block_lt_of_cell? w _ hx746_1)).trans hx746_1; replace hx746_2 := (HB.out.cell (World.block_lt_of_cell? w _ hx746_2)).trans hx746_2; replace hx746_3 := (HB.out.cell (World.block_lt_of_cell? w _ hx746_3)).trans hx746_3; replace hx746_4 := (HB.out.cell (World.block_lt_of_cell? w _ hx746_4)).trans hx746_4; replace hx746_5 := (HB.out.cell (World.block_lt_of_cell? w _ hx746_5)).trans hx746_5; replace p746 := eq_true p746; replace q746 := eq_true q746; have p748 : 0 ≤ (t739 : Int) := of_decide_eq_true (by first | (with_reducible assumption) | assumption); have q748 : t739 < (l0.length : Int) := of_decide_eq_true (by first | (with_reducible assumption) | assumption); obtain ⟨ad748, e748, hx748_0, hx748_1, hx748_2, hx748_3, hx748_4, hx748_5⟩ := at_T30 HR0.out t739 p748 q748; obtain rfl : ad746 = ad748 := (by injection e748); replace hx748_0 := (HB.out.cell (World.block_lt_of_cell? w _ hx748_0)).trans hx748_0; replace hx748_1 := (HB.out.cell (World.block_lt_of_cell? w _ hx748_1)).trans hx748_1; replace hx748_2 := (HB.out.cell (World.block_lt_of_cell? w _ hx748_2)).trans hx748_2; replace hx748_3 := (HB.out.cell (World.block_lt_of_cell? w _ hx748_3)).trans hx748_3; replace hx748_4 := (HB.out.cell (World.block_lt_of_cell? w _ hx748_4)).trans hx748_4; replace hx748_5 := (HB.out.cell (World.block_lt_of_cell? w _ hx748_5)).trans hx748_5; replace p748 := eq_true p748; replace q748 := eq_true q748) | ((with_reducible refine gate_dst (N := 13) rfl ?_); refine box_event ?hg (N := 13) ?hd (cs := #[.int .i64 0, .int .i64 0, .int .i64 0, .int .i64 0, .int .i64 0, .int .i64 0]) (t := 30) ?hr ?_; (case hd => rfl); (case hg => rfl); (case hr => first | (go_simp; done) | (go_simp; rfl)); intro gb749 hg w28 hbox hb; have n0_ := Aside0.mk (Kd.R_below (Kd.R_elderB (by (with_reducible repeat (first | apply Kd.R_alloc | apply Kd.R_drewN | apply Kd.R_drew)); exact HO745.out) gb749 (Nat.le_of_eq hg.symm)) hb); have n1_ := Aside0.mk (below_step (by repeat (first | (with_reducible first | exact HB.out | apply below_alloc | apply pw_below_drewN | apply below_drew1) | exact HB.out)) hb); have n2_ := Aside0.mk (hbox); have n3_ := Aside0.mk ((by rw [hg]; exact (below_size (by repeat (first | (with_reducible first | exact HB.out | apply below_alloc | apply pw_below_drewN | apply below_drew1) | exact HB.out))) : w.heap.size ≤ gb749)); have n4_ := Aside0.mk ((by rw [hg]; exact (below_size (by repeat (first | (with_reducible first | exact HB.out | apply below_alloc | apply pw_below_drewN | apply below_drew1) | exact HB.out))) : w.heap.size ≤ gb749)); clear HO745; clear HB; have HO745 := n0_; have HB := n1_; have BK749 := n2_; have GW749 := n3_; have GE749 := n4_; clear n0_ n1_ n2_ n3_ n4_; clear hb hbox hg; have hcz29_0 : w28.cell? ⟨gb749, 0, none⟩ = some (.int .i64 0) := (blk_cell BK749.out 0).trans rfl; have hcz29_1 : w28.cell? ⟨gb749, 1, none⟩ = some (.int .i64 0) := (blk_cell BK749.out 1).trans rfl; have hcz29_2 : w28.cell? ⟨gb749, 2, none⟩ = some (.int .i64 0) := (blk_cell BK749.out 2).trans rfl; have hcz29_3 : w28.cell? ⟨gb749, 3, none⟩ = some (.int .i64 0) := (blk_cell BK749.out 3).trans rfl; have hcz29_4 : w28.cell? ⟨gb749, 4, none⟩ = some (.int .i64 0) := (blk_cell BK749.out 4).trans rfl; have hcz29_5 : w28.cell? ⟨gb749, 5, none⟩ = some (.int .i64 0) := (blk_cell BK749.out 5).trans rfl; have hfz29_0 := blk_frozen BK749.out 0; have hfz29_1 := blk_frozen BK749.out 1; have hfz29_2 := blk_frozen BK749.out 2; have hfz29_3 := blk_frozen BK749.out 3; have hfz29_4 := blk_frozen BK749.out 4; have hfz29_5 := blk_frozen BK749.out 5) | ((with_reducible refine gate_store (t := 30) (p := 13) rfl ?_); refine store_event (t := 30) (p := 13) (v := ?vo_w30) (w1 := ((((((w28.setCell ⟨gb749, 0, none⟩ (.int .i64 ((rd_T30 l0 t739).f0))).setCell ⟨gb749, 1, none⟩ (.int .i64 ((rd_T30 l0 t739).f1))).setCell ⟨gb749, 2, none⟩ (.int .i64 ((rd_T30 l0 t739).f2))).setCell ⟨gb749, 3, none⟩ (.int .i64 ((rd_T30 l0 t739).f3))).setCell ⟨gb749, 4, none⟩ (.int .i64 ((rd_T30 l0 t739).f4))).setCell ⟨gb749, 5, none⟩ (.int .i64 ((rd_T30 l0 t739).f5)))) ?hg ?ho ?hn ?hr ?_; (case ho => rfl); (case hg => rfl); (case hn => rfl); (case hr => first | (go_simp; done) | (go_simp; rfl)); intro w30 hw; have n0_ : Aside0 (Kd.R k30 30 w30 w.heap.size (fun k_ => k_ ≠ gb749) v744 t743) := ⟨(by rw [hw]; exact (by (with_reducible repeat (first | apply Kd.R_alloc | apply Kd.R_drewN | apply Kd.R_drew)); exact Kd.R_mono (Kd.R_far (p := ⟨gb749, 5, none⟩) (Kd.R_far (p := ⟨gb749, 4, none⟩) (Kd.R_far (p := ⟨gb749, 3, none⟩) (Kd.R_far (p := ⟨gb749, 2, none⟩) (Kd.R_far (p := ⟨gb749, 1, none⟩) (Kd.R_far (p := ⟨gb749, 0, none⟩) (Kd.R_mono HO745.out (fun k_ hk => (⟨hk, hk.2⟩ : _ ∧ k_ ≠ gb749))) (fun _ hk => hk.2) (.int .i64 ((rd_T30 l0 t739).f0))) (fun _ hk => hk.2) (.int .i64 ((rd_T30 l0 t739).f1))) (fun _ hk => hk.2) (.int .i64 ((rd_T30 l0 t739).f2))) (fun _ hk => hk.2) (.int .i64 ((rd_T30 l0 t739).f3))) (fun _ hk => hk.2) (.int .i64 ((rd_T30 l0 t739).f4))) (fun _ hk => hk.2) (.int .i64 ((rd_T30 l0 t739).f5))) (fun _ hk => hk.1.2)))⟩; have n1_ : Aside0 (w30.heap[gb749]? = some (.cells #[.int .i64 ((rd_T30 l0 t739).f0), .int .i64 ((rd_T30 l0 t739).f1), .int .i64 ((rd_T30 l0 t739).f2), .int .i64 ((rd_T30 l0 t739).f3), .int .i64 ((rd_T30 l0 t739).f4), .int .i64 ((rd_T30 l0 t739).f5)] 30 (0, 0))) := ⟨(by rw [hw]; exact (by (with_reducible repeat (first | refine blk_drewN ?_ _ | refine blk_drew ?_ | refine blk_alloc ?_ _)); refine blk_put (cs := #[.int .i64 ((rd_T30 l0 t739).f0), .int .i64 ((rd_T30 l0 t739).f1), .int .i64 ((rd_T30 l0 t739).f2), .int .i64 ((rd_T30 l0 t739).f3), .int .i64 ((rd_T30 l0 t739).f4), .int .i64 0]) ?_ 5 _ rfl; (with_reducible repeat (first | refine blk_drewN ?_ _ | refine blk_drew ?_ | refine blk_alloc ?_ _)); refine blk_put (cs := #[.int .i64 ((rd_T30 l0 t739).f0), .int .i64 ((rd_T30 l0 t739).f1), .int .i64 ((rd_T30 l0 t739).f2), .int .i64 ((rd_T30 l0 t739).f3), .int .i64 0, .int .i64 0]) ?_ 4 _ rfl; (with_reducible repeat (first | refine blk_drewN ?_ _ | refine blk_drew ?_ | refine blk_alloc ?_ _)); refine blk_put (cs := #[.int .i64 ((rd_T30 l0 t739).f0), .int .i64 ((rd_T30 l0 t739).f1), .int .i64 ((rd_T30 l0 t739).f2), .int .i64 0, .int .i64 0, .int .i64 0]) ?_ 3 _ rfl; (with_reducible repeat (first | refine blk_drewN ?_ _ | refine blk_drew ?_ | refine blk_alloc ?_ _)); refine blk_put (cs := #[.int .i64 ((rd_T30 l0 t739).f0), .int .i64 ((rd_T30 l0 t739).f1), .int .i64 0, .int .i64 0, .int .i64 0, .int .i64 0]) ?_ 2 _ rfl; (with_reducible repeat (first | refine blk_drewN ?_ _ | refine blk_drew ?_ | refine blk_alloc ?_ _)); refine blk_put (cs := #[.int .i64 ((rd_T30 l0 t739).f0), .int .i64 0, .int .i64 0, .int .i64 0, .int .i64 0, .int .i64 0]) ?_ 1 _ rfl; (with_reducible repeat (first | refine blk_drewN ?_ _ | refine blk_drew ?_ | refine blk_alloc ?_ _)); refine blk_put (cs := #[.int .i64 0, .int .i64 0, .int .i64 0, .int .i64 0, .int .i64 0, .int .i64 0]) ?_ 0 _ rfl; (with_reducible repeat (first | refine blk_drewN ?_ _ | refine blk_drew ?_ | refine blk_alloc ?_ _)); exact BK749.out))⟩; have n2_ : Aside0 (Below w.heap.size w w30) := ⟨(by rw [hw]; exact (by repeat (first | (with_reducible first | exact HB.out | apply below_alloc | apply pw_below_drewN | apply below_drew1 | refine below_set ?_ GE749.out) | exact HB.out)))⟩; clear hw; clear HO745; clear BK749; clear HB; have HO745 := n0_; have BK749 := n1_; have HB := n2_; clear n0_ n1_ n2_; have hcz31_0 : w30.cell? ⟨gb749, 0, none⟩ = some (.int .i64 ((rd_T30 l0 t739).f0)) := (blk_cell BK749.out 0).trans rfl; have hcz31_1 : w30.cell? ⟨gb749, 1, none⟩ = some (.int .i64 ((rd_T30 l0 t739).f1)) := (blk_cell BK749.out 1).trans rfl; have hcz31_2 : w30.cell? ⟨gb749, 2, none⟩ = some (.int .i64 ((rd_T30 l0 t739).f2)) := (blk_cell BK749.out 2).trans rfl; have hcz31_3 : w30.cell? ⟨gb749, 3, none⟩ = some (.int .i64 ((rd_T30 l0 t739).f3)) := (blk_cell BK749.out 3).trans rfl; have hcz31_4 : w30.cell? ⟨gb749, 4, none⟩ = some (.int .i64 ((rd_T30 l0 t739).f4)) := (blk_cell BK749.out 4).trans rfl; have hcz31_5 : w30.cell? ⟨gb749, 5, none⟩ = some (.int .i64 ((rd_T30 l0 t739).f5)) := (blk_cell BK749.out 5).trans rfl; have hfz31_0 := blk_frozen BK749.out 0; have hfz31_1 := blk_frozen BK749.out 1; have hfz31_2 := blk_frozen BK749.out 2; have hfz31_3 := blk_frozen BK749.out 3; have hfz31_4 := blk_frozen BK749.out 4; have hfz31_5 := blk_frozen BK749.out 5) | ((with_reducible refine gate_store (t := 3) (p := 64) rfl ?_); refine store_event (t := 3) (p := 64) (v := ?vo_w32) (w1 := (w30.setCell ⟨gb749, 2, none⟩ (.int .i64 a2))) ?hg ?ho ?hn ?hr ?_; (case ho => rfl); (case hg => rfl); (case hn => rfl); (case hr => first | (go_simp; done) | (go_simp; rfl)); intro w32 hw; have n0_ : Aside0 (Kd.R k30 30 w32 w.heap.size (fun k_ => k_ ≠ gb749) v744 t743) := ⟨(by rw [hw]; exact (by (with_reducible repeat (first | apply Kd.R_alloc | apply Kd.R_drewN | apply Kd.R_drew)); exact Kd.R_mono (Kd.R_far (p := ⟨gb749, 2, none⟩) (Kd.R_mono HO745.out (fun k_ hk => (⟨hk, hk⟩ : _ ∧ k_ ≠ gb749))) (fun _ hk => hk.2) (.int .i64 a2)) (fun _ hk => hk.1)))⟩; have n1_ : Aside0 (w32.heap[gb749]? = some (.cells #[.int .i64 ((rd_T30 l0 t739).f0), .int .i64 ((rd_T30 l0 t739).f1), .int .i64 a2, .int .i64 ((rd_T30 l0 t739).f3), .int .i64 ((rd_T30 l0 t739).f4), .int .i64 ((rd_T30 l0 t739).f5)] 30 (0, 0))) := ⟨(by rw [hw]; exact (by (with_reducible repeat (first | refine blk_drewN ?_ _ | refine blk_drew ?_ | refine blk_alloc ?_ _)); refine blk_put (cs := #[.int .i64 ((rd_T30 l0 t739).f0), .int .i64 ((rd_T30 l0 t739).f1), .int .i64 ((rd_T30 l0 t739).f2), .int .i64 ((rd_T30 l0 t739).f3), .int .i64 ((rd_T30 l0 t739).f4), .int .i64 ((rd_T30 l0 t739).f5)]) ?_ 2 _ rfl; (with_reducible repeat (first | refine blk_drewN ?_ _ | refine blk_drew ?_ | refine blk_alloc ?_ _)); exact BK749.out))⟩; have n2_ : Aside0 (Below w.heap.size w w32) := ⟨(by rw [hw]; exact (by repeat (first | (with_reducible first | exact HB.out | apply below_alloc | apply pw_below_drewN | apply below_drew1 | refine below_set ?_ GE749.out) | exact HB.out)))⟩; clear hw; clear HO745; clear BK749; clear HB; have HO745 := n0_; have BK749 := n1_; have HB := n2_; clear n0_ n1_ n2_; have hcz33_0 : w32.cell? ⟨gb749, 0, none⟩ = some (.int .i64 ((rd_T30 l0 t739).f0)) := (blk_cell BK749.out 0).trans rfl; have hcz33_1 : w32.cell? ⟨gb749, 1, none⟩ = some (.int .i64 ((rd_T30 l0 t739).f1)) := (blk_cell BK749.out 1).trans rfl; have hcz33_2 : w32.cell? ⟨gb749, 2, none⟩ = some (.int .i64 a2) := (blk_cell BK749.out 2).trans rfl; have hcz33_3 : w32.cell? ⟨gb749, 3, none⟩ = some (.int .i64 ((rd_T30 l0 t739).f3)) := (blk_cell BK749.out 3).trans rfl; have hcz33_4 : w32.cell? ⟨gb749, 4, none⟩ = some (.int .i64 ((rd_T30 l0 t739).f4)) := (blk_cell BK749.out 4).trans rfl; have hcz33_5 : w32.cell? ⟨gb749, 5, none⟩ = some (.int .i64 ((rd_T30 l0 t739).f5)) := (blk_cell BK749.out 5).trans rfl; have hfz33_0 := blk_frozen BK749.out 0; have hfz33_1 := blk_frozen BK749.out 1; have hfz33_2 := blk_frozen BK749.out 2; have hfz33_3 := blk_frozen BK749.out 3; have hfz33_4 := blk_frozen BK749.out 4; have hfz33_5 := blk_frozen BK749.out 5) | ((with_reducible refine gate_store (t := 3) (p := 65) rfl ?_); refine store_event (t := 3) (p := 65) (v := ?vo_w34) (w1 := (w32.setCell ⟨gb749, 4, none⟩ (.int .i64 a3))) ?hg ?ho ?hn ?hr ?_; (case ho => rfl); (case hg => rfl); (case hn => rfl); (case hr => first | (go_simp; done) | (go_simp; rfl)); intro w34 hw; have n0_ : Aside0 (Kd.R k30 30 w34 w.heap.size (fun k_ => k_ ≠ gb749) v744 t743) := ⟨(by rw [hw]; exact (by (with_reducible repeat (first | apply Kd.R_alloc | apply Kd.R_drewN | apply Kd.R_drew)); exact Kd.R_mono (Kd.R_far (p := ⟨gb749, 4, none⟩) (Kd.R_mono HO745.out (fun k_ hk => (⟨hk, hk⟩ : _ ∧ k_ ≠ gb749))) (fun _ hk => hk.2) (.int .i64 a3)) (fun _ hk => hk.1)))⟩; have n1_ : Aside0 (w34.heap[gb749]? = some (.cells #[.int .i64 ((rd_T30 l0 t739).f0), .int .i64 ((rd_T30 l0 t739).f1), .int .i64 a2, .int .i64 ((rd_T30 l0 t739).f3), .int .i64 a3, .int .i64 ((rd_T30 l0 t739).f5)] 30 (0, 0))) := ⟨(by rw [hw]; exact (by (with_reducible repeat (first | refine blk_drewN ?_ _ | refine blk_drew ?_ | refine blk_alloc ?_ _)); refine blk_put (cs := #[.int .i64 ((rd_T30 l0 t739).f0), .int .i64 ((rd_T30 l0 t739).f1), .int .i64 a2, .int .i64 ((rd_T30 l0 t739).f3), .int .i64 ((rd_T30 l0 t739).f4), .int .i64 ((rd_T30 l0 t739).f5)]) ?_ 4 _ rfl; (with_reducible repeat (first | refine blk_drewN ?_ _ | refine blk_drew ?_ | refine blk_alloc ?_ _)); exact BK749.out))⟩; have n2_ : Aside0 (Below w.heap.size w w34) := ⟨(by rw [hw]; exact (by repeat (first | (with_reducible first | exact HB.out | apply below_alloc | apply pw_below_drewN | apply below_drew1 | refine below_set ?_ GE749.out) | exact HB.out)))⟩; clear hw; clear HO745; clear BK749; clear HB; have HO745 := n0_; have BK749 := n1_; have HB := n2_; clear n0_ n1_ n2_; have p25 : 0 ≤ (t739 : Int) := of_decide_eq_true (by first | (with_reducible assumption) | assumption); have q25 : (t739 : Int) < ((t743.length : Int) : Int) := of_decide_eq_true (by first | (with_reducible assumption) | assumption); obtain ⟨go25, co25, eo25, gb25, gl25, cl25, HG25⟩ := Kd.R_form HO745.out (by omega); (first | cases eo25 | (injection eo25 with ea_ en_ ec_; (first | subst ea_ | (injection ea_ with ea_; subst ea_)); subst ec_; clear en_)); have GB25 := Aside0.mk gb25; have GG25 := Aside0.mk HG25; clear gb25 gl25 HG25; obtain ⟨ce25, hcl25, hM25, hcc25, hfr25⟩ := Kd.R_elem HO745.out z30 (t739 : Int) p25 q25; obtain rfl := k30_openM hM25; have hx25_0 : w34.cell? ⟨go25, (t739 : Int).toNat * 6, none⟩ = some (.int .i64 ((rd_T30 t743 t739).f0)) := hcc25 0 _ rfl; have hx25_1 : w34.cell? ⟨go25, (t739 : Int).toNat * 6 + 1, none⟩ = some (.int .i64 ((rd_T30 t743 t739).f1)) := hcc25 1 _ rfl; have hx25_2 : w34.cell? ⟨go25, (t739 : Int).toNat * 6 + 2, none⟩ = some (.int .i64 ((rd_T30 t743 t739).f2)) := hcc25 2 _ rfl; have hx25_3 : w34.cell? ⟨go25, (t739 : Int).toNat * 6 + 3, none⟩ = some (.int .i64 ((rd_T30 t743 t739).f3)) := hcc25 3 _ rfl; have hx25_4 : w34.cell? ⟨go25, (t739 : Int).toNat * 6 + 4, none⟩ = some (.int .i64 ((rd_T30 t743 t739).f4)) := hcc25 4 _ rfl; have hx25_5 : w34.cell? ⟨go25, (t739 : Int).toNat * 6 + 5, none⟩ = some (.int .i64 ((rd_T30 t743 t739).f5)) := hcc25 5 _ rfl; have hf25_0 : w34.frozen? ⟨go25, (t739 : Int).toNat * 6, none⟩ = false := hfr25 0; have hf25_1 : w34.frozen? ⟨go25, (t739 : Int).toNat * 6 + 1, none⟩ = false := hfr25 1; have hf25_2 : w34.frozen? ⟨go25, (t739 : Int).toNat * 6 + 2, none⟩ = false := hfr25 2; have hf25_3 : w34.frozen? ⟨go25, (t739 : Int).toNat * 6 + 3, none⟩ = false := hfr25 3; have hf25_4 : w34.frozen? ⟨go25, (t739 : Int).toNat * 6 + 4, none⟩ = false := hfr25 4; have hf25_5 : w34.frozen? ⟨go25, (t739 : Int).toNat * 6 + 5, none⟩ = false := hfr25 5; clear hcl25 hcc25 hfr25 hM25; replace p25 := eq_true p25; replace q25 := eq_true q25; have HX35 := Aside0.mk (show Kd.R k30 30 w34 w.heap.size (fun k_ => k_ ≠ gb749) (.slice (some ⟨go25, 0, none⟩) t743.length co25) t743 from (by (with_reducible repeat (first | apply Kd.R_alloc | apply Kd.R_drewN | apply Kd.R_drew)); exact HO745.out)); obtain ⟨ce35, hcl35, hM35, hcc35, hfr35⟩ := Kd.R_elem HX35.out z30 (t739 : Int) (of_decide_eq_true (by first | (with_reducible assumption) | assumption)) (by have h_ : (t739 : Int) < ((t743.length : Int) : Int) := of_decide_eq_true (by first | (with_reducible assumption) | assumption); first | exact h_ | (have e_ := (Kd.R_reads' HO745.out).1; omega) | simpa using h_); obtain rfl := k30_openM hM35; have HP35 := Kd.R_seg HX35.out (t739 : Int) (of_decide_eq_true (by first | (with_reducible assumption) | assumption)) (by have h_ : (t739 : Int) < ((t743.length : Int) : Int) := of_decide_eq_true (by first | (with_reducible assumption) | assumption); first | exact h_ | (have e_ := (Kd.R_reads' HO745.out).1; omega) | simpa using h_) (seg := [.int .i64 a3]) (j := 5) hcl35 hcc35 (show 6 ≤ 6 from by decide) (x' := (⟨(rd_T30 t743 t739).f0, (rd_T30 t743 t739).f1, (rd_T30 t743 t739).f2, (rd_T30 t743 t739).f3, (rd_T30 t743 t739).f4, a3⟩ : S30)) (k30_mkM _ _ _ (⟨(rd_T30 t743 t739).f0, (rd_T30 t743 t739).f1, (rd_T30 t743 t739).f2, (rd_T30 t743 t739).f3, (rd_T30 t743 t739).f4, a3⟩ : S30) ) (fun _ hk => hk); have hx35_5 := hcc35 5 _ rfl; (try simp only [show (k30).sz = 6 from rfl, Nat.mul_one, Nat.add_zero] at hx35_5); have hf35_5 := hfr35 5; (try simp only [show (k30).sz = 6 from rfl, Nat.mul_one, Nat.add_zero] at hf35_5); clear hcl35 hcc35 hfr35 hM35) | ((with_reducible refine gate_store (t := 3) (p := 70) rfl ?_); refine store_event (t := 3) (p := 70) (v := ?vo_w36) (w1 := (w34.setCell ⟨go25, (t739 : Int).toNat * 6 + 5, none⟩ (.int .i64 a3))) ?hg ?ho ?hn ?hr ?_; (case ho => rfl); (case hg => rfl); (case hn => rfl); (case hr => first | (go_simp; done) | (go_simp; rfl)); intro w36 hw; have hg : w34.grownBy w36 (some go25) := (by rw [hw]; exact HP35.2); have hp_ : Kd.R k30 30 w36 w.heap.size (fun k_ => k_ ≠ gb749) (.slice (some ⟨go25, 0, none⟩) t743.length co25) y750 := (by rw [hw, Ny750.out]; exact HP35.1); clear HP35; have n0_ := Aside0.mk (hp_); have n1_ := Aside0.mk (blk_grown (g := gb749) (o := .cells #[.int .i64 ((rd_T30 l0 t739).f0), .int .i64 ((rd_T30 l0 t739).f1), .int .i64 a2, .int .i64 ((rd_T30 l0 t739).f3), .int .i64 a3, .int .i64 ((rd_T30 l0 t739).f5)] 30 (0, 0)) (by (with_reducible repeat (first | refine blk_drewN ?_ _ | refine blk_drew ?_ | refine blk_alloc ?_ _)); exact BK749.out) hg (Kd.R_away HO745.out (fun _ hk => hk))); have n2_ := Aside0.mk ((by rw [hw]; exact below_set (HB.out) GB25.out : Below w.heap.size w w36)); clear HO745; clear BK749; clear HB; have HO745 := n0_; have BK749 := n1_; have HB := n2_; clear n0_ n1_ n2_; clear hg hw hp_; have hcz37_0 : w36.cell? ⟨gb749, 0, none⟩ = some (.int .i64 ((rd_T30 l0 t739).f0)) := (blk_cell BK749.out 0).trans rfl; have hcz37_1 : w36.cell? ⟨gb749, 1, none⟩ = some (.int .i64 ((rd_T30 l0 t739).f1)) := (blk_cell BK749.out 1).trans rfl; have hcz37_2 : w36.cell? ⟨gb749, 2, none⟩ = some (.int .i64 a2) := (blk_cell BK749.out 2).trans rfl; have hcz37_3 : w36.cell? ⟨gb749, 3, none⟩ = some (.int .i64 ((rd_T30 l0 t739).f3)) := (blk_cell BK749.out 3).trans rfl; have hcz37_4 : w36.cell? ⟨gb749, 4, none⟩ = some (.int .i64 a3) := (blk_cell BK749.out 4).trans rfl; have hcz37_5 : w36.cell? ⟨gb749, 5, none⟩ = some (.int .i64 ((rd_T30 l0 t739).f5)) := (blk_cell BK749.out 5).trans rfl; have hfz37_0 := blk_frozen BK749.out 0; have hfz37_1 := blk_frozen BK749.out 1; have hfz37_2 := blk_frozen BK749.out 2; have hfz37_3 := blk_frozen BK749.out 3; have hfz37_4 := blk_frozen BK749.out 4; have hfz37_5 := blk_frozen BK749.out 5) | ((with_reducible refine gate_callee (f := 58) rfl ?_); refine goesL_ (some 73) rfl rfl Try.func58 (by kernel_rfl) rfl #[.slice (some ⟨go25, 0, none⟩) y750.length co25, .agg #[.int .i64 ((rd_T30 l0 t739).f0), .int .i64 ((rd_T30 l0 t739).f1), .int .i64 a2, .int .i64 ((rd_T30 l0 t739).f3), .int .i64 a3, .int .i64 ((rd_T30 l0 t739).f5)]] rfl (by (try simp only [List.map_toArray, List.map_cons, List.map_nil]); first | done | (rw [show y750.length = t743.length from (Kd.R_reads' HO745.out).1.symm] <;> rfl) | rfl | (simp only [List.length_drop, List.length_take]; rfl)) ?_; (with_reducible refine (impl_issued.calls kj5 _ _ y750 ((rd_T30 l0 t739).f0) ((rd_T30 l0 t739).f1) a2 ((rd_T30 l0 t739).f3) a3 ((rd_T30 l0 t739).f5) t751 t754 t755 _ ?side1 ?side2 A26.out).mono ?_); (case side1 => repeat (first | exact (Kd.R_reads' HO745.out).2.2 | (with_reducible refine Kd.C_alloc ?_ _) | (with_reducible refine Kd.C_drewN ?_ _) | (with_reducible refine Kd.C_drew ?_))); (case side2 => rw [show y750.length = t743.length from (Kd.R_reads' HO745.out).1.symm]; exact (Kd.R_reads' HO745.out).2.1); rintro e w38 ⟨v752, rfl, ho0, hb⟩; refine ⟨_, rfl, ?_⟩; have n0_ := Aside0.mk (Kd.R_elder' (by (with_reducible repeat (first | apply Kd.R_alloc | apply Kd.R_drewN | apply Kd.R_drew)); exact HO745.out) (Kd.R_base ho0) hb); have n1_ := Aside0.mk (Kd.R_lower (Kd.R_newB (Kd.R_new' ho0 (Kd.R_lt (by (with_reducible repeat (first | apply Kd.R_alloc | apply Kd.R_drewN | apply Kd.R_drew)); exact HO745.out))) (g := gb749) (o := .cells #[.int .i64 ((rd_T30 l0 t739).f0), .int .i64 ((rd_T30 l0 t739).f1), .int .i64 a2, .int .i64 ((rd_T30 l0 t739).f3), .int .i64 a3, .int .i64 ((rd_T30 l0 t739).f5)] 30 (0, 0)) (by (with_reducible repeat (first | refine blk_drewN ?_ _ | refine blk_drew ?_ | refine blk_alloc ?_ _)); exact BK749.out)) (below_size (by repeat (first | (with_reducible first | exact HB.out | apply below_alloc | apply pw_below_drewN | apply below_drew1 | refine below_set ?_ GE749.out) | exact HB.out)))); have n2_ := Aside0.mk (blk_below (g := gb749) (o := .cells #[.int .i64 ((rd_T30 l0 t739).f0), .int .i64 ((rd_T30 l0 t739).f1), .int .i64 a2, .int .i64 ((rd_T30 l0 t739).f3), .int .i64 a3, .int .i64 ((rd_T30 l0 t739).f5)] 30 (0, 0)) (by (with_reducible repeat (first | refine blk_drewN ?_ _ | refine blk_drew ?_ | refine blk_alloc ?_ _)); exact BK749.out) hb); have n3_ := Aside0.mk (below_step (by repeat (first | (with_reducible first | exact HB.out | apply below_alloc | apply pw_below_drewN | apply below_drew1 | refine below_set ?_ GE749.out) | exact HB.out)) hb); clear HO745; clear BK749; clear HB; have HO745 := n0_; have HO753 := n1_; have BK749 := n2_; have HB := n3_; clear n0_ n1_ n2_ n3_; (try clear hb); (try clear hb2); (try clear hk); (try clear hi); (try clear ho0)))
        go_ret3
        exact ⟨_, by first | rfl | (simp [errW_none, errW_some] <;> rfl) | (simp [*, errW_none, errW_some] <;> rfl), by (with_reducible repeat (first | apply Kd.R_alloc | apply Kd.R_drewN | apply Kd.R_drew)); exact Kd.R_mono HO753.out (fun _ hk => trivial), by repeat (first | (with_reducible first | exact HB.out | apply below_alloc | apply pw_below_drewN | apply below_drew1 | refine below_set ?_ GE749.out) | exact HB.out)⟩
       ·
        rw [if_neg c24] at H
        exact absurd H (by simp)
     ·
      rw [if_neg c17] at H
      exact absurd H (by simp)
    ·
     rw [if_neg c16] at H
     exact absurd H (by simp)

end Go.Proofs.Ythmkgdlmegohoaa.Q
