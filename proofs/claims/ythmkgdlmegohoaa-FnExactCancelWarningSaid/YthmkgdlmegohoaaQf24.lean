-- Printed by a program of this session (wip/tools/seatprint.py) that runs over the kit's print.
import Derived.Test.YthmkgdlmegohoaaQ0
import Derived.Test.YthmkgdlmegohoaaQf57
import Derived.Test.YthmkgdlmegohoaaQf63
import Derived.Test.YthmkgdlmegohoaaQf66
namespace Go.Proofs.Ythmkgdlmegohoaa.Q
open Go.RowKit Go.Proofs.YthmkgdlmegohoaaW.PrintWords Go.Proofs.YthmkgdlmegohoaaW.PrintLast Go.Proofs.YthmkgdlmegohoaaW.PrintMore
attribute [local go_sem] max2_int min2_int max_two min_two max_three min_three max_four min_four   -- for this text's walks alone
set_option linter.unusedVariables false
set_option linter.unusedSimpArgs false

/-! ### impl_CancelWarning: function 24 -/
def impl_CancelWarning.j0 : Nat → List (S30) → Int → Int → Bool → Option ((List (S30)) × Bool)
 | 0, _, _, _, _ => none
 | k + 1, x0, x2, x8, x23 => if x23 = true then (some (([] : List (S30)), false)) else ((impl_Warning_64.f x0).bind fun t385 => (if 0 ≤ x8 then (if x8 < (x0.length : Int) then (if x2 ≤ ((rd_T30 x0 x8).f4) then ((impl_Warning_66.f t385 x8 (wrap64 (x8 + 1))).bind fun t389 => (some (t389, true))) else (if x8 < (t385.length : Int) then (some ((t385.set (x8 : Int).toNat (⟨(rd_T30 t385 x8).f0, (rd_T30 t385 x8).f1, (rd_T30 t385 x8).f2, (rd_T30 t385 x8).f3, (rd_T30 t385 x8).f4, x2⟩ : S30)), true)) else (none))) else (none)) else (none)))
def impl_CancelWarning.f (k : Nat) (l0 : List (S30)) (a1 : Int) (a2 : Int) : Option ((List (S30)) × Bool) := (impl_warningAt.f k l0 a1).bind fun t383 => (if t383 < 0 then (impl_CancelWarning.j0 k l0 a2 t383 true) else (if 0 ≤ t383 then (if t383 < (l0.length : Int) then (impl_CancelWarning.j0 k l0 a2 t383 (decide (a2 ≥ ((rd_T30 l0 t383).f5)))) else (none)) else (none)))
theorem impl_CancelWarning.mono_l : ∀ k, (∀ y0 y1 y2 y3, LeO (impl_CancelWarning.j0 k y0 y1 y2 y3) (impl_CancelWarning.j0 (k + 1) y0 y1 y2 y3))
 | 0 => fun _ _ _ _ r h => by simp [impl_CancelWarning.j0] at h
 | k + 1 => by
  have ih0 := impl_CancelWarning.mono_l k
  ·
   intro y0 y1 y2 y3
   unfold impl_CancelWarning.j0
   repeat' first
   | (with_reducible exact ih0 _ _ _ _)
   | (with_reducible exact impl_warningAt.mono _ _ _)
   | (with_reducible exact LeO.refl _)
   | (with_reducible exact LeO.none _)
   | (with_reducible refine LeO.ite ?_ ?_)
   | (with_reducible refine LeO.bind ?_ (fun _ => ?_))
   | exact ih0 _ _ _ _
   | exact impl_warningAt.mono _ _ _
   | exact LeO.none _
   | refine LeO.ite ?_ ?_
   | refine LeO.bind ?_ (fun _ => ?_)
theorem impl_CancelWarning.mono : ∀ a0 a1 a2 k, LeO (impl_CancelWarning.f k a0 a1 a2) (impl_CancelWarning.f (k + 1) a0 a1 a2) := by
 intro a0 a1 a2 k
 have ih0 := impl_CancelWarning.mono_l k
 unfold impl_CancelWarning.f
 repeat' first
   | (with_reducible exact ih0 _ _ _ _)
   | (with_reducible exact impl_warningAt.mono _ _ _)
   | (with_reducible exact LeO.refl _)
   | (with_reducible exact LeO.none _)
   | (with_reducible refine LeO.ite ?_ ?_)
   | (with_reducible refine LeO.bind ?_ (fun _ => ?_))
   | exact ih0 _ _ _ _
   | exact impl_warningAt.mono _ _ _
   | exact LeO.none _
   | refine LeO.ite ?_ ?_
   | refine LeO.bind ?_ (fun _ => ?_)
set_option maxHeartbeats 8000000 in
set_option maxRecDepth 100000 in
theorem impl_CancelWarning.calls (k : Nat) (A0 : Option Addr) (c0 : Nat) (l0 : List (S30)) (a1 : Int) (a2 : Int) (r1 : List (S30)) (r2 : Bool) (w : World) (hr0 : Kd.C k30 w A0 l0.length l0) (hc0 : l0.length ≤ c0) (h : impl_CancelWarning.f k l0 a1 a2 = some (r1, r2)) :
  Calls Try.prog 24 #[.slice A0 l0.length c0, .int .i64 a1, .int .i64 a2] w fun e w' => ∃ v0_ : Value, e = .returned (.tuple #[v0_, .bool r2]) ∧ Kd.R k30 30 w' w.heap.size (fun _ => True) v0_ r1 ∧ Below w.heap.size w w' := by
 have HR0 := Aside0.mk hr0
 have HC0 := Aside0.mk hc0
 clear hr0 hc0
 have HB := Aside0.mk (Below.refl w.heap.size w)
 have H : ((impl_warningAt.f k l0 a1).bind fun t383 => (if t383 < 0 then (impl_CancelWarning.j0 k l0 a2 t383 true) else (if 0 ≤ t383 then (if t383 < (l0.length : Int) then (impl_CancelWarning.j0 k l0 a2 t383 (decide (a2 ≥ ((rd_T30 l0 t383).f5)))) else (none)) else (none)))) = some (r1, r2) := h
 clear h
 replace H := Option.bind_eq_some_iff.mp H
 obtain ⟨t383, A40, H⟩ := H
 replace H : (if t383 < 0 then (impl_CancelWarning.j0 k l0 a2 t383 true) else (if 0 ≤ t383 then (if t383 < (l0.length : Int) then (impl_CancelWarning.j0 k l0 a2 t383 (decide (a2 ≥ ((rd_T30 l0 t383).f5)))) else (none)) else (none))) = some (r1, r2) := H
 have A4 := Aside0.mk A40
 clear A40
 have HC5 := Aside0.mk H
 clear H
 go_enter Try.func24, Try.ntmps24
 go_upto_region 2 with (first | ((with_reducible refine gate_callee (f := 63) rfl ?_); refine goesL_ (some 12) rfl rfl Try.func63 (by kernel_rfl) rfl #[.slice A0 l0.length c0, .int .i64 a1] rfl (by (try simp only [List.map_toArray, List.map_cons, List.map_nil]); first | done | rfl | (simp only [List.length_drop, List.length_take]; rfl)) ?_; (with_reducible refine (impl_warningAt.calls k _ _ l0 a1 t383 _ ?side1 ?side2 A4.out).mono ?_); (case side1 => repeat (first | exact HR0.out | (with_reducible refine Kd.C_alloc ?_ _) | (with_reducible refine Kd.C_drewN ?_ _) | (with_reducible refine Kd.C_drew ?_))); (case side2 => exact HC0.out); rintro e w6 ⟨rfl, hb⟩; refine ⟨_, rfl, ?_⟩; have n0_ := Aside0.mk (below_step (by repeat (first | (with_reducible first | exact HB.out | apply below_alloc | apply pw_below_drewN | apply below_drew1) | exact HB.out)) hb); clear HB; have HB := n0_; clear n0_; (try clear hb); (try clear hb2); (try clear hk); (try clear hi)))
 (try simp only [Act.put, List.setIfInBounds_toArray, List.set_cons_zero, List.set_cons_succ])
 go_cut [23] (fun v23 wc => ∃ (kq : Nat) (x23_4 : Bool), v23 = .bool x23_4 ∧ Aside0 (impl_CancelWarning.j0 kq l0 a2 t383 x23_4 = some (r1, r2)) ∧ Aside0 (kq ≤ k) ∧ Aside0 (Below w.heap.size w wc))
 case first =>
  have H := HC5.out
  clear HC5
  by_cases c7 : t383 < 0
  ·
   rw [if_pos c7] at H
   have c7b0 : decide (t383 < 0) = true := decide_eq_true c7
   clear c7
   (first | rw [c7b0] | (simp only [i64_w, i32_w]; rw [c7b0]) | skip)
   have H' := Aside0.mk H
   clear H
   go_wp2
   go_meet
   case rel => exact ⟨_, (true), (by first | rfl | (simp; done) | (simp [*]; done)), H', ⟨by first | omega | exact Nat.le_refl _⟩, ⟨by repeat (first | (with_reducible first | exact HB.out | apply below_alloc | apply pw_below_drewN | apply below_drew1) | exact HB.out)⟩⟩
  ·
   rw [if_neg c7] at H
   have c7b0 : decide (t383 < 0) = false := decide_eq_false c7
   clear c7
   (first | rw [c7b0] | (simp only [i64_w, i32_w]; rw [c7b0]) | skip)
   by_cases c8 : 0 ≤ t383
   ·
    rw [if_pos c8] at H
    have c8b0 : decide (0 ≤ t383) = true := decide_eq_true c8
    clear c8
    by_cases c9 : t383 < (l0.length : Int)
    ·
     rw [if_pos c9] at H
     have c9b0 : decide (t383 < (l0.length : Int)) = true := decide_eq_true c9
     clear c9
     have H' := Aside0.mk H
     clear H
     have p384 : 0 ≤ (t383 : Int) := of_decide_eq_true (by first | (with_reducible assumption) | assumption)
     have q384 : t383 < (l0.length : Int) := of_decide_eq_true (by first | (with_reducible assumption) | assumption)
     obtain ⟨ad384, e384, hx384_0, hx384_1, hx384_2, hx384_3, hx384_4, hx384_5⟩ := at_T30 HR0.out t383 p384 q384
     cases e384
     replace hx384_0 := (HB.out.cell (World.block_lt_of_cell? w _ hx384_0)).trans hx384_0
     replace hx384_1 := (HB.out.cell (World.block_lt_of_cell? w _ hx384_1)).trans hx384_1
     replace hx384_2 := (HB.out.cell (World.block_lt_of_cell? w _ hx384_2)).trans hx384_2
     replace hx384_3 := (HB.out.cell (World.block_lt_of_cell? w _ hx384_3)).trans hx384_3
     replace hx384_4 := (HB.out.cell (World.block_lt_of_cell? w _ hx384_4)).trans hx384_4
     replace hx384_5 := (HB.out.cell (World.block_lt_of_cell? w _ hx384_5)).trans hx384_5
     replace p384 := eq_true p384
     replace q384 := eq_true q384
     go_wp2
     go_meet
     case rel => exact ⟨_, (decide (a2 ≥ ((rd_T30 l0 t383).f5))), (by first | rfl | (simp; done) | (simp [*]; done)), H', ⟨by first | omega | exact Nat.le_refl _⟩, ⟨by repeat (first | (with_reducible first | exact HB.out | apply below_alloc | apply pw_below_drewN | apply below_drew1) | exact HB.out)⟩⟩
    ·
     rw [if_neg c9] at H
     exact absurd H (by simp)
   ·
    rw [if_neg c8] at H
    exact absurd H (by simp)
 case rest =>
  clear HC5
  try clear c2
  try clear p2
  try clear p3
  try clear q3
  try clear hx3
  try clear c6
  try clear c7
  try clear c7b0
  try clear c8
  try clear c8b0
  try clear c9
  try clear c9b0
  try clear hx384_0
  try clear hx384_1
  try clear hx384_2
  try clear hx384_3
  try clear hx384_4
  try clear hx384_5
  try clear p384
  try clear q384
  obtain ⟨kq, x23_4, rfl, HA, HJ4, HB⟩ := hcut
  cases kq with
  | zero => exact absurd HA.out (by simp [impl_CancelWarning.j0])
  | succ kj4 =>
   have H := HA.out
   clear HA
   simp only [impl_CancelWarning.j0] at H
   by_cases c10 : x23_4 = true
   ·
    subst c10
    have H1 : (some (([] : List (S30)), false)) = some (r1, r2) := by rw [if_pos rfl] at H; exact H
    clear H
    have H := H1
    clear H1
    simp only [Option.some.injEq, Prod.mk.injEq] at H
    obtain ⟨rfl, rfl⟩ := H
    go_wp2
    go_ret2
    exact ⟨_, by first | rfl | (simp [errW_none, errW_some] <;> rfl) | (simp [*, errW_none, errW_some] <;> rfl), by first | exact Kd.R_nil _ _ _ _ _ | exact Kd.N_nil _ _ _ _ _ | exact Kd.V_nil _ _ _ _ _ | exact Kd.Q_nil _ _ _ _ _ | exact Kd.S_nil _ _ _ _ _, by repeat (first | (with_reducible first | exact HB.out | apply below_alloc | apply pw_below_drewN | apply below_drew1) | exact HB.out)⟩
   ·
    replace c10 := Bool.eq_false_iff.mpr c10
    subst c10
    have H1 : ((impl_Warning_64.f l0).bind fun t385 => (if 0 ≤ t383 then (if t383 < (l0.length : Int) then (if a2 ≤ ((rd_T30 l0 t383).f4) then ((impl_Warning_66.f t385 t383 (wrap64 (t383 + 1))).bind fun t389 => (some (t389, true))) else (if t383 < (t385.length : Int) then (some ((t385.set (t383 : Int).toNat (⟨(rd_T30 t385 t383).f0, (rd_T30 t385 t383).f1, (rd_T30 t385 t383).f2, (rd_T30 t385 t383).f3, (rd_T30 t385 t383).f4, a2⟩ : S30)), true)) else (none))) else (none)) else (none))) = some (r1, r2) := by rw [if_neg (show ¬ (false = true) by decide)] at H; exact H
    clear H
    have H := H1
    clear H1
    replace H := Option.bind_eq_some_iff.mp H
    obtain ⟨t385, A110, H⟩ := H
    replace H : (if 0 ≤ t383 then (if t383 < (l0.length : Int) then (if a2 ≤ ((rd_T30 l0 t383).f4) then ((impl_Warning_66.f t385 t383 (wrap64 (t383 + 1))).bind fun t389 => (some (t389, true))) else (if t383 < (t385.length : Int) then (some ((t385.set (t383 : Int).toNat (⟨(rd_T30 t385 t383).f0, (rd_T30 t385 t383).f1, (rd_T30 t385 t383).f2, (rd_T30 t385 t383).f3, (rd_T30 t385 t383).f4, a2⟩ : S30)), true)) else (none))) else (none)) else (none)) = some (r1, r2) := H
    have A11 := Aside0.mk A110
    clear A110
    by_cases c12 : 0 ≤ t383
    ·
     rw [if_pos c12] at H
     have c12b0 : decide (0 ≤ t383) = true := decide_eq_true c12
     clear c12
     by_cases c13 : t383 < (l0.length : Int)
     ·
      rw [if_pos c13] at H
      have c13b0 : decide (t383 < (l0.length : Int)) = true := decide_eq_true c13
      clear c13
      by_cases c14 : a2 ≤ ((rd_T30 l0 t383).f4)
      ·
       rw [if_pos c14] at H
       have c14b0 : decide (a2 ≤ ((rd_T30 l0 t383).f4)) = true := decide_eq_true c14
       clear c14
       replace H := Option.bind_eq_some_iff.mp H
       obtain ⟨t389, A150, H⟩ := H
       replace H : (some (t389, true)) = some (r1, r2) := H
       have A15 := Aside0.mk A150
       clear A150
       simp only [Option.some.injEq, Prod.mk.injEq] at H
       obtain ⟨rfl, rfl⟩ := H
       go_wp2_with (first | ((with_reducible refine gate_callee (f := 64) rfl ?_); refine goesL_ (some 25) rfl rfl Try.func64 (by kernel_rfl) rfl #[.slice A0 l0.length c0] rfl (by (try simp only [List.map_toArray, List.map_cons, List.map_nil]); first | done | rfl | (simp only [List.length_drop, List.length_take]; rfl)) ?_; (with_reducible refine (impl_Warning_64.calls _ _ l0 t385 _ ?side1 ?side2 A11.out).mono ?_); (case side1 => repeat (first | exact (Kd.C_below HR0.out HB.out) | (with_reducible refine Kd.C_alloc ?_ _) | (with_reducible refine Kd.C_drewN ?_ _) | (with_reducible refine Kd.C_drew ?_))); (case side2 => exact HC0.out); rintro e w16 ⟨v386, rfl, ho0, hb⟩; refine ⟨_, rfl, ?_⟩; have n0_ := Aside0.mk (Kd.R_lower ho0 (below_size (by repeat (first | (with_reducible first | exact HB.out | apply below_alloc | apply pw_below_drewN | apply below_drew1) | exact HB.out)))); have n1_ := Aside0.mk (below_step (by repeat (first | (with_reducible first | exact HB.out | apply below_alloc | apply pw_below_drewN | apply below_drew1) | exact HB.out)) hb); clear HB; have HO387 := n0_; have HB := n1_; clear n0_ n1_; (try clear hb); (try clear hb2); (try clear hk); (try clear hi); (try clear ho0); have p388 : 0 ≤ (t383 : Int) := of_decide_eq_true (by first | (with_reducible assumption) | assumption); have q388 : t383 < (l0.length : Int) := of_decide_eq_true (by first | (with_reducible assumption) | assumption); obtain ⟨ad388, e388, hx388_0, hx388_1, hx388_2, hx388_3, hx388_4, hx388_5⟩ := at_T30 HR0.out t383 p388 q388; cases e388; replace hx388_0 := (HB.out.cell (World.block_lt_of_cell? w _ hx388_0)).trans hx388_0; replace hx388_1 := (HB.out.cell (World.block_lt_of_cell? w _ hx388_1)).trans hx388_1; replace hx388_2 := (HB.out.cell (World.block_lt_of_cell? w _ hx388_2)).trans hx388_2; replace hx388_3 := (HB.out.cell (World.block_lt_of_cell? w _ hx388_3)).trans hx388_3; replace hx388_4 := (HB.out.cell (World.block_lt_of_cell? w _ hx388_4)).trans hx388_4; replace hx388_5 := (HB.out.cell (World.block_lt_of_cell? w _ hx388_5)).trans hx388_5; replace p388 := eq_true p388; replace q388 := eq_true q388; obtain ⟨Ao17, co17, eo17⟩ := Kd.R_slice HO387.out; subst eo17) | ((with_reducible refine gate_callee (f := 66) rfl ?_); refine goesL_ (some 37) rfl rfl Try.func66 (by kernel_rfl) rfl #[.slice Ao17 t385.length co17, .int .i64 t383, .int .i64 (wrap64 (t383 + 1))] rfl (by (try simp only [List.map_toArray, List.map_cons, List.map_nil]); first | done | rfl | (simp only [List.length_drop, List.length_take]; rfl)) ?_; (with_reducible refine (impl_Warning_66.calls (fun k_ => some k_ = (.slice Ao17 t385.length co17 : Value).ownBlock) (.slice Ao17 t385.length co17) t385 t383 (wrap64 (t383 + 1)) t389 w _ ?side1 ?side2 A15.out).mono ?_); (case side1 => repeat (first | (with_reducible first | exact HB.out | apply below_alloc | apply pw_below_drewN | apply below_drew1) | exact HB.out)); (case side2 => exact Kd.R_tight rfl HO387.out); rintro e w18 ⟨v390, rfl, ho0, hb, hkp⟩; refine ⟨_, rfl, ?_⟩; have n0_ := Aside0.mk (Kd.R_mono (ok' := fun k_ => True) ho0 (fun k_ hk_ => trivial)); have n1_ := Aside0.mk (hb); clear HB; clear HO387; have HO391 := n0_; have HB := n1_; clear n0_ n1_; (try clear hb); (try clear hkp); (try clear ho0)))
       go_ret2
       exact ⟨_, by first | rfl | (simp [errW_none, errW_some] <;> rfl) | (simp [*, errW_none, errW_some] <;> rfl), by (with_reducible repeat (first | apply Kd.R_alloc | apply Kd.R_drewN | apply Kd.R_drew)); exact HO391.out, by repeat (first | (with_reducible first | exact HB.out | apply below_alloc | apply pw_below_drewN | apply below_drew1) | exact HB.out)⟩
      ·
       rw [if_neg c14] at H
       have c14b0 : decide (a2 ≤ ((rd_T30 l0 t383).f4)) = false := decide_eq_false c14
       clear c14
       by_cases c19 : t383 < (t385.length : Int)
       ·
        rw [if_pos c19] at H
        have c19b0 : decide (t383 < (t385.length : Int)) = true := decide_eq_true c19
        clear c19
        obtain ⟨y392, hy392⟩ : ∃ y_ : List (S30), y_ = (t385.set (t383 : Int).toNat (⟨(rd_T30 t385 t383).f0, (rd_T30 t385 t383).f1, (rd_T30 t385 t383).f2, (rd_T30 t385 t383).f3, (rd_T30 t385 t383).f4, a2⟩ : S30)) := ⟨_, rfl⟩
        replace H : (some (y392, true)) = some (r1, r2) := by first | (rw [hy392]; with_reducible exact H) | (have H2_ := (Option.bind_some _ _).symm.trans H; rw [hy392]; with_reducible exact H2_) | (have H2_ := (Option.bind_some _ _).symm.trans H; with_reducible exact H2_) | with_reducible exact H | (rw [hy392]; exact H) | exact H
        have Ny392 := Aside0.mk hy392
        clear hy392
        simp only [Option.some.injEq, Prod.mk.injEq] at H
        obtain ⟨rfl, rfl⟩ := H
        go_wp2_with (first | ((with_reducible refine gate_callee (f := 64) rfl ?_); refine goesL_ (some 25) rfl rfl Try.func64 (by kernel_rfl) rfl #[.slice A0 l0.length c0] rfl (by (try simp only [List.map_toArray, List.map_cons, List.map_nil]); first | done | rfl | (simp only [List.length_drop, List.length_take]; rfl)) ?_; (with_reducible refine (impl_Warning_64.calls _ _ l0 t385 _ ?side1 ?side2 A11.out).mono ?_); (case side1 => repeat (first | exact (Kd.C_below HR0.out HB.out) | (with_reducible refine Kd.C_alloc ?_ _) | (with_reducible refine Kd.C_drewN ?_ _) | (with_reducible refine Kd.C_drew ?_))); (case side2 => exact HC0.out); rintro e w21 ⟨v386, rfl, ho0, hb⟩; refine ⟨_, rfl, ?_⟩; have n0_ := Aside0.mk (Kd.R_lower ho0 (below_size (by repeat (first | (with_reducible first | exact HB.out | apply below_alloc | apply pw_below_drewN | apply below_drew1) | exact HB.out)))); have n1_ := Aside0.mk (below_step (by repeat (first | (with_reducible first | exact HB.out | apply below_alloc | apply pw_below_drewN | apply below_drew1) | exact HB.out)) hb); clear HB; have HO387 := n0_; have HB := n1_; clear n0_ n1_; (try clear hb); (try clear hb2); (try clear hk); (try clear hi); (try clear ho0); have p388 : 0 ≤ (t383 : Int) := of_decide_eq_true (by first | (with_reducible assumption) | assumption); have q388 : t383 < (l0.length : Int) := of_decide_eq_true (by first | (with_reducible assumption) | assumption); obtain ⟨ad388, e388, hx388_0, hx388_1, hx388_2, hx388_3, hx388_4, hx388_5⟩ := at_T30 HR0.out t383 p388 q388; cases e388; replace hx388_0 := (HB.out.cell (World.block_lt_of_cell? w _ hx388_0)).trans hx388_0; replace hx388_1 := (HB.out.cell (World.block_lt_of_cell? w _ hx388_1)).trans hx388_1; replace hx388_2 := (HB.out.cell (World.block_lt_of_cell? w _ hx388_2)).trans hx388_2; replace hx388_3 := (HB.out.cell (World.block_lt_of_cell? w _ hx388_3)).trans hx388_3; replace hx388_4 := (HB.out.cell (World.block_lt_of_cell? w _ hx388_4)).trans hx388_4; replace hx388_5 := (HB.out.cell (World.block_lt_of_cell? w _ hx388_5)).trans hx388_5; replace p388 := eq_true p388; replace q388 := eq_true q388; have p20 : 0 ≤ (t383 : Int) := of_decide_eq_true (by first | (with_reducible assumption) | assumption); have q20 : (t383 : Int) < ((t385.length : Int) : Int) := of_decide_eq_true (by first | (with_reducible assumption) | assumption); obtain ⟨go20, co20, eo20, gb20, gl20, cl20, HG20⟩ := Kd.R_form HO387.out (by omega); (first | cases eo20 | (injection eo20 with ea_ en_ ec_; (first | subst ea_ | (injection ea_ with ea_; subst ea_)); subst ec_; clear en_)); have GB20 := Aside0.mk gb20; have GG20 := Aside0.mk HG20; clear gb20 gl20 HG20; obtain ⟨ce20, hcl20, hM20, hcc20, hfr20⟩ := Kd.R_elem HO387.out z30 (t383 : Int) p20 q20; obtain rfl := k30_openM hM20; have hx20_0 : w21.cell? ⟨go20, (t383 : Int).toNat * 6, none⟩ = some (.int .i64 ((rd_T30 t385 t383).f0)) := hcc20 0 _ rfl; have hx20_1 : w21.cell? ⟨go20, (t383 : Int).toNat * 6 + 1, none⟩ = some (.int .i64 ((rd_T30 t385 t383).f1)) := hcc20 1 _ rfl; have hx20_2 : w21.cell? ⟨go20, (t383 : Int).toNat * 6 + 2, none⟩ = some (.int .i64 ((rd_T30 t385 t383).f2)) := hcc20 2 _ rfl; have hx20_3 : w21.cell? ⟨go20, (t383 : Int).toNat * 6 + 3, none⟩ = some (.int .i64 ((rd_T30 t385 t383).f3)) := hcc20 3 _ rfl; have hx20_4 : w21.cell? ⟨go20, (t383 : Int).toNat * 6 + 4, none⟩ = some (.int .i64 ((rd_T30 t385 t383).f4)) := hcc20 4 _ rfl; have hx20_5 : w21.cell? ⟨go20, (t383 : Int).toNat * 6 + 5, none⟩ = some (.int .i64 ((rd_T30 t385 t383).f5)) := hcc20 5 _ rfl; have hf20_0 : w21.frozen? ⟨go20, (t383 : Int).toNat * 6, none⟩ = false := hfr20 0; have hf20_1 : w21.frozen? ⟨go20, (t383 : Int).toNat * 6 + 1, none⟩ = false := hfr20 1; have hf20_2 : w21.frozen? ⟨go20, (t383 : Int).toNat * 6 + 2, none⟩ = false := hfr20 2; have hf20_3 : w21.frozen? ⟨go20, (t383 : Int).toNat * 6 + 3, none⟩ = false := hfr20 3; have hf20_4 : w21.frozen? ⟨go20, (t383 : Int).toNat * 6 + 4, none⟩ = false := hfr20 4; have hf20_5 : w21.frozen? ⟨go20, (t383 : Int).toNat * 6 + 5, none⟩ = false := hfr20 5; clear hcl20 hcc20 hfr20 hM20; replace p20 := eq_true p20; replace q20 := eq_true q20; have HX22 := Aside0.mk (show Kd.R k30 30 w21 w.heap.size (fun _ => True) (.slice (some ⟨go20, 0, none⟩) t385.length co20) t385 from (by (with_reducible repeat (first | apply Kd.R_alloc | apply Kd.R_drewN | apply Kd.R_drew)); exact HO387.out)); obtain ⟨ce22, hcl22, hM22, hcc22, hfr22⟩ := Kd.R_elem HX22.out z30 (t383 : Int) (of_decide_eq_true (by first | (with_reducible assumption) | assumption)) (by have h_ : (t383 : Int) < ((t385.length : Int) : Int) := of_decide_eq_true (by first | (with_reducible assumption) | assumption); first | exact h_ | (have e_ := (Kd.R_reads' HO387.out).1; omega) | simpa using h_); obtain rfl := k30_openM hM22; have HP22 := Kd.R_seg HX22.out (t383 : Int) (of_decide_eq_true (by first | (with_reducible assumption) | assumption)) (by have h_ : (t383 : Int) < ((t385.length : Int) : Int) := of_decide_eq_true (by first | (with_reducible assumption) | assumption); first | exact h_ | (have e_ := (Kd.R_reads' HO387.out).1; omega) | simpa using h_) (seg := [.int .i64 a2]) (j := 5) hcl22 hcc22 (show 6 ≤ 6 from by decide) (x' := (⟨(rd_T30 t385 t383).f0, (rd_T30 t385 t383).f1, (rd_T30 t385 t383).f2, (rd_T30 t385 t383).f3, (rd_T30 t385 t383).f4, a2⟩ : S30)) (k30_mkM _ _ _ (⟨(rd_T30 t385 t383).f0, (rd_T30 t385 t383).f1, (rd_T30 t385 t383).f2, (rd_T30 t385 t383).f3, (rd_T30 t385 t383).f4, a2⟩ : S30) ) (fun _ hk => hk); have hx22_5 := hcc22 5 _ rfl; (try simp only [show (k30).sz = 6 from rfl, Nat.mul_one, Nat.add_zero] at hx22_5); have hf22_5 := hfr22 5; (try simp only [show (k30).sz = 6 from rfl, Nat.mul_one, Nat.add_zero] at hf22_5); clear hcl22 hcc22 hfr22 hM22) | ((with_reducible refine gate_store (t := 3) (p := 42) rfl ?_); refine store_event (t := 3) (p := 42) (v := ?vo_w23) (w1 := (w21.setCell ⟨go20, (t383 : Int).toNat * 6 + 5, none⟩ (.int .i64 a2))) ?hg ?ho ?hn ?hr ?_; (case ho => rfl); (case hg => rfl); (case hn => rfl); (case hr => first | (go_simp; done) | (go_simp; rfl)); intro w23 hw; have hg : w21.grownBy w23 (some go20) := (by rw [hw]; exact HP22.2); have hp_ : Kd.R k30 30 w23 w.heap.size (fun _ => True) (.slice (some ⟨go20, 0, none⟩) t385.length co20) y392 := (by rw [hw, Ny392.out]; exact HP22.1); clear HP22; have n0_ := Aside0.mk (hp_); have n1_ := Aside0.mk ((by rw [hw]; exact below_set (HB.out) GB20.out : Below w.heap.size w w23)); clear HO387; clear HB; have HO387 := n0_; have HB := n1_; clear n0_ n1_; clear hg hw hp_))
        go_ret2
        exact ⟨_, by first | rfl | (simp [errW_none, errW_some] <;> rfl) | (simp [*, errW_none, errW_some] <;> rfl), by (with_reducible repeat (first | apply Kd.R_alloc | apply Kd.R_drewN | apply Kd.R_drew)); exact HO387.out, by repeat (first | (with_reducible first | exact HB.out | apply below_alloc | apply pw_below_drewN | apply below_drew1) | exact HB.out)⟩
       ·
        rw [if_neg c19] at H
        exact absurd H (by simp)
     ·
      rw [if_neg c13] at H
      exact absurd H (by simp)
    ·
     rw [if_neg c12] at H
     exact absurd H (by simp)

end Go.Proofs.Ythmkgdlmegohoaa.Q
