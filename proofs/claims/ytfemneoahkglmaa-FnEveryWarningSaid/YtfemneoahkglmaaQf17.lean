-- Printed by a program of this session (wip/tools/seatprint.py) that runs over the kit's print.
import Derived.Test.YtfemneoahkglmaaQ0
import Derived.Test.YtfemneoahkglmaaQf9
import Derived.Test.YtfemneoahkglmaaQf27
import Derived.Test.YtfemneoahkglmaaQf42
namespace Go.Proofs.Ytfemneoahkglmaa.Q
open Go.RowKit Go.Proofs.YtfemneoahkglmaaW.PrintWords Go.Proofs.YtfemneoahkglmaaW.PrintLast Go.Proofs.YtfemneoahkglmaaW.PrintMore
attribute [local go_sem] max2_int min2_int max_two min_two max_three min_three max_four min_four   -- for this text's walks alone
set_option linter.unusedVariables false
set_option linter.unusedSimpArgs false

/-! ### impl_CancelWarning: function 17 -/
def impl_CancelWarning.j0 : Nat → List (S37) → Int → Int → Bool → Option ((List (S37)) × Bool)
 | 0, _, _, _, _ => none
 | k + 1, x0, x2, x8, x23 => if x23 = true then (some (([] : List (S37)), false)) else ((impl_Warning_25.f x0).bind fun t479 => (if 0 ≤ x8 then (if x8 < (x0.length : Int) then (if x2 ≤ ((rd_T37 x0 x8).f4) then ((impl_Warning_27.f t479 x8 (wrap64 (x8 + 1))).bind fun t483 => (some (t483, true))) else (if x8 < (t479.length : Int) then (some ((t479.set (x8 : Int).toNat (⟨(rd_T37 t479 x8).f0, (rd_T37 t479 x8).f1, (rd_T37 t479 x8).f2, (rd_T37 t479 x8).f3, (rd_T37 t479 x8).f4, x2⟩ : S37)), true)) else (none))) else (none)) else (none)))
def impl_CancelWarning.f (k : Nat) (l0 : List (S37)) (a1 : Int) (a2 : Int) : Option ((List (S37)) × Bool) := (impl_warningAt.f k l0 a1).bind fun t477 => (if t477 < 0 then (impl_CancelWarning.j0 k l0 a2 t477 true) else (if 0 ≤ t477 then (if t477 < (l0.length : Int) then (impl_CancelWarning.j0 k l0 a2 t477 (decide (a2 ≥ ((rd_T37 l0 t477).f5)))) else (none)) else (none)))
theorem impl_CancelWarning.mono_l : ∀ k, (∀ y0 y1 y2 y3, LeO (impl_CancelWarning.j0 k y0 y1 y2 y3) (impl_CancelWarning.j0 (k + 1) y0 y1 y2 y3))
 | 0 => fun _ _ _ _ r h => by simp [impl_CancelWarning.j0] at h
 | k + 1 => by
  have ih0 := impl_CancelWarning.mono_l k
  ·
   intro y0 y1 y2 y3
   unfold impl_CancelWarning.j0
   repeat' first
   | (with_reducible exact ih0 _ _ _ _)
   | (with_reducible exact impl_warningAt.mono _ _ _)
   | (with_reducible exact LeO.refl _)
   | (with_reducible exact LeO.none _)
   | (with_reducible refine LeO.ite ?_ ?_)
   | (with_reducible refine LeO.bind ?_ (fun _ => ?_))
   | exact ih0 _ _ _ _
   | exact impl_warningAt.mono _ _ _
   | exact LeO.none _
   | refine LeO.ite ?_ ?_
   | refine LeO.bind ?_ (fun _ => ?_)
theorem impl_CancelWarning.mono : ∀ a0 a1 a2 k, LeO (impl_CancelWarning.f k a0 a1 a2) (impl_CancelWarning.f (k + 1) a0 a1 a2) := by
 intro a0 a1 a2 k
 have ih0 := impl_CancelWarning.mono_l k
 unfold impl_CancelWarning.f
 repeat' first
   | (with_reducible exact ih0 _ _ _ _)
   | (with_reducible exact impl_warningAt.mono _ _ _)
   | (with_reducible exact LeO.refl _)
   | (with_reducible exact LeO.none _)
   | (with_reducible refine LeO.ite ?_ ?_)
   | (with_reducible refine LeO.bind ?_ (fun _ => ?_))
   | exact ih0 _ _ _ _
   | exact impl_warningAt.mono _ _ _
   | exact LeO.none _
   | refine LeO.ite ?_ ?_
   | refine LeO.bind ?_ (fun _ => ?_)
set_option maxHeartbeats 8000000 in
set_option maxRecDepth 100000 in
theorem impl_CancelWarning.calls (k : Nat) (A0 : Option Addr) (c0 : Nat) (l0 : List (S37)) (a1 : Int) (a2 : Int) (r1 : List (S37)) (r2 : Bool) (w : World) (hr0 : Kd.C k37 w A0 l0.length l0) (hc0 : l0.length ≤ c0) (h : impl_CancelWarning.f k l0 a1 a2 = some (r1, r2)) :
  Calls Try.prog 17 #[.slice A0 l0.length c0, .int .i64 a1, .int .i64 a2] w fun e w' => ∃ v0_ : Value, e = .returned (.tuple #[v0_, .bool r2]) ∧ Kd.R k37 37 w' w.heap.size (fun _ => True) v0_ r1 ∧ Below w.heap.size w w' := by
 have HR0 := Aside0.mk hr0
 have HC0 := Aside0.mk hc0
 clear hr0 hc0
 have HB := Aside0.mk (Below.refl w.heap.size w)
 have H : ((impl_warningAt.f k l0 a1).bind fun t477 => (if t477 < 0 then (impl_CancelWarning.j0 k l0 a2 t477 true) else (if 0 ≤ t477 then (if t477 < (l0.length : Int) then (impl_CancelWarning.j0 k l0 a2 t477 (decide (a2 ≥ ((rd_T37 l0 t477).f5)))) else (none)) else (none)))) = some (r1, r2) := h
 clear h
 replace H := Option.bind_eq_some_iff.mp H
 obtain ⟨t477, A40, H⟩ := H
 replace H : (if t477 < 0 then (impl_CancelWarning.j0 k l0 a2 t477 true) else (if 0 ≤ t477 then (if t477 < (l0.length : Int) then (impl_CancelWarning.j0 k l0 a2 t477 (decide (a2 ≥ ((rd_T37 l0 t477).f5)))) else (none)) else (none))) = some (r1, r2) := H
 have A4 := Aside0.mk A40
 clear A40
 have HC5 := Aside0.mk H
 clear H
 go_enter Try.func17, Try.ntmps17
 go_upto_region 2 with (first | ((with_reducible refine gate_callee (f := 44) rfl ?_); refine goesL_ (some 12) rfl rfl Try.func44 (by kernel_rfl) rfl #[.slice A0 l0.length c0, .int .i64 a1] rfl (by (try simp only [List.map_toArray, List.map_cons, List.map_nil]); first | done | rfl | (simp only [List.length_drop, List.length_take]; rfl)) ?_; (with_reducible refine (impl_warningAt.calls k _ _ l0 a1 t477 _ ?side1 ?side2 A4.out).mono ?_); (case side1 => repeat (first | exact HR0.out | (with_reducible refine Kd.C_alloc ?_ _) | (with_reducible refine Kd.C_drewN ?_ _) | (with_reducible refine Kd.C_drew ?_))); (case side2 => exact HC0.out); rintro e w6 ⟨rfl, hb⟩; refine ⟨_, rfl, ?_⟩; have n0_ := Aside0.mk (below_step (by repeat (first | (with_reducible first | exact HB.out | apply below_alloc | apply pw_below_drewN | apply below_drew1) | exact HB.out)) hb); clear HB; have HB := n0_; clear n0_; (try clear hb); (try clear hb2); (try clear hk); (try clear hi)))
 (try simp only [Act.put, List.setIfInBounds_toArray, List.set_cons_zero, List.set_cons_succ])
 go_cut [23] (fun v23 wc => ∃ (kq : Nat) (x23_4 : Bool), v23 = .bool x23_4 ∧ Aside0 (impl_CancelWarning.j0 kq l0 a2 t477 x23_4 = some (r1, r2)) ∧ Aside0 (kq ≤ k) ∧ Aside0 (Below w.heap.size w wc))
 case first =>
  have H := HC5.out
  clear HC5
  by_cases c7 : t477 < 0
  ·
   rw [if_pos c7] at H
   have c7b0 : decide (t477 < 0) = true := decide_eq_true c7
   clear c7
   (first | rw [c7b0] | (simp only [i64_w, i32_w]; rw [c7b0]) | skip)
   have H' := Aside0.mk H
   clear H
   go_wp2
   go_meet
   case rel => exact ⟨_, (true), (by first | rfl | (simp; done) | (simp [*]; done)), H', ⟨by first | omega | exact Nat.le_refl _⟩, ⟨by repeat (first | (with_reducible first | exact HB.out | apply below_alloc | apply pw_below_drewN | apply below_drew1) | exact HB.out)⟩⟩
  ·
   rw [if_neg c7] at H
   have c7b0 : decide (t477 < 0) = false := decide_eq_false c7
   clear c7
   (first | rw [c7b0] | (simp only [i64_w, i32_w]; rw [c7b0]) | skip)
   by_cases c8 : 0 ≤ t477
   ·
    rw [if_pos c8] at H
    have c8b0 : decide (0 ≤ t477) = true := decide_eq_true c8
    clear c8
    by_cases c9 : t477 < (l0.length : Int)
    ·
     rw [if_pos c9] at H
     have c9b0 : decide (t477 < (l0.length : Int)) = true := decide_eq_true c9
     clear c9
     have H' := Aside0.mk H
     clear H
     have p478 : 0 ≤ (t477 : Int) := of_decide_eq_true (by first | (with_reducible assumption) | assumption)
     have q478 : t477 < (l0.length : Int) := of_decide_eq_true (by first | (with_reducible assumption) | assumption)
     obtain ⟨ad478, e478, hx478_0, hx478_1, hx478_2, hx478_3, hx478_4, hx478_5⟩ := at_T37 HR0.out t477 p478 q478
     cases e478
     replace hx478_0 := (HB.out.cell (World.block_lt_of_cell? w _ hx478_0)).trans hx478_0
     replace hx478_1 := (HB.out.cell (World.block_lt_of_cell? w _ hx478_1)).trans hx478_1
     replace hx478_2 := (HB.out.cell (World.block_lt_of_cell? w _ hx478_2)).trans hx478_2
     replace hx478_3 := (HB.out.cell (World.block_lt_of_cell? w _ hx478_3)).trans hx478_3
     replace hx478_4 := (HB.out.cell (World.block_lt_of_cell? w _ hx478_4)).trans hx478_4
     replace hx478_5 := (HB.out.cell (World.block_lt_of_cell? w _ hx478_5)).trans hx478_5
     replace p478 := eq_true p478
     replace q478 := eq_true q478
     go_wp2
     go_meet
     case rel => exact ⟨_, (decide (a2 ≥ ((rd_T37 l0 t477).f5))), (by first | rfl | (simp; done) | (simp [*]; done)), H', ⟨by first | omega | exact Nat.le_refl _⟩, ⟨by repeat (first | (with_reducible first | exact HB.out | apply below_alloc | apply pw_below_drewN | apply below_drew1) | exact HB.out)⟩⟩
    ·
     rw [if_neg c9] at H
     exact absurd H (by simp)
   ·
    rw [if_neg c8] at H
    exact absurd H (by simp)
 case rest =>
  clear HC5
  try clear c1
  try clear p2
  try clear c4
  try clear p4
  try clear q4
  try clear hx4
  try clear c7
  try clear c7b0
  try clear c8
  try clear c8b0
  try clear c9
  try clear c9b0
  try clear hx478_0
  try clear hx478_1
  try clear hx478_2
  try clear hx478_3
  try clear hx478_4
  try clear hx478_5
  try clear p478
  try clear q478
  obtain ⟨kq, x23_4, rfl, HA, HJ4, HB⟩ := hcut
  cases kq with
  | zero => exact absurd HA.out (by simp [impl_CancelWarning.j0])
  | succ kj4 =>
   have H := HA.out
   clear HA
   simp only [impl_CancelWarning.j0] at H
   by_cases c10 : x23_4 = true
   ·
    subst c10
    have H1 : (some (([] : List (S37)), false)) = some (r1, r2) := by rw [if_pos rfl] at H; exact H
    clear H
    have H := H1
    clear H1
    simp only [Option.some.injEq, Prod.mk.injEq] at H
    obtain ⟨rfl, rfl⟩ := H
    go_wp2
    go_ret2
    exact ⟨_, by first | rfl | (simp [errW_none, errW_some] <;> rfl) | (simp [*, errW_none, errW_some] <;> rfl), by first | exact Kd.R_nil _ _ _ _ _ | exact Kd.N_nil _ _ _ _ _ | exact Kd.V_nil _ _ _ _ _ | exact Kd.Q_nil _ _ _ _ _ | exact Kd.S_nil _ _ _ _ _, by repeat (first | (with_reducible first | exact HB.out | apply below_alloc | apply pw_below_drewN | apply below_drew1) | exact HB.out)⟩
   ·
    replace c10 := Bool.eq_false_iff.mpr c10
    subst c10
    have H1 : ((impl_Warning_25.f l0).bind fun t479 => (if 0 ≤ t477 then (if t477 < (l0.length : Int) then (if a2 ≤ ((rd_T37 l0 t477).f4) then ((impl_Warning_27.f t479 t477 (wrap64 (t477 + 1))).bind fun t483 => (some (t483, true))) else (if t477 < (t479.length : Int) then (some ((t479.set (t477 : Int).toNat (⟨(rd_T37 t479 t477).f0, (rd_T37 t479 t477).f1, (rd_T37 t479 t477).f2, (rd_T37 t479 t477).f3, (rd_T37 t479 t477).f4, a2⟩ : S37)), true)) else (none))) else (none)) else (none))) = some (r1, r2) := by rw [if_neg (show ¬ (false = true) by decide)] at H; exact H
    clear H
    have H := H1
    clear H1
    replace H := Option.bind_eq_some_iff.mp H
    obtain ⟨t479, A110, H⟩ := H
    replace H : (if 0 ≤ t477 then (if t477 < (l0.length : Int) then (if a2 ≤ ((rd_T37 l0 t477).f4) then ((impl_Warning_27.f t479 t477 (wrap64 (t477 + 1))).bind fun t483 => (some (t483, true))) else (if t477 < (t479.length : Int) then (some ((t479.set (t477 : Int).toNat (⟨(rd_T37 t479 t477).f0, (rd_T37 t479 t477).f1, (rd_T37 t479 t477).f2, (rd_T37 t479 t477).f3, (rd_T37 t479 t477).f4, a2⟩ : S37)), true)) else (none))) else (none)) else (none)) = some (r1, r2) := H
    have A11 := Aside0.mk A110
    clear A110
    by_cases c12 : 0 ≤ t477
    ·
     rw [if_pos c12] at H
     have c12b0 : decide (0 ≤ t477) = true := decide_eq_true c12
     clear c12
     by_cases c13 : t477 < (l0.length : Int)
     ·
      rw [if_pos c13] at H
      have c13b0 : decide (t477 < (l0.length : Int)) = true := decide_eq_true c13
      clear c13
      by_cases c14 : a2 ≤ ((rd_T37 l0 t477).f4)
      ·
       rw [if_pos c14] at H
       have c14b0 : decide (a2 ≤ ((rd_T37 l0 t477).f4)) = true := decide_eq_true c14
       clear c14
       replace H := Option.bind_eq_some_iff.mp H
       obtain ⟨t483, A150, H⟩ := H
       replace H : (some (t483, true)) = some (r1, r2) := H
       have A15 := Aside0.mk A150
       clear A150
       simp only [Option.some.injEq, Prod.mk.injEq] at H
       obtain ⟨rfl, rfl⟩ := H
       go_wp2_with (first | ((with_reducible refine gate_callee (f := 25) rfl ?_); refine goesL_ (some 25) rfl rfl Try.func25 (by kernel_rfl) rfl #[.slice A0 l0.length c0] rfl (by (try simp only [List.map_toArray, List.map_cons, List.map_nil]); first | done | rfl | (simp only [List.length_drop, List.length_take]; rfl)) ?_; (with_reducible refine (impl_Warning_25.calls _ _ l0 t479 _ ?side1 ?side2 A11.out).mono ?_); (case side1 => repeat (first | exact (Kd.C_below HR0.out HB.out) | (with_reducible refine Kd.C_alloc ?_ _) | (with_reducible refine Kd.C_drewN ?_ _) | (with_reducible refine Kd.C_drew ?_))); (case side2 => exact HC0.out); rintro e w16 ⟨v480, rfl, ho0, hb⟩; refine ⟨_, rfl, ?_⟩; have n0_ := Aside0.mk (Kd.R_lower ho0 (below_size (by repeat (first | (with_reducible first | exact HB.out | apply below_alloc | apply pw_below_drewN | apply below_drew1) | exact HB.out)))); have n1_ := Aside0.mk (below_step (by repeat (first | (with_reducible first | exact HB.out | apply below_alloc | apply pw_below_drewN | apply below_drew1) | exact HB.out)) hb); clear HB; have HO481 := n0_; have HB := n1_; clear n0_ n1_; (try clear hb); (try clear hb2); (try clear hk); (try clear hi); (try clear ho0); have p482 : 0 ≤ (t477 : Int) := of_decide_eq_true (by first | (with_reducible assumption) | assumption); have q482 : t477 < (l0.length : Int) := of_decide_eq_true (by first | (with_reducible assumption) | assumption); obtain ⟨ad482, e482, hx482_0, hx482_1, hx482_2, hx482_3, hx482_4, hx482_5⟩ := at_T37 HR0.out t477 p482 q482; cases e482; replace hx482_0 := (HB.out.cell (World.block_lt_of_cell? w _ hx482_0)).trans hx482_0; replace hx482_1 := (HB.out.cell (World.block_lt_of_cell? w _ hx482_1)).trans hx482_1; replace hx482_2 := (HB.out.cell (World.block_lt_of_cell? w _ hx482_2)).trans hx482_2; replace hx482_3 := (HB.out.cell (World.block_lt_of_cell? w _ hx482_3)).trans hx482_3; replace hx482_4 := (HB.out.cell (World.block_lt_of_cell? w _ hx482_4)).trans hx482_4; replace hx482_5 := (HB.out.cell (World.block_lt_of_cell? w _ hx482_5)).trans hx482_5; replace p482 := eq_true p482; replace q482 := eq_true q482; obtain ⟨Ao17, co17, eo17⟩ := Kd.R_slice HO481.out; subst eo17) | ((with_reducible refine gate_callee (f := 27) rfl ?_); refine goesL_ (some 37) rfl rfl Try.func27 (by kernel_rfl) rfl #[.slice Ao17 t479.length co17, .int .i64 t477, .int .i64 (wrap64 (t477 + 1))] rfl (by (try simp only [List.map_toArray, List.map_cons, List.map_nil]); first | done | rfl | (simp only [List.length_drop, List.length_take]; rfl)) ?_; (with_reducible refine (impl_Warning_27.calls (fun k_ => some k_ = (.slice Ao17 t479.length co17 : Value).ownBlock) (.slice Ao17 t479.length co17) t479 t477 (wrap64 (t477 + 1)) t483 w _ ?side1 ?side2 A15.out).mono ?_); (case side1 => repeat (first | (with_reducible first | exact HB.out | apply below_alloc | apply pw_below_drewN | apply below_drew1) | exact HB.out)); (case side2 => exact Kd.R_tight rfl HO481.out); rintro e w18 ⟨v484, rfl, ho0, hb, hkp⟩; refine ⟨_, rfl, ?_⟩; have n0_ := Aside0.mk (Kd.R_mono (ok' := fun k_ => True) ho0 (fun k_ hk_ => trivial)); have n1_ := Aside0.mk (hb); clear HB; clear HO481; have HO485 := n0_; have HB := n1_; clear n0_ n1_; (try clear hb); (try clear hkp); (try clear ho0)))
       go_ret2
       exact ⟨_, by first | rfl | (simp [errW_none, errW_some] <;> rfl) | (simp [*, errW_none, errW_some] <;> rfl), by (with_reducible repeat (first | apply Kd.R_alloc | apply Kd.R_drewN | apply Kd.R_drew)); exact HO485.out, by repeat (first | (with_reducible first | exact HB.out | apply below_alloc | apply pw_below_drewN | apply below_drew1) | exact HB.out)⟩
      ·
       rw [if_neg c14] at H
       have c14b0 : decide (a2 ≤ ((rd_T37 l0 t477).f4)) = false := decide_eq_false c14
       clear c14
       by_cases c19 : t477 < (t479.length : Int)
       ·
        rw [if_pos c19] at H
        have c19b0 : decide (t477 < (t479.length : Int)) = true := decide_eq_true c19
        clear c19
        obtain ⟨y486, hy486⟩ : ∃ y_ : List (S37), y_ = (t479.set (t477 : Int).toNat (⟨(rd_T37 t479 t477).f0, (rd_T37 t479 t477).f1, (rd_T37 t479 t477).f2, (rd_T37 t479 t477).f3, (rd_T37 t479 t477).f4, a2⟩ : S37)) := ⟨_, rfl⟩
        replace H : (some (y486, true)) = some (r1, r2) := by first | (rw [hy486]; with_reducible exact H) | (have H2_ := (Option.bind_some _ _).symm.trans H; rw [hy486]; with_reducible exact H2_) | (have H2_ := (Option.bind_some _ _).symm.trans H; with_reducible exact H2_) | with_reducible exact H | (rw [hy486]; exact H) | exact H
        have Ny486 := Aside0.mk hy486
        clear hy486
        simp only [Option.some.injEq, Prod.mk.injEq] at H
        obtain ⟨rfl, rfl⟩ := H
        go_wp2_with (first | ((with_reducible refine gate_callee (f := 25) rfl ?_); refine goesL_ (some 25) rfl rfl Try.func25 (by kernel_rfl) rfl #[.slice A0 l0.length c0] rfl (by (try simp only [List.map_toArray, List.map_cons, List.map_nil]); first | done | rfl | (simp only [List.length_drop, List.length_take]; rfl)) ?_; (with_reducible refine (impl_Warning_25.calls _ _ l0 t479 _ ?side1 ?side2 A11.out).mono ?_); (case side1 => repeat (first | exact (Kd.C_below HR0.out HB.out) | (with_reducible refine Kd.C_alloc ?_ _) | (with_reducible refine Kd.C_drewN ?_ _) | (with_reducible refine Kd.C_drew ?_))); (case side2 => exact HC0.out); rintro e w21 ⟨v480, rfl, ho0, hb⟩; refine ⟨_, rfl, ?_⟩; have n0_ := Aside0.mk (Kd.R_lower ho0 (below_size (by repeat (first | (with_reducible first | exact HB.out | apply below_alloc | apply pw_below_drewN | apply below_drew1) | exact HB.out)))); have n1_ := Aside0.mk (below_step (by repeat (first | (with_reducible first | exact HB.out | apply below_alloc | apply pw_below_drewN | apply below_drew1) | exact HB.out)) hb); clear HB; have HO481 := n0_; have HB := n1_; clear n0_ n1_; (try clear hb); (try clear hb2); (try clear hk); (try clear hi); (try clear ho0); have p482 : 0 ≤ (t477 : Int) := of_decide_eq_true (by first | (with_reducible assumption) | assumption); have q482 : t477 < (l0.length : Int) := of_decide_eq_true (by first | (with_reducible assumption) | assumption); obtain ⟨ad482, e482, hx482_0, hx482_1, hx482_2, hx482_3, hx482_4, hx482_5⟩ := at_T37 HR0.out t477 p482 q482; cases e482; replace hx482_0 := (HB.out.cell (World.block_lt_of_cell? w _ hx482_0)).trans hx482_0; replace hx482_1 := (HB.out.cell (World.block_lt_of_cell? w _ hx482_1)).trans hx482_1; replace hx482_2 := (HB.out.cell (World.block_lt_of_cell? w _ hx482_2)).trans hx482_2; replace hx482_3 := (HB.out.cell (World.block_lt_of_cell? w _ hx482_3)).trans hx482_3; replace hx482_4 := (HB.out.cell (World.block_lt_of_cell? w _ hx482_4)).trans hx482_4; replace hx482_5 := (HB.out.cell (World.block_lt_of_cell? w _ hx482_5)).trans hx482_5; replace p482 := eq_true p482; replace q482 := eq_true q482; have p20 : 0 ≤ (t477 : Int) := of_decide_eq_true (by first | (with_reducible assumption) | assumption); have q20 : (t477 : Int) < ((t479.length : Int) : Int) := of_decide_eq_true (by first | (with_reducible assumption) | assumption); obtain ⟨go20, co20, eo20, gb20, gl20, cl20, HG20⟩ := Kd.R_form HO481.out (by omega); (first | cases eo20 | (injection eo20 with ea_ en_ ec_; (first | subst ea_ | (injection ea_ with ea_; subst ea_)); subst ec_; clear en_)); have GB20 := Aside0.mk gb20; have GG20 := Aside0.mk HG20; clear gb20 gl20 HG20; obtain ⟨ce20, hcl20, hM20, hcc20, hfr20⟩ := Kd.R_elem HO481.out z37 (t477 : Int) p20 q20; obtain rfl := k37_openM hM20; have hx20_0 : w21.cell? ⟨go20, (t477 : Int).toNat * 6, none⟩ = some (.int .i64 ((rd_T37 t479 t477).f0)) := hcc20 0 _ rfl; have hx20_1 : w21.cell? ⟨go20, (t477 : Int).toNat * 6 + 1, none⟩ = some (.int .i64 ((rd_T37 t479 t477).f1)) := hcc20 1 _ rfl; have hx20_2 : w21.cell? ⟨go20, (t477 : Int).toNat * 6 + 2, none⟩ = some (.int .i64 ((rd_T37 t479 t477).f2)) := hcc20 2 _ rfl; have hx20_3 : w21.cell? ⟨go20, (t477 : Int).toNat * 6 + 3, none⟩ = some (.int .i64 ((rd_T37 t479 t477).f3)) := hcc20 3 _ rfl; have hx20_4 : w21.cell? ⟨go20, (t477 : Int).toNat * 6 + 4, none⟩ = some (.int .i64 ((rd_T37 t479 t477).f4)) := hcc20 4 _ rfl; have hx20_5 : w21.cell? ⟨go20, (t477 : Int).toNat * 6 + 5, none⟩ = some (.int .i64 ((rd_T37 t479 t477).f5)) := hcc20 5 _ rfl; have hf20_0 : w21.frozen? ⟨go20, (t477 : Int).toNat * 6, none⟩ = false := hfr20 0; have hf20_1 : w21.frozen? ⟨go20, (t477 : Int).toNat * 6 + 1, none⟩ = false := hfr20 1; have hf20_2 : w21.frozen? ⟨go20, (t477 : Int).toNat * 6 + 2, none⟩ = false := hfr20 2; have hf20_3 : w21.frozen? ⟨go20, (t477 : Int).toNat * 6 + 3, none⟩ = false := hfr20 3; have hf20_4 : w21.frozen? ⟨go20, (t477 : Int).toNat * 6 + 4, none⟩ = false := hfr20 4; have hf20_5 : w21.frozen? ⟨go20, (t477 : Int).toNat * 6 + 5, none⟩ = false := hfr20 5; clear hcl20 hcc20 hfr20 hM20; replace p20 := eq_true p20; replace q20 := eq_true q20; have HX22 := Aside0.mk (show Kd.R k37 37 w21 w.heap.size (fun _ => True) (.slice (some ⟨go20, 0, none⟩) t479.length co20) t479 from (by (with_reducible repeat (first | apply Kd.R_alloc | apply Kd.R_drewN | apply Kd.R_drew)); exact HO481.out)); obtain ⟨ce22, hcl22, hM22, hcc22, hfr22⟩ := Kd.R_elem HX22.out z37 (t477 : Int) (of_decide_eq_true (by first | (with_reducible assumption) | assumption)) (by have h_ : (t477 : Int) < ((t479.length : Int) : Int) := of_decide_eq_true (by first | (with_reducible assumption) | assumption); first | exact h_ | (have e_ := (Kd.R_reads' HO481.out).1; omega) | simpa using h_); obtain rfl := k37_openM hM22; have HP22 := Kd.R_seg HX22.out (t477 : Int) (of_decide_eq_true (by first | (with_reducible assumption) | assumption)) (by have h_ : (t477 : Int) < ((t479.length : Int) : Int) := of_decide_eq_true (by first | (with_reducible assumption) | assumption); first | exact h_ | (have e_ := (Kd.R_reads' HO481.out).1; omega) | simpa using h_) (seg := [.int .i64 a2]) (j := 5) hcl22 hcc22 (show 6 ≤ 6 from by decide) (x' := (⟨(rd_T37 t479 t477).f0, (rd_T37 t479 t477).f1, (rd_T37 t479 t477).f2, (rd_T37 t479 t477).f3, (rd_T37 t479 t477).f4, a2⟩ : S37)) (k37_mkM _ _ _ (⟨(rd_T37 t479 t477).f0, (rd_T37 t479 t477).f1, (rd_T37 t479 t477).f2, (rd_T37 t479 t477).f3, (rd_T37 t479 t477).f4, a2⟩ : S37) ) (fun _ hk => hk); have hx22_5 := hcc22 5 _ rfl; (try simp only [show (k37).sz = 6 from rfl, Nat.mul_one, Nat.add_zero] at hx22_5); have hf22_5 := hfr22 5; (try simp only [show (k37).sz = 6 from rfl, Nat.mul_one, Nat.add_zero] at hf22_5); clear hcl22 hcc22 hfr22 hM22) | ((with_reducible refine gate_store (t := 3) (p := 42) rfl ?_); refine store_event (t := 3) (p := 42) (v := ?vo_w23) (w1 := (w21.setCell ⟨go20, (t477 : Int).toNat * 6 + 5, none⟩ (.int .i64 a2))) ?hg ?ho ?hn ?hr ?_; (case ho => rfl); (case hg => rfl); (case hn => rfl); (case hr => first | (go_simp; done) | (go_simp; rfl)); intro w23 hw; have hg : w21.grownBy w23 (some go20) := (by rw [hw]; exact HP22.2); have hp_ : Kd.R k37 37 w23 w.heap.size (fun _ => True) (.slice (some ⟨go20, 0, none⟩) t479.length co20) y486 := (by rw [hw, Ny486.out]; exact HP22.1); clear HP22; have n0_ := Aside0.mk (hp_); have n1_ := Aside0.mk ((by rw [hw]; exact below_set (HB.out) GB20.out : Below w.heap.size w w23)); clear HO481; clear HB; have HO481 := n0_; have HB := n1_; clear n0_ n1_; clear hg hw hp_))
        go_ret2
        exact ⟨_, by first | rfl | (simp [errW_none, errW_some] <;> rfl) | (simp [*, errW_none, errW_some] <;> rfl), by (with_reducible repeat (first | apply Kd.R_alloc | apply Kd.R_drewN | apply Kd.R_drew)); exact HO481.out, by repeat (first | (with_reducible first | exact HB.out | apply below_alloc | apply pw_below_drewN | apply below_drew1) | exact HB.out)⟩
       ·
        rw [if_neg c19] at H
        exact absurd H (by simp)
     ·
      rw [if_neg c13] at H
      exact absurd H (by simp)
    ·
     rw [if_neg c12] at H
     exact absurd H (by simp)

end Go.Proofs.Ytfemneoahkglmaa.Q
