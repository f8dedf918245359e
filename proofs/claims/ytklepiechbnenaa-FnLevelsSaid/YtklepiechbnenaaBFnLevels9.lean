/- Texts of this seat, put together: Qf17. -/
import Derived.Test.YtklepiechbnenaaZFnLevels
import Derived.Test.YtklepiechbnenaaBFnLevels0
import Derived.Test.YtklepiechbnenaaBFnLevels1
import Derived.Test.YtklepiechbnenaaBFnLevels4
import Derived.Test.YtklepiechbnenaaBFnLevels6
import Derived.Test.YtklepiechbnenaaBFnLevels8
namespace Go.Proofs.Ytklepiechbnenaa.Q
open Go.RowKit Go.Proofs.YtklepiechbnenaaW.PrintWords Go.Proofs.YtklepiechbnenaaW.PrintLast Go.Proofs.YtklepiechbnenaaW.PrintMore
attribute [local go_sem] max2_int min2_int max_two min_two max_three min_three max_four min_four   -- for this text's walks alone
set_option linter.unusedVariables false
set_option linter.unusedSimpArgs false

/-! ### spec_CancelWarning: function 17 -/
def spec_CancelWarning.j0 : Nat → List (S31) → Int → Int → Bool → Option ((List (S31)) × Bool)
 | 0, _, _, _, _ => none
 | k + 1, x0, x2, x8, x28 => if x28 = true then (some ((([] : List (S31))), false)) else (if 0 ≤ x8 then (if x8 < (x0.length : Int) then (if x2 ≤ ((rd_T31 x0 x8).f4) then ((some (([] : List (S31)) : List (S31))).bind fun y415 => (if x8 ≤ (x0.length : Int) then ((some (x0.take (x8 : Int).toNat : List (S31))).bind fun y418 => (if y415.length + y418.length < 2932031007402 then ((some (y415 ++ y418 : List (S31))).bind fun y422 => (if 0 ≤ (wrap64 (x8 + 1)) then (if (wrap64 (x8 + 1)) ≤ (x0.length : Int) then ((some (x0.drop ((wrap64 (x8 + 1)) : Int).toNat : List (S31))).bind fun y425 => (if y422.length + y425.length < 2932031007402 then (some ((y422 ++ y425), true)) else (none))) else (none)) else (none))) else (none))) else (none))) else ((spec_l14With.f x0 x8 ((rd_T31 x0 x8).f0) ((rd_T31 x0 x8).f1) ((rd_T31 x0 x8).f2) ((rd_T31 x0 x8).f3) ((rd_T31 x0 x8).f4) x2).bind fun t432 => ((spec_l14Checked.f k t432).bind fun bt435 => (some (bt435.1, bt435.2))))) else (none)) else (none))
def spec_CancelWarning.f (k : Nat) (l0 : List (S31)) (a1 : Int) (a2 : Int) : Option ((List (S31)) × Bool) := (spec_l14Find.f k l0 a1).bind fun t407 => ((spec_l14List.f k l0).bind fun t408 => (if t408 = true then (if t407 < 0 then (spec_CancelWarning.j0 k l0 a2 t407 true) else (if 0 ≤ t407 then (if t407 < (l0.length : Int) then (spec_CancelWarning.j0 k l0 a2 t407 (decide (a2 ≥ ((rd_T31 l0 t407).f5)))) else (none)) else (none))) else (spec_CancelWarning.j0 k l0 a2 t407 true)))
theorem spec_CancelWarning.mono_l : ∀ k, (∀ y0 y1 y2 y3, LeO (spec_CancelWarning.j0 k y0 y1 y2 y3) (spec_CancelWarning.j0 (k + 1) y0 y1 y2 y3))
 | 0 => fun _ _ _ _ r h => by simp [spec_CancelWarning.j0] at h
 | k + 1 => by
  have ih0 := spec_CancelWarning.mono_l k
  ·
   intro y0 y1 y2 y3
   unfold spec_CancelWarning.j0
   repeat' first
   | (with_reducible exact ih0 _ _ _ _)
   | (with_reducible exact spec_l14Checked.mono _ _)
   | (with_reducible exact spec_l14Find.mono _ _ _)
   | (with_reducible exact spec_l14List.mono _ _)
   | (with_reducible exact LeO.refl _)
   | (with_reducible exact LeO.none _)
   | (with_reducible refine LeO.ite ?_ ?_)
   | (with_reducible refine LeO.bind ?_ (fun _ => ?_))
   | exact ih0 _ _ _ _
   | exact spec_l14Checked.mono _ _
   | exact spec_l14Find.mono _ _ _
   | exact spec_l14List.mono _ _
   | exact LeO.none _
   | refine LeO.ite ?_ ?_
   | refine LeO.bind ?_ (fun _ => ?_)
theorem spec_CancelWarning.mono : ∀ a0 a1 a2 k, LeO (spec_CancelWarning.f k a0 a1 a2) (spec_CancelWarning.f (k + 1) a0 a1 a2) := by
 intro a0 a1 a2 k
 have ih0 := spec_CancelWarning.mono_l k
 unfold spec_CancelWarning.f
 repeat' first
   | (with_reducible exact ih0 _ _ _ _)
   | (with_reducible exact spec_l14Checked.mono _ _)
   | (with_reducible exact spec_l14Find.mono _ _ _)
   | (with_reducible exact spec_l14List.mono _ _)
   | (with_reducible exact LeO.refl _)
   | (with_reducible exact LeO.none _)
   | (with_reducible refine LeO.ite ?_ ?_)
   | (with_reducible refine LeO.bind ?_ (fun _ => ?_))
   | exact ih0 _ _ _ _
   | exact spec_l14Checked.mono _ _
   | exact spec_l14Find.mono _ _ _
   | exact spec_l14List.mono _ _
   | exact LeO.none _
   | refine LeO.ite ?_ ?_
   | refine LeO.bind ?_ (fun _ => ?_)
def spec_CancelWarning.T6 : Bool × List (List Nat × List Nat) := (true, [([], []), ([], []), ([], []), ([1, 2], [1, 2]), ([0, 3], [0, 3]), ([], []), ([], []), ([6], [6]), ([5, 7], [5, 7]), ([4, 8, 4], [4, 8]), ([9, 9, 0, 1, 2, 3, 4, 5, 6, 7, 8, 9], [9]), ([10, 0, 1, 2, 3, 4, 5, 6, 7, 8, 9, 10], [])])
def spec_CancelWarning.B6 : List Nat := [0, 0, 0, 6, 15, 0, 0, 64, 224, 511, 1023, 2047]
theorem spec_CancelWarning.tab6 : rtab .any (opsOf Try.f17 6) = spec_CancelWarning.T6 := by kernel_rfl
theorem spec_CancelWarning.bits6 : waitsOk spec_CancelWarning.T6.2 spec_CancelWarning.B6 = true := by kernel_rfl
set_option maxHeartbeats 8000000 in
set_option maxRecDepth 100000 in
theorem spec_CancelWarning.calls (k : Nat) (A0 : Option Addr) (c0 : Nat) (l0 : List (S31)) (a1 : Int) (a2 : Int) (r1 : List (S31)) (r2 : Bool) (w : World) (hr0 : Kd.C k31 w A0 l0.length l0) (hc0 : l0.length ≤ c0) (h : spec_CancelWarning.f k l0 a1 a2 = some (r1, r2)) :
  Calls Try.prog 17 #[.slice A0 l0.length c0, .int .i64 a1, .int .i64 a2] w fun e w' => ∃ v0_ : Value, e = .returned (.tuple #[v0_, .bool r2]) ∧ Kd.R k31 31 w' w.heap.size (fun _ => True) v0_ r1 ∧ Below w.heap.size w w' := by
 have hu31 := Try.underlying31
 have HR0 := Aside0.mk hr0
 have HC0 := Aside0.mk hc0
 clear hr0 hc0
 have HB := Aside0.mk (Below.refl w.heap.size w)
 have H : ((spec_l14Find.f k l0 a1).bind fun t407 => ((spec_l14List.f k l0).bind fun t408 => (if t408 = true then (if t407 < 0 then (spec_CancelWarning.j0 k l0 a2 t407 true) else (if 0 ≤ t407 then (if t407 < (l0.length : Int) then (spec_CancelWarning.j0 k l0 a2 t407 (decide (a2 ≥ ((rd_T31 l0 t407).f5)))) else (none)) else (none))) else (spec_CancelWarning.j0 k l0 a2 t407 true)))) = some (r1, r2) := h
 clear h
 replace H := Option.bind_eq_some_iff.mp H
 obtain ⟨t407, A40, H⟩ := H
 replace H : ((spec_l14List.f k l0).bind fun t408 => (if t408 = true then (if t407 < 0 then (spec_CancelWarning.j0 k l0 a2 t407 true) else (if 0 ≤ t407 then (if t407 < (l0.length : Int) then (spec_CancelWarning.j0 k l0 a2 t407 (decide (a2 ≥ ((rd_T31 l0 t407).f5)))) else (none)) else (none))) else (spec_CancelWarning.j0 k l0 a2 t407 true))) = some (r1, r2) := H
 have A4 := Aside0.mk A40
 clear A40
 have HC5 := Aside0.mk H
 clear H
 go_enter Try.func17, Try.ntmps17
 go_upto_region 2 with (first | ((with_reducible refine gate_callee (f := 57) rfl ?_); refine goesL_ (some 12) rfl rfl Try.func57 (by kernel_rfl) rfl #[.slice A0 l0.length c0, .int .i64 a1] rfl zq1 ?_; (with_reducible refine (spec_l14Find.calls k _ _ l0 a1 t407 _ ?side1 ?side2 A4.out).mono ?_); (case side1 => repeat (first | exact HR0.out | (with_reducible refine Kd.C_alloc ?_ _) | (with_reducible refine Kd.C_drewN ?_ _) | (with_reducible refine Kd.C_drew ?_))); (case side2 => exact HC0.out); rintro e w' ⟨rfl, ⟨nd, rfl⟩⟩; refine ⟨_, rfl, ?_⟩))
 (try simp only [Act.put, List.setIfInBounds_toArray, List.set_cons_zero, List.set_cons_succ])
 go_cut [28] (fun v28 wc => ∃ (kq : Nat) (x28_4 : Bool), v28 = .bool x28_4 ∧ Aside0 (spec_CancelWarning.j0 kq l0 a2 t407 x28_4 = some (r1, r2)) ∧ Aside0 (kq ≤ k) ∧ Aside0 (Below w.heap.size w wc))
 case first =>
  have H := HC5.out
  clear HC5
  replace H := Option.bind_eq_some_iff.mp H
  obtain ⟨t408, A60, H⟩ := H
  replace H : (if t408 = true then (if t407 < 0 then (spec_CancelWarning.j0 k l0 a2 t407 true) else (if 0 ≤ t407 then (if t407 < (l0.length : Int) then (spec_CancelWarning.j0 k l0 a2 t407 (decide (a2 ≥ ((rd_T31 l0 t407).f5)))) else (none)) else (none))) else (spec_CancelWarning.j0 k l0 a2 t407 true)) = some (r1, r2) := H
  have A6 := Aside0.mk A60
  clear A60
  by_cases c7 : t408 = true
  ·
   subst c7
   have H1 : (if t407 < 0 then (spec_CancelWarning.j0 k l0 a2 t407 true) else (if 0 ≤ t407 then (if t407 < (l0.length : Int) then (spec_CancelWarning.j0 k l0 a2 t407 (decide (a2 ≥ ((rd_T31 l0 t407).f5)))) else (none)) else (none))) = some (r1, r2) := by rw [if_pos rfl] at H; exact H
   clear H
   have H := H1
   clear H1
   by_cases c8 : t407 < 0
   ·
    rw [if_pos c8] at H
    have c8b0 : decide (t407 < 0) = true := decide_eq_true c8
    clear c8
    (first | rw [c8b0] | (simp only [i64_w, i32_w]; rw [c8b0]) | skip)
    have H' := Aside0.mk H
    clear H
    go_wp2_with (first | ((with_reducible refine gate_callee (f := 63) rfl ?_); refine goesL_ (some 14) rfl rfl Try.func63 (by kernel_rfl) rfl #[.slice A0 l0.length c0] rfl zq1 ?_; (with_reducible refine (spec_l14List.calls k _ _ l0 true _ ?side1 ?side2 A6.out).mono ?_); (case side1 => repeat (first | exact (Kd.C_below HR0.out HB.out) | (with_reducible refine Kd.C_alloc ?_ _) | (with_reducible refine Kd.C_drewN ?_ _) | (with_reducible refine Kd.C_drew ?_))); (case side2 => exact HC0.out); rintro e w9 ⟨rfl, hb⟩; refine ⟨_, rfl, ?_⟩; have n0_ := Aside0.mk (below_step zq0 hb); clear HB; have HB := n0_; clear n0_; (try clear hb); (try clear hb2); (try clear hk); (try clear hi)))
    go_meet
    case rel => exact ⟨_, (true), (by first | rfl | (simp; done) | (simp [*]; done)), H', ⟨by first | omega | exact Nat.le_refl _⟩, ⟨by repeat (first | (with_reducible first | exact HB.out | apply below_alloc | apply pw_below_drewN | apply below_drew1) | exact HB.out)⟩⟩
   ·
    rw [if_neg c8] at H
    have c8b0 : decide (t407 < 0) = false := decide_eq_false c8
    clear c8
    (first | rw [c8b0] | (simp only [i64_w, i32_w]; rw [c8b0]) | skip)
    by_cases c10 : 0 ≤ t407
    ·
     rw [if_pos c10] at H
     have c10b0 : decide (0 ≤ t407) = true := decide_eq_true c10
     clear c10
     by_cases c11 : t407 < (l0.length : Int)
     ·
      rw [if_pos c11] at H
      have c11b0 : decide (t407 < (l0.length : Int)) = true := decide_eq_true c11
      clear c11
      have H' := Aside0.mk H
      clear H
      go_wp2_with (first | ((with_reducible refine gate_callee (f := 63) rfl ?_); refine goesL_ (some 14) rfl rfl Try.func63 (by kernel_rfl) rfl #[.slice A0 l0.length c0] rfl zq1 ?_; (with_reducible refine (spec_l14List.calls k _ _ l0 true _ ?side1 ?side2 A6.out).mono ?_); (case side1 => repeat (first | exact (Kd.C_below HR0.out HB.out) | (with_reducible refine Kd.C_alloc ?_ _) | (with_reducible refine Kd.C_drewN ?_ _) | (with_reducible refine Kd.C_drew ?_))); (case side2 => exact HC0.out); rintro e w12 ⟨rfl, hb⟩; refine ⟨_, rfl, ?_⟩; have n0_ := Aside0.mk (below_step zq0 hb); clear HB; have HB := n0_; clear n0_; (try clear hb); (try clear hb2); (try clear hk); (try clear hi); have p409 : 0 ≤ (t407 : Int) := of_decide_eq_true zq2; have q409 : t407 < (l0.length : Int) := of_decide_eq_true zq2; obtain ⟨ad409, e409, hx409_0, hx409_1, hx409_2, hx409_3, hx409_4, hx409_5⟩ := at_T31 HR0.out t407 p409 q409; cases e409; replace hx409_0 := (HB.out.cell (World.block_lt_of_cell? w _ hx409_0)).trans hx409_0; replace hx409_1 := (HB.out.cell (World.block_lt_of_cell? w _ hx409_1)).trans hx409_1; replace hx409_2 := (HB.out.cell (World.block_lt_of_cell? w _ hx409_2)).trans hx409_2; replace hx409_3 := (HB.out.cell (World.block_lt_of_cell? w _ hx409_3)).trans hx409_3; replace hx409_4 := (HB.out.cell (World.block_lt_of_cell? w _ hx409_4)).trans hx409_4; replace hx409_5 := (HB.out.cell (World.block_lt_of_cell? w _ hx409_5)).trans hx409_5; replace p409 := eq_true p409; replace q409 := eq_true q409))
      go_meet
      case rel => exact ⟨_, (decide (a2 ≥ ((rd_T31 l0 t407).f5))), (by first | rfl | (simp; done) | (simp [*]; done)), H', ⟨by first | omega | exact Nat.le_refl _⟩, ⟨by repeat (first | (with_reducible first | exact HB.out | apply below_alloc | apply pw_below_drewN | apply below_drew1) | exact HB.out)⟩⟩
     ·
      rw [if_neg c11] at H
      exact absurd H (by simp)
    ·
     rw [if_neg c10] at H
     exact absurd H (by simp)
  ·
   replace c7 := Bool.eq_false_iff.mpr c7
   subst c7
   have H1 : (spec_CancelWarning.j0 k l0 a2 t407 true) = some (r1, r2) := by rw [if_neg (show ¬ (false = true) by decide)] at H; exact H
   clear H
   have H := H1
   clear H1
   have H' := Aside0.mk H
   clear H
   go_wp2_with (first | ((with_reducible refine gate_callee (f := 63) rfl ?_); refine goesL_ (some 14) rfl rfl Try.func63 (by kernel_rfl) rfl #[.slice A0 l0.length c0] rfl zq1 ?_; (with_reducible refine (spec_l14List.calls k _ _ l0 false _ ?side1 ?side2 A6.out).mono ?_); (case side1 => repeat (first | exact (Kd.C_below HR0.out HB.out) | (with_reducible refine Kd.C_alloc ?_ _) | (with_reducible refine Kd.C_drewN ?_ _) | (with_reducible refine Kd.C_drew ?_))); (case side2 => exact HC0.out); rintro e w13 ⟨rfl, hb⟩; refine ⟨_, rfl, ?_⟩; have n0_ := Aside0.mk (below_step zq0 hb); clear HB; have HB := n0_; clear n0_; (try clear hb); (try clear hb2); (try clear hk); (try clear hi)))
   go_meet
   case rel => exact ⟨_, (true), (by first | rfl | (simp; done) | (simp [*]; done)), H', ⟨by first | omega | exact Nat.le_refl _⟩, ⟨by repeat (first | (with_reducible first | exact HB.out | apply below_alloc | apply pw_below_drewN | apply below_drew1) | exact HB.out)⟩⟩
 case rest =>
  clear HC5
  try clear c1
  try clear p2
  try clear p4
  try clear q4
  try clear hx4
  try clear c5
  try clear c6
  try clear c7
  try clear c8
  try clear c8b0
  try clear c10
  try clear c10b0
  try clear c11
  try clear c11b0
  try clear hx409_0
  try clear hx409_1
  try clear hx409_2
  try clear hx409_3
  try clear hx409_4
  try clear hx409_5
  try clear p409
  try clear q409
  obtain ⟨kq, x28_4, rfl, HA, HJ4, HB⟩ := hcut
  cases kq with
  | zero => exact absurd HA.out (by simp [spec_CancelWarning.j0])
  | succ kj4 =>
   have H := HA.out
   clear HA
   simp only [spec_CancelWarning.j0] at H
   by_cases c14 : x28_4 = true
   ·
    subst c14
    have H1 : (some ((([] : List (S31))), false)) = some (r1, r2) := by rw [if_pos rfl] at H; exact H
    clear H
    have H := H1
    clear H1
    obtain ⟨y410, hy410⟩ : ∃ y_ : List (S31), y_ = (([] : List (S31))) := ⟨_, rfl⟩
    replace H : (some (y410, false)) = some (r1, r2) := by first | (rw [hy410]; with_reducible exact H) | (have H2_ := (Option.bind_some _ _).symm.trans H; rw [hy410]; with_reducible exact H2_) | (have H2_ := (Option.bind_some _ _).symm.trans H; with_reducible exact H2_) | with_reducible exact H | (rw [hy410]; exact H) | exact H
    have Ny410 := Aside0.mk hy410
    clear hy410
    simp only [Option.some.injEq, Prod.mk.injEq] at H
    obtain ⟨rfl, rfl⟩ := H
    go_wp2_with (first | ((with_reducible refine gate_dst (N := 29) rfl ?_); refine Kd.R_lit k31 _ 31 ?hg (N := 29) ?hd (xs := ([] : List (S31))) (inner := []) (ok := fun _ => True) (okp := fun _ => True) ?hr ?hp (fun _ hk => hk) trivial (Below.refl _ _) (Nat.le_refl _) (by simp) ?_; (case hd => rfl); (case hg => rfl); (case hr => first | (go_simp; done) | (go_simp; rfl)); (case hp => exact (Reps.none _ _)); intro v411 w15 ho16 hb hg_ hnew_; clear hg_ hnew_; (first | rw [← Ny410.out] at ho16 | (simp only [Int.reduceToNat] at ho16; rw [← Ny410.out] at ho16)); have n0_ := Aside0.mk (Kd.R_lower ho16 (below_size zq0)); have n1_ := Aside0.mk (below_step zq0 hb); clear HB; have HO412 := n0_; have HB := n1_; clear n0_ n1_; clear hb ho16))
    go_ret2
    exact ⟨_, by first | rfl | (simp [errW_none, errW_some] <;> rfl) | (simp [*, errW_none, errW_some] <;> rfl), by (with_reducible repeat (first | apply Kd.R_alloc | apply Kd.R_drewN | apply Kd.R_drew)); exact HO412.out, by repeat (first | (with_reducible first | exact HB.out | apply below_alloc | apply pw_below_drewN | apply below_drew1) | exact HB.out)⟩
   ·
    replace c14 := Bool.eq_false_iff.mpr c14
    subst c14
    have H1 : (if 0 ≤ t407 then (if t407 < (l0.length : Int) then (if a2 ≤ ((rd_T31 l0 t407).f4) then ((some (([] : List (S31)) : List (S31))).bind fun y415 => (if t407 ≤ (l0.length : Int) then ((some (l0.take (t407 : Int).toNat : List (S31))).bind fun y418 => (if y415.length + y418.length < 2932031007402 then ((some (y415 ++ y418 : List (S31))).bind fun y422 => (if 0 ≤ (wrap64 (t407 + 1)) then (if (wrap64 (t407 + 1)) ≤ (l0.length : Int) then ((some (l0.drop ((wrap64 (t407 + 1)) : Int).toNat : List (S31))).bind fun y425 => (if y422.length + y425.length < 2932031007402 then (some ((y422 ++ y425), true)) else (none))) else (none)) else (none))) else (none))) else (none))) else ((spec_l14With.f l0 t407 ((rd_T31 l0 t407).f0) ((rd_T31 l0 t407).f1) ((rd_T31 l0 t407).f2) ((rd_T31 l0 t407).f3) ((rd_T31 l0 t407).f4) a2).bind fun t432 => ((spec_l14Checked.f kj4 t432).bind fun bt435 => (some (bt435.1, bt435.2))))) else (none)) else (none)) = some (r1, r2) := by rw [if_neg (show ¬ (false = true) by decide)] at H; exact H
    clear H
    have H := H1
    clear H1
    by_cases c17 : 0 ≤ t407
    ·
     rw [if_pos c17] at H
     have c17b0 : decide (0 ≤ t407) = true := decide_eq_true c17
     clear c17
     by_cases c18 : t407 < (l0.length : Int)
     ·
      rw [if_pos c18] at H
      have c18b0 : decide (t407 < (l0.length : Int)) = true := decide_eq_true c18
      clear c18
      by_cases c19 : a2 ≤ ((rd_T31 l0 t407).f4)
      ·
       rw [if_pos c19] at H
       have c19b0 : decide (a2 ≤ ((rd_T31 l0 t407).f4)) = true := decide_eq_true c19
       clear c19
       obtain ⟨y415, hy415⟩ : ∃ y_ : List (S31), y_ = (([] : List (S31))) := ⟨_, rfl⟩
       replace H : (if t407 ≤ (l0.length : Int) then ((some (l0.take (t407 : Int).toNat : List (S31))).bind fun y418 => (if y415.length + y418.length < 2932031007402 then ((some (y415 ++ y418 : List (S31))).bind fun y422 => (if 0 ≤ (wrap64 (t407 + 1)) then (if (wrap64 (t407 + 1)) ≤ (l0.length : Int) then ((some (l0.drop ((wrap64 (t407 + 1)) : Int).toNat : List (S31))).bind fun y425 => (if y422.length + y425.length < 2932031007402 then (some ((y422 ++ y425), true)) else (none))) else (none)) else (none))) else (none))) else (none)) = some (r1, r2) := by first | (rw [hy415]; with_reducible exact H) | (have H2_ := (Option.bind_some _ _).symm.trans H; rw [hy415]; with_reducible exact H2_) | (have H2_ := (Option.bind_some _ _).symm.trans H; with_reducible exact H2_) | with_reducible exact H | (rw [hy415]; exact H) | exact H
       have Ny415 := Aside0.mk hy415
       clear hy415
       have c20b0 := eq_true (of_decide_eq_true zq2 : 0 ≤ t407)
       by_cases c21 : t407 ≤ (l0.length : Int)
       ·
        rw [if_pos c21] at H
        have c21b0 := eq_true c21
        have c21b1 : decide (t407 ≤ (l0.length : Int)) = true := decide_eq_true c21
        clear c21
        obtain ⟨y418, hy418⟩ : ∃ y_ : List (S31), y_ = (l0.take (t407 : Int).toNat) := ⟨_, rfl⟩
        replace H : (if y415.length + y418.length < 2932031007402 then ((some (y415 ++ y418 : List (S31))).bind fun y422 => (if 0 ≤ (wrap64 (t407 + 1)) then (if (wrap64 (t407 + 1)) ≤ (l0.length : Int) then ((some (l0.drop ((wrap64 (t407 + 1)) : Int).toNat : List (S31))).bind fun y425 => (if y422.length + y425.length < 2932031007402 then (some ((y422 ++ y425), true)) else (none))) else (none)) else (none))) else (none)) = some (r1, r2) := by first | (rw [hy418]; with_reducible exact H) | (have H2_ := (Option.bind_some _ _).symm.trans H; rw [hy418]; with_reducible exact H2_) | (have H2_ := (Option.bind_some _ _).symm.trans H; with_reducible exact H2_) | with_reducible exact H | (rw [hy418]; exact H) | exact H
        have Ny418 := Aside0.mk hy418
        clear hy418
        by_cases c22 : y415.length + y418.length < 2932031007402
        ·
         rw [if_pos c22] at H
         have LMc22 := Aside0.mk c22
         clear c22
         obtain ⟨y422, hy422⟩ : ∃ y_ : List (S31), y_ = (y415 ++ y418) := ⟨_, rfl⟩
         replace H : (if 0 ≤ (wrap64 (t407 + 1)) then (if (wrap64 (t407 + 1)) ≤ (l0.length : Int) then ((some (l0.drop ((wrap64 (t407 + 1)) : Int).toNat : List (S31))).bind fun y425 => (if y422.length + y425.length < 2932031007402 then (some ((y422 ++ y425), true)) else (none))) else (none)) else (none)) = some (r1, r2) := by first | (rw [hy422]; with_reducible exact H) | (have H2_ := (Option.bind_some _ _).symm.trans H; rw [hy422]; with_reducible exact H2_) | (have H2_ := (Option.bind_some _ _).symm.trans H; with_reducible exact H2_) | with_reducible exact H | (rw [hy422]; exact H) | exact H
         have Ny422 := Aside0.mk hy422
         clear hy422
         obtain ⟨ji23, hji23⟩ : ∃ j_ : Int, (wrap64 (t407 + 1)) = j_ := ⟨_, rfl⟩
         replace H : (if 0 ≤ (ji23) then (if (ji23) ≤ (l0.length : Int) then ((some (l0.drop ((ji23) : Int).toNat : List (S31))).bind fun y425 => (if y422.length + y425.length < 2932031007402 then (some ((y422 ++ y425), true)) else (none))) else (none)) else (none)) = some (r1, r2) := by first | (rw [hji23] at H; exact H) | (simp only [hji23] at H ⊢; exact H)
         have hji23w : (IntKind.i64.wrap (t407 + 1)) = ji23 := (i64_w _).trans hji23
         by_cases c24 : 0 ≤ (ji23)
         ·
          rw [if_pos c24] at H
          have c24b0 := eq_true c24
          have c24b1 : decide (0 ≤ (ji23)) = true := decide_eq_true c24
          clear c24
          by_cases c25 : (ji23) ≤ (l0.length : Int)
          ·
           rw [if_pos c25] at H
           have c25b0 := eq_true c25
           have c25b1 : decide ((ji23) ≤ (l0.length : Int)) = true := decide_eq_true c25
           clear c25
           obtain ⟨y425, hy425⟩ : ∃ y_ : List (S31), y_ = (l0.drop ((ji23) : Int).toNat) := ⟨_, rfl⟩
           replace H : (if y422.length + y425.length < 2932031007402 then (some ((y422 ++ y425), true)) else (none)) = some (r1, r2) := by first | (rw [hy425]; with_reducible exact H) | (have H2_ := (Option.bind_some _ _).symm.trans H; rw [hy425]; with_reducible exact H2_) | (have H2_ := (Option.bind_some _ _).symm.trans H; with_reducible exact H2_) | with_reducible exact H | (rw [hy425]; exact H) | exact H
           have Ny425 := Aside0.mk hy425
           clear hy425
           by_cases c26 : y422.length + y425.length < 2932031007402
           ·
            rw [if_pos c26] at H
            have LMc26 := Aside0.mk c26
            clear c26
            obtain ⟨y429, hy429⟩ : ∃ y_ : List (S31), y_ = (y422 ++ y425) := ⟨_, rfl⟩
            replace H : (some (y429, true)) = some (r1, r2) := by first | (rw [hy429]; with_reducible exact H) | (have H2_ := (Option.bind_some _ _).symm.trans H; rw [hy429]; with_reducible exact H2_) | (have H2_ := (Option.bind_some _ _).symm.trans H; with_reducible exact H2_) | with_reducible exact H | (rw [hy429]; exact H) | exact H
            have Ny429 := Aside0.mk hy429
            clear hy429
            simp only [Option.some.injEq, Prod.mk.injEq] at H
            obtain ⟨rfl, rfl⟩ := H
            have p413 : 0 ≤ (t407 : Int) := of_decide_eq_true zq2
            have q413 : t407 < (l0.length : Int) := of_decide_eq_true zq2
            obtain ⟨ad413, e413, hx413_0, hx413_1, hx413_2, hx413_3, hx413_4, hx413_5⟩ := at_T31 HR0.out t407 p413 q413
            cases e413
            replace hx413_0 := (HB.out.cell (World.block_lt_of_cell? w _ hx413_0)).trans hx413_0
            replace hx413_1 := (HB.out.cell (World.block_lt_of_cell? w _ hx413_1)).trans hx413_1
            replace hx413_2 := (HB.out.cell (World.block_lt_of_cell? w _ hx413_2)).trans hx413_2
            replace hx413_3 := (HB.out.cell (World.block_lt_of_cell? w _ hx413_3)).trans hx413_3
            replace hx413_4 := (HB.out.cell (World.block_lt_of_cell? w _ hx413_4)).trans hx413_4
            replace hx413_5 := (HB.out.cell (World.block_lt_of_cell? w _ hx413_5)).trans hx413_5
            replace p413 := eq_true p413
            replace q413 := eq_true q413
            try go_wp2_with (first | ((with_reducible refine gate_dst (N := 9) rfl ?_); refine box_event ?hg (N := 9) ?hd (cs := #[.int .i64 0, .int .i64 0, .int .i64 0, .int .i64 0, .int .i64 0, .int .i64 0]) (t := 31) ?hr ?_; (case hd => rfl); (case hg => rfl); (case hr => first | (go_simp; done) | (go_simp; rfl)); intro gb414 hg w27 hbox hb; have n0_ := Aside0.mk (below_step zq0 hb); have n1_ := Aside0.mk (hbox); have n2_ := Aside0.mk ((by rw [hg]; exact (below_size zq0) : w.heap.size ≤ gb414)); have n3_ := Aside0.mk ((by rw [hg]; exact (below_size zq0) : w.heap.size ≤ gb414)); clear HB; have HB := n0_; have BK414 := n1_; have GW414 := n2_; have GE414 := n3_; clear n0_ n1_ n2_ n3_; clear hb hbox hg; have hcz28_0 : w27.cell? ⟨gb414, 0, none⟩ = some (.int .i64 0) := (blk_cell BK414.out 0).trans rfl; have hcz28_1 : w27.cell? ⟨gb414, 1, none⟩ = some (.int .i64 0) := (blk_cell BK414.out 1).trans rfl; have hcz28_2 : w27.cell? ⟨gb414, 2, none⟩ = some (.int .i64 0) := (blk_cell BK414.out 2).trans rfl; have hcz28_3 : w27.cell? ⟨gb414, 3, none⟩ = some (.int .i64 0) := (blk_cell BK414.out 3).trans rfl; have hcz28_4 : w27.cell? ⟨gb414, 4, none⟩ = some (.int .i64 0) := (blk_cell BK414.out 4).trans rfl; have hcz28_5 : w27.cell? ⟨gb414, 5, none⟩ = some (.int .i64 0) := (blk_cell BK414.out 5).trans rfl; have hl28_0 : ∀ v0 v1 v2 v3 v4 v5 u0 : Value, (((((((w27.setCell ⟨gb414, 0, none⟩ v0).setCell ⟨gb414, 1, none⟩ v1).setCell ⟨gb414, 2, none⟩ v2).setCell ⟨gb414, 3, none⟩ v3).setCell ⟨gb414, 4, none⟩ v4).setCell ⟨gb414, 5, none⟩ v5).setCell ⟨gb414, 5, none⟩ u0).cell? ⟨gb414, 5, none⟩ = some u0 := fun v0 v1 v2 v3 v4 v5 u0 => (blk_cell (blk_set (blk_set (blk_set (blk_set (blk_set (blk_set (blk_set BK414.out 0 v0) 1 v1) 2 v2) 3 v3) 4 v4) 5 v5) 5 u0) 5).trans (by simp); have hfz28_0 := blk_frozen BK414.out 0; have hfz28_1 := blk_frozen BK414.out 1; have hfz28_2 := blk_frozen BK414.out 2; have hfz28_3 := blk_frozen BK414.out 3; have hfz28_4 := blk_frozen BK414.out 4; have hfz28_5 := blk_frozen BK414.out 5))
            have n0_ : Aside0 (((((((w27.setCell ⟨gb414, 0, none⟩ (.int .i64 ((rd_T31 l0 t407).f0))).setCell ⟨gb414, 1, none⟩ (.int .i64 ((rd_T31 l0 t407).f1))).setCell ⟨gb414, 2, none⟩ (.int .i64 ((rd_T31 l0 t407).f2))).setCell ⟨gb414, 3, none⟩ (.int .i64 ((rd_T31 l0 t407).f3))).setCell ⟨gb414, 4, none⟩ (.int .i64 ((rd_T31 l0 t407).f4))).setCell ⟨gb414, 5, none⟩ (.int .i64 ((rd_T31 l0 t407).f5))).heap[gb414]? = some (.cells #[.int .i64 ((rd_T31 l0 t407).f0), .int .i64 ((rd_T31 l0 t407).f1), .int .i64 ((rd_T31 l0 t407).f2), .int .i64 ((rd_T31 l0 t407).f3), .int .i64 ((rd_T31 l0 t407).f4), .int .i64 ((rd_T31 l0 t407).f5)] 31 (0, 0))) := ⟨by (with_reducible repeat (first | refine blk_drewN ?_ _ | refine blk_drew ?_ | refine blk_alloc ?_ _)); refine blk_put (cs := #[.int .i64 ((rd_T31 l0 t407).f0), .int .i64 ((rd_T31 l0 t407).f1), .int .i64 ((rd_T31 l0 t407).f2), .int .i64 ((rd_T31 l0 t407).f3), .int .i64 ((rd_T31 l0 t407).f4), .int .i64 0]) ?_ 5 _ rfl; (with_reducible repeat (first | refine blk_drewN ?_ _ | refine blk_drew ?_ | refine blk_alloc ?_ _)); refine blk_put (cs := #[.int .i64 ((rd_T31 l0 t407).f0), .int .i64 ((rd_T31 l0 t407).f1), .int .i64 ((rd_T31 l0 t407).f2), .int .i64 ((rd_T31 l0 t407).f3), .int .i64 0, .int .i64 0]) ?_ 4 _ rfl; (with_reducible repeat (first | refine blk_drewN ?_ _ | refine blk_drew ?_ | refine blk_alloc ?_ _)); refine blk_put (cs := #[.int .i64 ((rd_T31 l0 t407).f0), .int .i64 ((rd_T31 l0 t407).f1), .int .i64 ((rd_T31 l0 t407).f2), .int .i64 0, .int .i64 0, .int .i64 0]) ?_ 3 _ rfl; (with_reducible repeat (first | refine blk_drewN ?_ _ | refine blk_drew ?_ | refine blk_alloc ?_ _)); refine blk_put (cs := #[.int .i64 ((rd_T31 l0 t407).f0), .int .i64 ((rd_T31 l0 t407).f1), .int .i64 0, .int .i64 0, .int .i64 0, .int .i64 0]) ?_ 2 _ rfl; (with_reducible repeat (first | refine blk_drewN ?_ _ | refine blk_drew ?_ | refine blk_alloc ?_ _)); refine blk_put (cs := #[.int .i64 ((rd_T31 l0 t407).f0), .int .i64 0, .int .i64 0, .int .i64 0, .int .i64 0, .int .i64 0]) ?_ 1 _ rfl; (with_reducible repeat (first | refine blk_drewN ?_ _ | refine blk_drew ?_ | refine blk_alloc ?_ _)); refine blk_put (cs := #[.int .i64 0, .int .i64 0, .int .i64 0, .int .i64 0, .int .i64 0, .int .i64 0]) ?_ 0 _ rfl; (with_reducible repeat (first | refine blk_drewN ?_ _ | refine blk_drew ?_ | refine blk_alloc ?_ _)); exact BK414.out⟩
            have n1_ : Aside0 (Below w.heap.size w ((((((w27.setCell ⟨gb414, 0, none⟩ (.int .i64 ((rd_T31 l0 t407).f0))).setCell ⟨gb414, 1, none⟩ (.int .i64 ((rd_T31 l0 t407).f1))).setCell ⟨gb414, 2, none⟩ (.int .i64 ((rd_T31 l0 t407).f2))).setCell ⟨gb414, 3, none⟩ (.int .i64 ((rd_T31 l0 t407).f3))).setCell ⟨gb414, 4, none⟩ (.int .i64 ((rd_T31 l0 t407).f4))).setCell ⟨gb414, 5, none⟩ (.int .i64 ((rd_T31 l0 t407).f5)))) := ⟨by repeat (first | (with_reducible first | exact HB.out | apply below_alloc | apply pw_below_drewN | apply below_drew1 | refine below_set ?_ GE414.out) | exact HB.out)⟩
            (try clear BK414)
            (try clear HB)
            generalize ((((((w27.setCell ⟨gb414, 0, none⟩ (.int .i64 ((rd_T31 l0 t407).f0))).setCell ⟨gb414, 1, none⟩ (.int .i64 ((rd_T31 l0 t407).f1))).setCell ⟨gb414, 2, none⟩ (.int .i64 ((rd_T31 l0 t407).f2))).setCell ⟨gb414, 3, none⟩ (.int .i64 ((rd_T31 l0 t407).f3))).setCell ⟨gb414, 4, none⟩ (.int .i64 ((rd_T31 l0 t407).f4))).setCell ⟨gb414, 5, none⟩ (.int .i64 ((rd_T31 l0 t407).f5))) = w29 at n0_ n1_ ⊢
            have BK414 := n0_
            have HB := n1_
            clear n0_ n1_
            have n0_ := Aside0.mk (blk_drew BK414.out)
            have n1_ := Aside0.mk (below_drew1 HB.out)
            clear BK414
            clear HB
            have BK414 := n0_
            have HB := n1_
            clear n0_ n1_
            have q31 : (t407 : Int) ≤ ((l0.length : Int) : Int) := of_decide_eq_true zq2
            obtain ⟨i031, hi031, _, hsz31, _⟩ := info_parts info31
            have hroom31 : l0.length ≤ c0 := HC0.out
            have hC31 : Kd.C k31 _ (some ad413) l0.length l0 := HR0.out
            have hcut31 := cut_to (P := Try.prog) 24 31 .i64 Try.underlying24 hi031 (some ad413) l0.length c0 t407 (of_decide_eq_true zq2) q31 hroom31
            have hr31 := Kd.C_take (m := (t407 : Int).toNat) hC31 (by omega)
            have hy31 : y418.length = (t407 : Int).toNat := (by rw [Ny418.out, List.length_take]; omega)
            rw [← Ny418.out] at hr31
            rw [← hy31] at hcut31
            have HR421 := Aside0.mk hr31
            have HC421 := Aside0.mk (show y418.length ≤ c0 from by omega)
            clear hr31 hC31 hroom31 hi031 hsz31
            have KY31 := Aside0.mk hy31
            clear hy31
            replace q31 := eq_true q31
            have q32 : ((ji23) : Int) ≤ ((l0.length : Int) : Int) := of_decide_eq_true zq2
            obtain ⟨i032, hi032, _, hsz32, _⟩ := info_parts info31
            have hroom32 : l0.length ≤ c0 := HC0.out
            have hC32 : Kd.C k31 _ (some ad413) l0.length l0 := HR0.out
            have q032 : (0 : Int) ≤ ((ji23) : Int) := of_decide_eq_true zq2
            have hcut32 := cut_from (P := Try.prog) 24 31 .i64 Try.underlying24 hi032 6 hsz32 (some ad413) l0.length c0 (ji23) q032 q32
            have hr32 := Kd.C_drop (m := ((ji23) : Int).toNat) (c := c0) hC32 (by omega) hroom32
            obtain ⟨A32, hA32⟩ : ∃ A1, A1 = (if c0 = ((ji23) : Int).toNat then (some ad413) else ((some ad413) : Option Addr).map (·.add (((ji23) : Int).toNat * 6))) := ⟨_, rfl⟩
            obtain ⟨c32, hc32⟩ : ∃ c1, c1 = c0 - ((ji23) : Int).toNat := ⟨_, rfl⟩
            have hy32 : y425.length = l0.length - ((ji23) : Int).toNat := (by rw [Ny425.out, List.length_drop] <;> omega)
            rw [show (l0).drop ((ji23) : Int).toNat = y425 from Ny425.out.symm] at hr32
            replace hr32 : Kd.C k31 _ A32 y425.length y425 := (by rw [hA32]; exact hr32)
            rw [← hy32, ← hA32, ← hc32] at hcut32
            have HR428 := Aside0.mk hr32
            have HC428 := Aside0.mk (show y425.length ≤ c32 from by rw [hy32, hc32]; exact Nat.sub_le_sub_right hroom32 _)
            clear hr32 hC32 hroom32 hi032 hsz32 hc32
            have KY32 := Aside0.mk hy32
            have KA32 := Aside0.mk hA32
            clear hy32 hA32
            replace q32 := eq_true q32
            refine start_ (n := 12) (S := fun w' => True) (ds := []) #[false, false, false, false, false, false, false, false, false, false, false, false] (by kernel_rfl) rfl rfl trivial (fun hHeld => ?_); refine with_tabW spec_CancelWarning.tab6 spec_CancelWarning.bits6 (fun HT_ HW_ => ?_)
            generalize w29.drew = w30 at BK414 HB HR421 HR428 hHeld ⊢
            refine pure_ (i := 1) (N := some 39) (v := ?_) (a' := ?_) #[false, true, false, false, false, false, false, false, false, false, false, false] rfl rfl (any_of HT_.out (by kernel_rfl)) (fun _ _ _ h => h) (Or.inl ⟨by rfl, ?_⟩) ?_ ?_
            rotate_left
            · exact zqB
            rotate_left
            · exact zqA
            refine pure_ (i := 2) (N := some 40) (v := ?_) (a' := ?_) #[false, true, true, false, false, false, false, false, false, false, false, false] rfl rfl (any_of HT_.out (by kernel_rfl)) (fun _ _ _ h => h) (Or.inl ⟨by rfl, ?_⟩) ?_ ?_
            rotate_left
            · exact zqB
            rotate_left
            · exact zqA
            refine pure_ (i := 3) (N := some 41) (v := ?_) (a' := ?_) #[false, true, true, true, false, false, false, false, false, false, false, false] rfl rfl (any_of HT_.out (by kernel_rfl)) (fun _ _ _ h => h) (Or.inl ⟨by rfl, ?_⟩) ?_ ?_
            rotate_left
            · exact zqB
            rotate_left
            · exact zqA
            refine pure_ (i := 5) (N := some 43) (v := ?_) (a' := ?_) #[false, true, true, true, false, true, false, false, false, false, false, false] rfl rfl (any_of HT_.out (by kernel_rfl)) (fun _ _ _ h => h) (Or.inl ⟨by rfl, ?_⟩) ?_ ?_
            rotate_left
            · exact zqB
            rotate_left
            · exact zqA
            refine pure_ (i := 6) (N := some 44) (v := ?_) (a' := ?_) #[false, true, true, true, false, true, true, false, false, false, false, false] rfl rfl (any_of HT_.out (by kernel_rfl)) (fun _ _ _ h => h) (Or.inl ⟨by rfl, ?_⟩) ?_ ?_
            rotate_left
            · exact zqB
            rotate_left
            · exact zqA
            refine pure_ (i := 7) (N := some 45) (v := ?_) (a' := ?_) #[false, true, true, true, false, true, true, true, false, false, false, false] rfl rfl (any_of HT_.out (by kernel_rfl)) (fun _ _ _ h => h) (Or.inl ⟨by rfl, ?_⟩) ?_ ?_
            rotate_left
            · exact zqB
            rotate_left
            · exact zqA
            refine pure_ (i := 8) (N := some 46) (v := ?_) (a' := ?_) #[false, true, true, true, false, true, true, true, true, false, false, false] rfl rfl (any_of HT_.out (by kernel_rfl)) (fun _ _ _ h => h) (Or.inl ⟨by rfl, ?_⟩) ?_ ?_
            rotate_left
            · exact zqB
            rotate_left
            · exact zqA
            refine one_ (i := 0) (N := some 38) #[true, true, true, true, false, true, true, true, true, false, false, false] rfl rfl (one_of HT_.out (by kernel_rfl)) (by decide) (fun K hK => ?_)
            refine Kd.R_lit_step k31 _ 31 ?hg (N := 38) ?hd (xs := ([] : List (S31))) (inner := []) (ok := fun _ => True) (okp := fun _ => True) ?hr ?hp (fun _ hk => hk) trivial (Below.refl _ _) (Nat.le_refl _) (by simp) ?_; (case hd => rfl); (case hg => rfl); (case hr => first | (go_simp; done) | (go_simp; rfl)); (case hp => exact (Reps.none _ _))
            intro v416 w33 ho34 hb hg_ hnew_
            clear hg_ hnew_
            (first | rw [← Ny415.out] at ho34 | (simp only [Int.reduceToNat] at ho34; rw [← Ny415.out] at ho34))
            have n0_ := Aside0.mk (Kd.R_lower (Kd.R_newB ho34 (g := gb414) (o := .cells #[.int .i64 ((rd_T31 l0 t407).f0), .int .i64 ((rd_T31 l0 t407).f1), .int .i64 ((rd_T31 l0 t407).f2), .int .i64 ((rd_T31 l0 t407).f3), .int .i64 ((rd_T31 l0 t407).f4), .int .i64 ((rd_T31 l0 t407).f5)] 31 (0, 0)) (zqK BK414.out)) (below_size zq17))
            have n1_ := Aside0.mk (blk_below (g := gb414) (o := .cells #[.int .i64 ((rd_T31 l0 t407).f0), .int .i64 ((rd_T31 l0 t407).f1), .int .i64 ((rd_T31 l0 t407).f2), .int .i64 ((rd_T31 l0 t407).f3), .int .i64 ((rd_T31 l0 t407).f4), .int .i64 ((rd_T31 l0 t407).f5)] 31 (0, 0)) (zqK BK414.out) hb)
            have n2_ := Aside0.mk (below_step zq17 hb)
            clear BK414
            clear HB
            have HO417 := n0_
            have BK414 := n1_
            have HB := n2_
            clear n0_ n1_ n2_
            clear hb ho34
            refine hK.out _ _ trivial (fun hHeld => ?_)
            clear hK K
            refine norm_ (a' := ?_) ?_ ?_
            rotate_left
            ·
             show Act.put _ (some 38) _ = _
             simp only [Act.put, List.setIfInBounds_toArray, List.set_cons_zero, List.set_cons_succ, i64_w, i32_w]
             rfl
            refine one_ (i := 4) (N := some 42) #[true, true, true, true, true, true, true, true, true, false, false, false] rfl rfl (one_of HT_.out (by kernel_rfl)) (by decide) (fun K hK => ?_)
            refine Kd.R_append_rows_step k31 (w0 := w) w.heap.size (by rfl) (.tmp 38) (.tmp 41) 24 31 (.agg #[(.int .i64 0), (.int .i64 0), (.int .i64 0), (.int .i64 0), (.int .i64 0), (.int .i64 0)]) 48 rfl Try.underlying24 info31 rfl (by decide) (by omega) v416 y415 y418 _ _ _ (fun k_ => k_ ≠ gb414) (fun _ => False) rfl rfl ?aO ?aR (fun _ _ h => h) (fun _ h => h.elim) ?aF ?aB ?aS ?aL ?_
            (case aR => repeat (first | exact (Kd.C_below HR421.out HB.out) | (with_reducible refine Kd.C_alloc ?_ _) | (with_reducible refine Kd.C_drewN ?_ _) | (with_reducible refine Kd.C_drew ?_)))
            (case aB => exact zq17)
            (case aF => exact (fun k_ hk => Kd.freshB (g := gb414) (o := .cells #[.int .i64 ((rd_T31 l0 t407).f0), .int .i64 ((rd_T31 l0 t407).f1), .int .i64 ((rd_T31 l0 t407).f2), .int .i64 ((rd_T31 l0 t407).f3), .int .i64 ((rd_T31 l0 t407).f4), .int .i64 ((rd_T31 l0 t407).f5)] 31 (0, 0)) (zqK BK414.out) k_ hk))
            (case aO => exact (by (with_reducible repeat (first | apply Kd.R_alloc | apply Kd.R_drewN | apply Kd.R_drew)); exact Kd.R_mono HO417.out (fun _ hk => hk.2)))
            (case aS => exact (below_size zq17))
            (case aL => have := LMc22.out; omega)
            intro v423 w35 ho hb hg hat
            rw [← Ny422.out] at ho
            have n0_ := Aside0.mk (blk_grown (g := gb414) (o := .cells #[.int .i64 ((rd_T31 l0 t407).f0), .int .i64 ((rd_T31 l0 t407).f1), .int .i64 ((rd_T31 l0 t407).f2), .int .i64 ((rd_T31 l0 t407).f3), .int .i64 ((rd_T31 l0 t407).f4), .int .i64 ((rd_T31 l0 t407).f5)] 31 (0, 0)) (zqK BK414.out) hg (Kd.R_away HO417.out (fun _ hk => hk.2)))
            have n1_ := Aside0.mk (hb)
            have n2_ := Aside0.mk (ho)
            clear BK414
            clear HB
            clear HO417
            have BK414 := n0_
            have HB := n1_
            have HO424 := n2_
            clear n0_ n1_ n2_
            clear ho hb hg hat
            refine hK.out _ _ trivial (fun hHeld => ?_)
            clear hK K
            refine norm_ (a' := ?_) ?_ ?_
            rotate_left
            ·
             show Act.put _ (some 42) _ = _
             simp only [Act.put, List.setIfInBounds_toArray, List.set_cons_zero, List.set_cons_succ, i64_w, i32_w]
             rfl
            refine one_ (i := 9) (N := some 47) #[true, true, true, true, true, true, true, true, true, true, false, false] rfl rfl (one_of HT_.out (by kernel_rfl)) (by decide) (fun K hK => ?_)
            refine Kd.R_append_rows_step k31 (w0 := w) w.heap.size (by rfl) (.tmp 42) (.tmp 46) 24 31 (.agg #[(.int .i64 0), (.int .i64 0), (.int .i64 0), (.int .i64 0), (.int .i64 0), (.int .i64 0)]) 48 rfl Try.underlying24 info31 rfl (by decide) (by omega) v423 y422 y425 _ _ _ (fun k_ => k_ ≠ gb414) (fun _ => False) rfl rfl ?aO ?aR (fun _ _ h => h) (fun _ h => h.elim) ?aF ?aB ?aS ?aL ?_
            (case aR => repeat (first | exact (Kd.C_below HR428.out HB.out) | (with_reducible refine Kd.C_alloc ?_ _) | (with_reducible refine Kd.C_drewN ?_ _) | (with_reducible refine Kd.C_drew ?_)))
            (case aB => exact zq17)
            (case aF => exact (fun k_ hk => Kd.freshB (g := gb414) (o := .cells #[.int .i64 ((rd_T31 l0 t407).f0), .int .i64 ((rd_T31 l0 t407).f1), .int .i64 ((rd_T31 l0 t407).f2), .int .i64 ((rd_T31 l0 t407).f3), .int .i64 ((rd_T31 l0 t407).f4), .int .i64 ((rd_T31 l0 t407).f5)] 31 (0, 0)) (zqK BK414.out) k_ hk))
            (case aO => exact (zqR HO424.out))
            (case aS => exact (below_size zq17))
            (case aL => have := LMc26.out; omega)
            intro v430 w36 ho hb hg hat
            rw [← Ny429.out] at ho
            have n0_ := Aside0.mk (blk_grown (g := gb414) (o := .cells #[.int .i64 ((rd_T31 l0 t407).f0), .int .i64 ((rd_T31 l0 t407).f1), .int .i64 ((rd_T31 l0 t407).f2), .int .i64 ((rd_T31 l0 t407).f3), .int .i64 ((rd_T31 l0 t407).f4), .int .i64 ((rd_T31 l0 t407).f5)] 31 (0, 0)) (zqK BK414.out) hg (Kd.R_away HO424.out (fun _ hk => hk)))
            have n1_ := Aside0.mk (hb)
            have n2_ := Aside0.mk (ho)
            clear BK414
            clear HB
            clear HO424
            have BK414 := n0_
            have HB := n1_
            have HO431 := n2_
            clear n0_ n1_ n2_
            clear ho hb hg hat
            refine hK.out _ _ trivial (fun hHeld => ?_)
            clear hK K
            refine norm_ (a' := ?_) ?_ ?_
            rotate_left
            ·
             show Act.put _ (some 47) _ = _
             simp only [Act.put, List.setIfInBounds_toArray, List.set_cons_zero, List.set_cons_succ, i64_w, i32_w]
             rfl
            refine pure_ (i := 10) (N := some 6) (v := ?_) (a' := ?_) #[true, true, true, true, true, true, true, true, true, true, true, false] rfl rfl (any_of HT_.out (by kernel_rfl)) (fun _ _ _ h => h) (Or.inl ⟨by rfl, ?_⟩) ?_ ?_
            rotate_left
            · exact zqB
            rotate_left
            · exact zqA
            refine pure_ (i := 11) (N := some 7) (v := ?_) (a' := ?_) #[true, true, true, true, true, true, true, true, true, true, true, true] rfl rfl (any_of HT_.out (by kernel_rfl)) (fun _ _ _ h => h) (Or.inl ⟨by rfl, ?_⟩) ?_ ?_
            rotate_left
            · exact zqB
            rotate_left
            · exact zqA
            refine done_ (done_of HT_.out (by kernel_rfl)) ?_
            try go_wp2
            go_ret2
            exact ⟨_, by first | rfl | (simp [errW_none, errW_some] <;> rfl) | (simp only [← hji23]; first | rfl | (simp [errW_none, errW_some] <;> rfl)) | (simp [*, errW_none, errW_some] <;> rfl), by (with_reducible repeat (first | apply Kd.R_alloc | apply Kd.R_drewN | apply Kd.R_drew)); exact Kd.R_mono HO431.out (fun _ hk => trivial), by repeat (first | (with_reducible first | exact HB.out | apply below_alloc | apply pw_below_drewN | apply below_drew1 | refine below_set ?_ GE414.out) | exact HB.out)⟩
           ·
            rw [if_neg c26] at H
            exact absurd H (by simp)
          ·
           rw [if_neg c25] at H
           exact absurd H (by simp)
         ·
          rw [if_neg c24] at H
          exact absurd H (by simp)
        ·
         rw [if_neg c22] at H
         exact absurd H (by simp)
       ·
        rw [if_neg c21] at H
        exact absurd H (by simp)
      ·
       rw [if_neg c19] at H
       have c19b0 : decide (a2 ≤ ((rd_T31 l0 t407).f4)) = false := decide_eq_false c19
       clear c19
       replace H := Option.bind_eq_some_iff.mp H
       obtain ⟨t432, A370, H⟩ := H
       replace H : ((spec_l14Checked.f kj4 t432).bind fun bt435 => (some (bt435.1, bt435.2))) = some (r1, r2) := H
       have A37 := Aside0.mk A370
       clear A370
       replace H := Option.bind_eq_some_iff.mp H
       obtain ⟨⟨t435, t438⟩, A380, H⟩ := H
       replace H : (some (t435, t438)) = some (r1, r2) := H
       have A38 := Aside0.mk A380
       clear A380
       simp only [Option.some.injEq, Prod.mk.injEq] at H
       obtain ⟨rfl, rfl⟩ := H
       have p413 : 0 ≤ (t407 : Int) := of_decide_eq_true zq2
       have q413 : t407 < (l0.length : Int) := of_decide_eq_true zq2
       obtain ⟨ad413, e413, hx413_0, hx413_1, hx413_2, hx413_3, hx413_4, hx413_5⟩ := at_T31 HR0.out t407 p413 q413
       cases e413
       replace hx413_0 := (HB.out.cell (World.block_lt_of_cell? w _ hx413_0)).trans hx413_0
       replace hx413_1 := (HB.out.cell (World.block_lt_of_cell? w _ hx413_1)).trans hx413_1
       replace hx413_2 := (HB.out.cell (World.block_lt_of_cell? w _ hx413_2)).trans hx413_2
       replace hx413_3 := (HB.out.cell (World.block_lt_of_cell? w _ hx413_3)).trans hx413_3
       replace hx413_4 := (HB.out.cell (World.block_lt_of_cell? w _ hx413_4)).trans hx413_4
       replace hx413_5 := (HB.out.cell (World.block_lt_of_cell? w _ hx413_5)).trans hx413_5
       replace p413 := eq_true p413
       replace q413 := eq_true q413
       go_wp2_with (first | ((with_reducible refine gate_dst (N := 9) rfl ?_); refine box_event ?hg (N := 9) ?hd (cs := #[.int .i64 0, .int .i64 0, .int .i64 0, .int .i64 0, .int .i64 0, .int .i64 0]) (t := 31) ?hr ?_; (case hd => rfl); (case hg => rfl); (case hr => first | (go_simp; done) | (go_simp; rfl)); intro gb414 hg w39 hbox hb; have n0_ := Aside0.mk (below_step zq0 hb); have n1_ := Aside0.mk (hbox); have n2_ := Aside0.mk ((by rw [hg]; exact (below_size zq0) : w.heap.size ≤ gb414)); have n3_ := Aside0.mk ((by rw [hg]; exact (below_size zq0) : w.heap.size ≤ gb414)); clear HB; have HB := n0_; have BK414 := n1_; have GW414 := n2_; have GE414 := n3_; clear n0_ n1_ n2_ n3_; clear hb hbox hg; have hcz40_0 : w39.cell? ⟨gb414, 0, none⟩ = some (.int .i64 0) := (blk_cell BK414.out 0).trans rfl; have hcz40_1 : w39.cell? ⟨gb414, 1, none⟩ = some (.int .i64 0) := (blk_cell BK414.out 1).trans rfl; have hcz40_2 : w39.cell? ⟨gb414, 2, none⟩ = some (.int .i64 0) := (blk_cell BK414.out 2).trans rfl; have hcz40_3 : w39.cell? ⟨gb414, 3, none⟩ = some (.int .i64 0) := (blk_cell BK414.out 3).trans rfl; have hcz40_4 : w39.cell? ⟨gb414, 4, none⟩ = some (.int .i64 0) := (blk_cell BK414.out 4).trans rfl; have hcz40_5 : w39.cell? ⟨gb414, 5, none⟩ = some (.int .i64 0) := (blk_cell BK414.out 5).trans rfl; have hl40_0 : ∀ v0 v1 v2 v3 v4 v5 u0 : Value, (((((((w39.setCell ⟨gb414, 0, none⟩ v0).setCell ⟨gb414, 1, none⟩ v1).setCell ⟨gb414, 2, none⟩ v2).setCell ⟨gb414, 3, none⟩ v3).setCell ⟨gb414, 4, none⟩ v4).setCell ⟨gb414, 5, none⟩ v5).setCell ⟨gb414, 5, none⟩ u0).cell? ⟨gb414, 5, none⟩ = some u0 := fun v0 v1 v2 v3 v4 v5 u0 => (blk_cell (blk_set (blk_set (blk_set (blk_set (blk_set (blk_set (blk_set BK414.out 0 v0) 1 v1) 2 v2) 3 v3) 4 v4) 5 v5) 5 u0) 5).trans (by simp); have hfz40_0 := blk_frozen BK414.out 0; have hfz40_1 := blk_frozen BK414.out 1; have hfz40_2 := blk_frozen BK414.out 2; have hfz40_3 := blk_frozen BK414.out 3; have hfz40_4 := blk_frozen BK414.out 4; have hfz40_5 := blk_frozen BK414.out 5) | ((with_reducible refine gate_callee (f := 64) rfl ?_); refine goesL_ (some 53) rfl rfl Try.func64 (by kernel_rfl) rfl #[.slice (some ad413) l0.length c0, .int .i64 t407, .agg #[.int .i64 ((rd_T31 l0 t407).f0), .int .i64 ((rd_T31 l0 t407).f1), .int .i64 ((rd_T31 l0 t407).f2), .int .i64 ((rd_T31 l0 t407).f3), .int .i64 ((rd_T31 l0 t407).f4), .int .i64 a2]] rfl zq1 ?_; (with_reducible refine (spec_l14With.calls _ _ l0 t407 ((rd_T31 l0 t407).f0) ((rd_T31 l0 t407).f1) ((rd_T31 l0 t407).f2) ((rd_T31 l0 t407).f3) ((rd_T31 l0 t407).f4) a2 t432 _ ?side1 ?side2 A37.out).mono ?_); (case side1 => exact Kd.C_below HR0.out zq17); (case side2 => exact HC0.out); rintro e w41 ⟨v433, rfl, ho0, hb⟩; refine ⟨_, rfl, ?_⟩; have n0_ := Aside0.mk (Kd.R_lower (Kd.R_newB ho0 (g := gb414) (o := .cells #[.int .i64 ((rd_T31 l0 t407).f0), .int .i64 ((rd_T31 l0 t407).f1), .int .i64 ((rd_T31 l0 t407).f2), .int .i64 ((rd_T31 l0 t407).f3), .int .i64 ((rd_T31 l0 t407).f4), .int .i64 a2] 31 (0, 0)) zq11) (below_size zq17)); have n1_ := Aside0.mk (blk_below (g := gb414) (o := .cells #[.int .i64 ((rd_T31 l0 t407).f0), .int .i64 ((rd_T31 l0 t407).f1), .int .i64 ((rd_T31 l0 t407).f2), .int .i64 ((rd_T31 l0 t407).f3), .int .i64 ((rd_T31 l0 t407).f4), .int .i64 a2] 31 (0, 0)) zq11 hb); have n2_ := Aside0.mk (below_step zq17 hb); clear BK414; clear HB; have HO434 := n0_; have BK414 := n1_; have HB := n2_; clear n0_ n1_ n2_; (try clear hb); (try clear hb2); (try clear hk); (try clear hi); (try clear ho0); obtain ⟨Ao42, co42, eo42⟩ := Kd.R_slice HO434.out; subst eo42) | ((with_reducible refine gate_callee (f := 75) rfl ?_); refine goesL_ (some 54) rfl rfl Try.func75 (by kernel_rfl) rfl #[.slice Ao42 t432.length co42] rfl zq1 ?_; (with_reducible refine (spec_l14Checked.calls kj4 (fun k_ => some k_ = (.slice Ao42 t432.length co42 : Value).ownBlock) (.slice Ao42 t432.length co42) t432 t435 t438 w _ ?side1 ?side2 A38.out).mono ?_); (case side1 => repeat (first | (with_reducible first | exact HB.out | apply below_alloc | apply pw_below_drewN | apply below_drew1 | refine below_set ?_ GE414.out) | exact HB.out)); (case side2 => exact Kd.R_tight rfl HO434.out); rintro e w43 ⟨v436, rfl, ho0, hb, hkp⟩; refine ⟨_, rfl, ?_⟩; have n0_ := Aside0.mk (blk_kept (zqK BK414.out) hkp (fun hs_ => (fun e_ => (Kd.R_away HO434.out (fun _ hk => hk.2)) e_) hs_)); have n1_ := Aside0.mk (Kd.R_mono (ok' := fun k_ => k_ ≠ gb414) ho0 (fun k_ hk_ => Or.elim hk_ (fun hs_ => fun e_ => (Kd.R_away HO434.out (fun _ hk => hk.2)) (by rw [← e_]; exact hs_)) (fun hn_ => (Kd.freshB (g := gb414) (o := .cells #[.int .i64 ((rd_T31 l0 t407).f0), .int .i64 ((rd_T31 l0 t407).f1), .int .i64 ((rd_T31 l0 t407).f2), .int .i64 ((rd_T31 l0 t407).f3), .int .i64 ((rd_T31 l0 t407).f4), .int .i64 a2] 31 (0, 0)) (zqK BK414.out) k_ hn_)))); have n2_ := Aside0.mk (hb); clear BK414; clear HB; clear HO434; have BK414 := n0_; have HO437 := n1_; have HB := n2_; clear n0_ n1_ n2_; (try clear hb); (try clear hkp); (try clear ho0)))
       go_ret2
       exact ⟨_, by first | rfl | (simp [errW_none, errW_some] <;> rfl) | (simp [*, errW_none, errW_some] <;> rfl), by (with_reducible repeat (first | apply Kd.R_alloc | apply Kd.R_drewN | apply Kd.R_drew)); exact Kd.R_mono HO437.out (fun _ hk => trivial), by repeat (first | (with_reducible first | exact HB.out | apply below_alloc | apply pw_below_drewN | apply below_drew1 | refine below_set ?_ GE414.out) | exact HB.out)⟩
     ·
      rw [if_neg c18] at H
      exact absurd H (by simp)
    ·
     rw [if_neg c17] at H
     exact absurd H (by simp)

end Go.Proofs.Ytklepiechbnenaa.Q
