-- Printed by a program of this session (wip/tools/seatprint.py) that runs over the kit's print.
import Derived.Test.YtfemneoahkglmaaQ0
import Derived.Test.YtfemneoahkglmaaQf9
import Derived.Test.YtfemneoahkglmaaQf42
namespace Go.Proofs.Ytfemneoahkglmaa.Q
open Go.RowKit Go.Proofs.YtfemneoahkglmaaW.PrintWords Go.Proofs.YtfemneoahkglmaaW.PrintLast Go.Proofs.YtfemneoahkglmaaW.PrintMore
attribute [local go_sem] max2_int min2_int max_two min_two max_three min_three max_four min_four   -- for this text's walks alone
set_option linter.unusedVariables false
set_option linter.unusedSimpArgs false

/-! ### impl_ExtendWarning: function 21 -/
def impl_ExtendWarning.j0 : Nat → List (S37) → Int → Int → Bool → Option ((List (S37)) × Bool)
 | 0, _, _, _, _ => none
 | k + 1, x0, x2, x8, x23 => if x23 = true then (some (([] : List (S37)), false)) else ((impl_Warning_25.f x0).bind fun t534 => (if 0 ≤ x8 then (if x8 < (t534.length : Int) then ((impl_checkedWarnings.f k (t534.set (x8 : Int).toNat (⟨(rd_T37 t534 x8).f0, (rd_T37 t534 x8).f1, (rd_T37 t534 x8).f2, (rd_T37 t534 x8).f3, (rd_T37 t534 x8).f4, x2⟩ : S37))).bind fun bt538 => (some (bt538.1, bt538.2))) else (none)) else (none)))
def impl_ExtendWarning.f (k : Nat) (l0 : List (S37)) (a1 : Int) (a2 : Int) : Option ((List (S37)) × Bool) := (impl_warningAt.f k l0 a1).bind fun t532 => (if t532 < 0 then (impl_ExtendWarning.j0 k l0 a2 t532 true) else (if 0 ≤ t532 then (if t532 < (l0.length : Int) then (impl_ExtendWarning.j0 k l0 a2 t532 (decide (a2 ≤ ((rd_T37 l0 t532).f5)))) else (none)) else (none)))
theorem impl_ExtendWarning.mono_l : ∀ k, (∀ y0 y1 y2 y3, LeO (impl_ExtendWarning.j0 k y0 y1 y2 y3) (impl_ExtendWarning.j0 (k + 1) y0 y1 y2 y3))
 | 0 => fun _ _ _ _ r h => by simp [impl_ExtendWarning.j0] at h
 | k + 1 => by
  have ih0 := impl_ExtendWarning.mono_l k
  ·
   intro y0 y1 y2 y3
   unfold impl_ExtendWarning.j0
   repeat' first
   | (with_reducible exact ih0 _ _ _ _)
   | (with_reducible exact impl_checkedWarnings.mono _ _)
   | (with_reducible exact impl_warningAt.mono _ _ _)
   | (with_reducible exact LeO.refl _)
   | (with_reducible exact LeO.none _)
   | (with_reducible refine LeO.ite ?_ ?_)
   | (with_reducible refine LeO.bind ?_ (fun _ => ?_))
   | exact ih0 _ _ _ _
   | exact impl_checkedWarnings.mono _ _
   | exact impl_warningAt.mono _ _ _
   | exact LeO.none _
   | refine LeO.ite ?_ ?_
   | refine LeO.bind ?_ (fun _ => ?_)
theorem impl_ExtendWarning.mono : ∀ a0 a1 a2 k, LeO (impl_ExtendWarning.f k a0 a1 a2) (impl_ExtendWarning.f (k + 1) a0 a1 a2) := by
 intro a0 a1 a2 k
 have ih0 := impl_ExtendWarning.mono_l k
 unfold impl_ExtendWarning.f
 repeat' first
   | (with_reducible exact ih0 _ _ _ _)
   | (with_reducible exact impl_checkedWarnings.mono _ _)
   | (with_reducible exact impl_warningAt.mono _ _ _)
   | (with_reducible exact LeO.refl _)
   | (with_reducible exact LeO.none _)
   | (with_reducible refine LeO.ite ?_ ?_)
   | (with_reducible refine LeO.bind ?_ (fun _ => ?_))
   | exact ih0 _ _ _ _
   | exact impl_checkedWarnings.mono _ _
   | exact impl_warningAt.mono _ _ _
   | exact LeO.none _
   | refine LeO.ite ?_ ?_
   | refine LeO.bind ?_ (fun _ => ?_)
set_option maxHeartbeats 8000000 in
set_option maxRecDepth 100000 in
theorem impl_ExtendWarning.calls (k : Nat) (A0 : Option Addr) (c0 : Nat) (l0 : List (S37)) (a1 : Int) (a2 : Int) (r1 : List (S37)) (r2 : Bool) (w : World) (hr0 : Kd.C k37 w A0 l0.length l0) (hc0 : l0.length ≤ c0) (h : impl_ExtendWarning.f k l0 a1 a2 = some (r1, r2)) :
  Calls Try.prog 21 #[.slice A0 l0.length c0, .int .i64 a1, .int .i64 a2] w fun e w' => ∃ v0_ : Value, e = .returned (.tuple #[v0_, .bool r2]) ∧ Kd.R k37 37 w' w.heap.size (fun _ => True) v0_ r1 ∧ Below w.heap.size w w' := by
 have HR0 := Aside0.mk hr0
 have HC0 := Aside0.mk hc0
 clear hr0 hc0
 have HB := Aside0.mk (Below.refl w.heap.size w)
 have H : ((impl_warningAt.f k l0 a1).bind fun t532 => (if t532 < 0 then (impl_ExtendWarning.j0 k l0 a2 t532 true) else (if 0 ≤ t532 then (if t532 < (l0.length : Int) then (impl_ExtendWarning.j0 k l0 a2 t532 (decide (a2 ≤ ((rd_T37 l0 t532).f5)))) else (none)) else (none)))) = some (r1, r2) := h
 clear h
 replace H := Option.bind_eq_some_iff.mp H
 obtain ⟨t532, A40, H⟩ := H
 replace H : (if t532 < 0 then (impl_ExtendWarning.j0 k l0 a2 t532 true) else (if 0 ≤ t532 then (if t532 < (l0.length : Int) then (impl_ExtendWarning.j0 k l0 a2 t532 (decide (a2 ≤ ((rd_T37 l0 t532).f5)))) else (none)) else (none))) = some (r1, r2) := H
 have A4 := Aside0.mk A40
 clear A40
 have HC5 := Aside0.mk H
 clear H
 go_enter Try.func21, Try.ntmps21
 go_upto_region 2 with (first | ((with_reducible refine gate_callee (f := 44) rfl ?_); refine goesL_ (some 12) rfl rfl Try.func44 (by kernel_rfl) rfl #[.slice A0 l0.length c0, .int .i64 a1] rfl (by (try simp only [List.map_toArray, List.map_cons, List.map_nil]); first | done | rfl | (simp only [List.length_drop, List.length_take]; rfl)) ?_; (with_reducible refine (impl_warningAt.calls k _ _ l0 a1 t532 _ ?side1 ?side2 A4.out).mono ?_); (case side1 => repeat (first | exact HR0.out | (with_reducible refine Kd.C_alloc ?_ _) | (with_reducible refine Kd.C_drewN ?_ _) | (with_reducible refine Kd.C_drew ?_))); (case side2 => exact HC0.out); rintro e w6 ⟨rfl, hb⟩; refine ⟨_, rfl, ?_⟩; have n0_ := Aside0.mk (below_step (by repeat (first | (with_reducible first | exact HB.out | apply below_alloc | apply pw_below_drewN | apply below_drew1) | exact HB.out)) hb); clear HB; have HB := n0_; clear n0_; (try clear hb); (try clear hb2); (try clear hk); (try clear hi)))
 (try simp only [Act.put, List.setIfInBounds_toArray, List.set_cons_zero, List.set_cons_succ])
 go_cut [23] (fun v23 wc => ∃ (kq : Nat) (x23_4 : Bool), v23 = .bool x23_4 ∧ Aside0 (impl_ExtendWarning.j0 kq l0 a2 t532 x23_4 = some (r1, r2)) ∧ Aside0 (kq ≤ k) ∧ Aside0 (Below w.heap.size w wc))
 case first =>
  have H := HC5.out
  clear HC5
  by_cases c7 : t532 < 0
  ·
   rw [if_pos c7] at H
   have c7b0 : decide (t532 < 0) = true := decide_eq_true c7
   clear c7
   (first | rw [c7b0] | (simp only [i64_w, i32_w]; rw [c7b0]) | skip)
   have H' := Aside0.mk H
   clear H
   go_wp2
   go_meet
   case rel => exact ⟨_, (true), (by first | rfl | (simp; done) | (simp [*]; done)), H', ⟨by first | omega | exact Nat.le_refl _⟩, ⟨by repeat (first | (with_reducible first | exact HB.out | apply below_alloc | apply pw_below_drewN | apply below_drew1) | exact HB.out)⟩⟩
  ·
   rw [if_neg c7] at H
   have c7b0 : decide (t532 < 0) = false := decide_eq_false c7
   clear c7
   (first | rw [c7b0] | (simp only [i64_w, i32_w]; rw [c7b0]) | skip)
   by_cases c8 : 0 ≤ t532
   ·
    rw [if_pos c8] at H
    have c8b0 : decide (0 ≤ t532) = true := decide_eq_true c8
    clear c8
    by_cases c9 : t532 < (l0.length : Int)
    ·
     rw [if_pos c9] at H
     have c9b0 : decide (t532 < (l0.length : Int)) = true := decide_eq_true c9
     clear c9
     have H' := Aside0.mk H
     clear H
     have p533 : 0 ≤ (t532 : Int) := of_decide_eq_true (by first | (with_reducible assumption) | assumption)
     have q533 : t532 < (l0.length : Int) := of_decide_eq_true (by first | (with_reducible assumption) | assumption)
     obtain ⟨ad533, e533, hx533_0, hx533_1, hx533_2, hx533_3, hx533_4, hx533_5⟩ := at_T37 HR0.out t532 p533 q533
     cases e533
     replace hx533_0 := (HB.out.cell (World.block_lt_of_cell? w _ hx533_0)).trans hx533_0
     replace hx533_1 := (HB.out.cell (World.block_lt_of_cell? w _ hx533_1)).trans hx533_1
     replace hx533_2 := (HB.out.cell (World.block_lt_of_cell? w _ hx533_2)).trans hx533_2
     replace hx533_3 := (HB.out.cell (World.block_lt_of_cell? w _ hx533_3)).trans hx533_3
     replace hx533_4 := (HB.out.cell (World.block_lt_of_cell? w _ hx533_4)).trans hx533_4
     replace hx533_5 := (HB.out.cell (World.block_lt_of_cell? w _ hx533_5)).trans hx533_5
     replace p533 := eq_true p533
     replace q533 := eq_true q533
     go_wp2
     go_meet
     case rel => exact ⟨_, (decide (a2 ≤ ((rd_T37 l0 t532).f5))), (by first | rfl | (simp; done) | (simp [*]; done)), H', ⟨by first | omega | exact Nat.le_refl _⟩, ⟨by repeat (first | (with_reducible first | exact HB.out | apply below_alloc | apply pw_below_drewN | apply below_drew1) | exact HB.out)⟩⟩
    ·
     rw [if_neg c9] at H
     exact absurd H (by simp)
   ·
    rw [if_neg c8] at H
    exact absurd H (by simp)
 case rest =>
  clear HC5
  try clear c2
  try clear p2
  try clear c4
  try clear p5
  try clear q5
  try clear hx5
  try clear c7
  try clear c7b0
  try clear c8
  try clear c8b0
  try clear c9
  try clear c9b0
  try clear hx533_0
  try clear hx533_1
  try clear hx533_2
  try clear hx533_3
  try clear hx533_4
  try clear hx533_5
  try clear p533
  try clear q533
  obtain ⟨kq, x23_4, rfl, HA, HJ4, HB⟩ := hcut
  cases kq with
  | zero => exact absurd HA.out (by simp [impl_ExtendWarning.j0])
  | succ kj4 =>
   have H := HA.out
   clear HA
   simp only [impl_ExtendWarning.j0] at H
   by_cases c10 : x23_4 = true
   ·
    subst c10
    have H1 : (some (([] : List (S37)), false)) = some (r1, r2) := by rw [if_pos rfl] at H; exact H
    clear H
    have H := H1
    clear H1
    simp only [Option.some.injEq, Prod.mk.injEq] at H
    obtain ⟨rfl, rfl⟩ := H
    go_wp2
    go_ret2
    exact ⟨_, by first | rfl | (simp [errW_none, errW_some] <;> rfl) | (simp [*, errW_none, errW_some] <;> rfl), by first | exact Kd.R_nil _ _ _ _ _ | exact Kd.N_nil _ _ _ _ _ | exact Kd.V_nil _ _ _ _ _ | exact Kd.Q_nil _ _ _ _ _ | exact Kd.S_nil _ _ _ _ _, by repeat (first | (with_reducible first | exact HB.out | apply below_alloc | apply pw_below_drewN | apply below_drew1) | exact HB.out)⟩
   ·
    replace c10 := Bool.eq_false_iff.mpr c10
    subst c10
    have H1 : ((impl_Warning_25.f l0).bind fun t534 => (if 0 ≤ t532 then (if t532 < (t534.length : Int) then ((impl_checkedWarnings.f kj4 (t534.set (t532 : Int).toNat (⟨(rd_T37 t534 t532).f0, (rd_T37 t534 t532).f1, (rd_T37 t534 t532).f2, (rd_T37 t534 t532).f3, (rd_T37 t534 t532).f4, a2⟩ : S37))).bind fun bt538 => (some (bt538.1, bt538.2))) else (none)) else (none))) = some (r1, r2) := by rw [if_neg (show ¬ (false = true) by decide)] at H; exact H
    clear H
    have H := H1
    clear H1
    replace H := Option.bind_eq_some_iff.mp H
    obtain ⟨t534, A110, H⟩ := H
    replace H : (if 0 ≤ t532 then (if t532 < (t534.length : Int) then ((impl_checkedWarnings.f kj4 (t534.set (t532 : Int).toNat (⟨(rd_T37 t534 t532).f0, (rd_T37 t534 t532).f1, (rd_T37 t534 t532).f2, (rd_T37 t534 t532).f3, (rd_T37 t534 t532).f4, a2⟩ : S37))).bind fun bt538 => (some (bt538.1, bt538.2))) else (none)) else (none)) = some (r1, r2) := H
    have A11 := Aside0.mk A110
    clear A110
    by_cases c12 : 0 ≤ t532
    ·
     rw [if_pos c12] at H
     have c12b0 : decide (0 ≤ t532) = true := decide_eq_true c12
     clear c12
     by_cases c13 : t532 < (t534.length : Int)
     ·
      rw [if_pos c13] at H
      have c13b0 : decide (t532 < (t534.length : Int)) = true := decide_eq_true c13
      clear c13
      obtain ⟨y537, hy537⟩ : ∃ y_ : List (S37), y_ = (t534.set (t532 : Int).toNat (⟨(rd_T37 t534 t532).f0, (rd_T37 t534 t532).f1, (rd_T37 t534 t532).f2, (rd_T37 t534 t532).f3, (rd_T37 t534 t532).f4, a2⟩ : S37)) := ⟨_, rfl⟩
      replace H : ((impl_checkedWarnings.f kj4 y537).bind fun bt538 => (some (bt538.1, bt538.2))) = some (r1, r2) := by first | (rw [hy537]; with_reducible exact H) | (have H2_ := (Option.bind_some _ _).symm.trans H; rw [hy537]; with_reducible exact H2_) | (have H2_ := (Option.bind_some _ _).symm.trans H; with_reducible exact H2_) | with_reducible exact H | (rw [hy537]; exact H) | exact H
      have Ny537 := Aside0.mk hy537
      clear hy537
      replace H := Option.bind_eq_some_iff.mp H
      obtain ⟨⟨t538, t541⟩, A150, H⟩ := H
      replace H : (some (t538, t541)) = some (r1, r2) := H
      have A15 := Aside0.mk A150
      clear A150
      simp only [Option.some.injEq, Prod.mk.injEq] at H
      obtain ⟨rfl, rfl⟩ := H
      go_wp2_with (first | ((with_reducible refine gate_callee (f := 25) rfl ?_); refine goesL_ (some 25) rfl rfl Try.func25 (by kernel_rfl) rfl #[.slice A0 l0.length c0] rfl (by (try simp only [List.map_toArray, List.map_cons, List.map_nil]); first | done | rfl | (simp only [List.length_drop, List.length_take]; rfl)) ?_; (with_reducible refine (impl_Warning_25.calls _ _ l0 t534 _ ?side1 ?side2 A11.out).mono ?_); (case side1 => repeat (first | exact (Kd.C_below HR0.out HB.out) | (with_reducible refine Kd.C_alloc ?_ _) | (with_reducible refine Kd.C_drewN ?_ _) | (with_reducible refine Kd.C_drew ?_))); (case side2 => exact HC0.out); rintro e w16 ⟨v535, rfl, ho0, hb⟩; refine ⟨_, rfl, ?_⟩; have n0_ := Aside0.mk (Kd.R_lower ho0 (below_size (by repeat (first | (with_reducible first | exact HB.out | apply below_alloc | apply pw_below_drewN | apply below_drew1) | exact HB.out)))); have n1_ := Aside0.mk (below_step (by repeat (first | (with_reducible first | exact HB.out | apply below_alloc | apply pw_below_drewN | apply below_drew1) | exact HB.out)) hb); clear HB; have HO536 := n0_; have HB := n1_; clear n0_ n1_; (try clear hb); (try clear hb2); (try clear hk); (try clear hi); (try clear ho0); have p14 : 0 ≤ (t532 : Int) := of_decide_eq_true (by first | (with_reducible assumption) | assumption); have q14 : (t532 : Int) < ((t534.length : Int) : Int) := of_decide_eq_true (by first | (with_reducible assumption) | assumption); obtain ⟨go14, co14, eo14, gb14, gl14, cl14, HG14⟩ := Kd.R_form HO536.out (by omega); (first | cases eo14 | (injection eo14 with ea_ en_ ec_; (first | subst ea_ | (injection ea_ with ea_; subst ea_)); subst ec_; clear en_)); have GB14 := Aside0.mk gb14; have GG14 := Aside0.mk HG14; clear gb14 gl14 HG14; obtain ⟨ce14, hcl14, hM14, hcc14, hfr14⟩ := Kd.R_elem HO536.out z37 (t532 : Int) p14 q14; obtain rfl := k37_openM hM14; have hx14_0 : w16.cell? ⟨go14, (t532 : Int).toNat * 6, none⟩ = some (.int .i64 ((rd_T37 t534 t532).f0)) := hcc14 0 _ rfl; have hx14_1 : w16.cell? ⟨go14, (t532 : Int).toNat * 6 + 1, none⟩ = some (.int .i64 ((rd_T37 t534 t532).f1)) := hcc14 1 _ rfl; have hx14_2 : w16.cell? ⟨go14, (t532 : Int).toNat * 6 + 2, none⟩ = some (.int .i64 ((rd_T37 t534 t532).f2)) := hcc14 2 _ rfl; have hx14_3 : w16.cell? ⟨go14, (t532 : Int).toNat * 6 + 3, none⟩ = some (.int .i64 ((rd_T37 t534 t532).f3)) := hcc14 3 _ rfl; have hx14_4 : w16.cell? ⟨go14, (t532 : Int).toNat * 6 + 4, none⟩ = some (.int .i64 ((rd_T37 t534 t532).f4)) := hcc14 4 _ rfl; have hx14_5 : w16.cell? ⟨go14, (t532 : Int).toNat * 6 + 5, none⟩ = some (.int .i64 ((rd_T37 t534 t532).f5)) := hcc14 5 _ rfl; have hf14_0 : w16.frozen? ⟨go14, (t532 : Int).toNat * 6, none⟩ = false := hfr14 0; have hf14_1 : w16.frozen? ⟨go14, (t532 : Int).toNat * 6 + 1, none⟩ = false := hfr14 1; have hf14_2 : w16.frozen? ⟨go14, (t532 : Int).toNat * 6 + 2, none⟩ = false := hfr14 2; have hf14_3 : w16.frozen? ⟨go14, (t532 : Int).toNat * 6 + 3, none⟩ = false := hfr14 3; have hf14_4 : w16.frozen? ⟨go14, (t532 : Int).toNat * 6 + 4, none⟩ = false := hfr14 4; have hf14_5 : w16.frozen? ⟨go14, (t532 : Int).toNat * 6 + 5, none⟩ = false := hfr14 5; clear hcl14 hcc14 hfr14 hM14; replace p14 := eq_true p14; replace q14 := eq_true q14; have HX17 := Aside0.mk (show Kd.R k37 37 w16 w.heap.size (fun _ => True) (.slice (some ⟨go14, 0, none⟩) t534.length co14) t534 from (by (with_reducible repeat (first | apply Kd.R_alloc | apply Kd.R_drewN | apply Kd.R_drew)); exact HO536.out)); obtain ⟨ce17, hcl17, hM17, hcc17, hfr17⟩ := Kd.R_elem HX17.out z37 (t532 : Int) (of_decide_eq_true (by first | (with_reducible assumption) | assumption)) (by have h_ : (t532 : Int) < ((t534.length : Int) : Int) := of_decide_eq_true (by first | (with_reducible assumption) | assumption); first | exact h_ | (have e_ := (Kd.R_reads' HO536.out).1; omega) | simpa using h_); obtain rfl := k37_openM hM17; have HP17 := Kd.R_seg HX17.out (t532 : Int) (of_decide_eq_true (by first | (with_reducible assumption) | assumption)) (by have h_ : (t532 : Int) < ((t534.length : Int) : Int) := of_decide_eq_true (by first | (with_reducible assumption) | assumption); first | exact h_ | (have e_ := (Kd.R_reads' HO536.out).1; omega) | simpa using h_) (seg := [.int .i64 a2]) (j := 5) hcl17 hcc17 (show 6 ≤ 6 from by decide) (x' := (⟨(rd_T37 t534 t532).f0, (rd_T37 t534 t532).f1, (rd_T37 t534 t532).f2, (rd_T37 t534 t532).f3, (rd_T37 t534 t532).f4, a2⟩ : S37)) (k37_mkM _ _ _ (⟨(rd_T37 t534 t532).f0, (rd_T37 t534 t532).f1, (rd_T37 t534 t532).f2, (rd_T37 t534 t532).f3, (rd_T37 t534 t532).f4, a2⟩ : S37) ) (fun _ hk => hk); have hx17_5 := hcc17 5 _ rfl; (try simp only [show (k37).sz = 6 from rfl, Nat.mul_one, Nat.add_zero] at hx17_5); have hf17_5 := hfr17 5; (try simp only [show (k37).sz = 6 from rfl, Nat.mul_one, Nat.add_zero] at hf17_5); clear hcl17 hcc17 hfr17 hM17) | ((with_reducible refine gate_store (t := 3) (p := 30) rfl ?_); refine store_event (t := 3) (p := 30) (v := ?vo_w18) (w1 := (w16.setCell ⟨go14, (t532 : Int).toNat * 6 + 5, none⟩ (.int .i64 a2))) ?hg ?ho ?hn ?hr ?_; (case ho => rfl); (case hg => rfl); (case hn => rfl); (case hr => first | (go_simp; done) | (go_simp; rfl)); intro w18 hw; have hg : w16.grownBy w18 (some go14) := (by rw [hw]; exact HP17.2); have hp_ : Kd.R k37 37 w18 w.heap.size (fun _ => True) (.slice (some ⟨go14, 0, none⟩) t534.length co14) y537 := (by rw [hw, Ny537.out]; exact HP17.1); clear HP17; have n0_ := Aside0.mk (hp_); have n1_ := Aside0.mk ((by rw [hw]; exact below_set (HB.out) GB14.out : Below w.heap.size w w18)); clear HO536; clear HB; have HO536 := n0_; have HB := n1_; clear n0_ n1_; clear hg hw hp_) | ((with_reducible refine gate_callee (f := 51) rfl ?_); refine goesL_ (some 32) rfl rfl Try.func51 (by kernel_rfl) rfl #[.slice (some ⟨go14, 0, none⟩) t534.length co14] rfl (by (try simp only [List.map_toArray, List.map_cons, List.map_nil]); first | done | rfl | (simp only [List.length_drop, List.length_take]; rfl)) ?_; (with_reducible refine (impl_checkedWarnings.calls kj4 (fun k_ => some k_ = (.slice (some ⟨go14, 0, none⟩) t534.length co14 : Value).ownBlock) (.slice (some ⟨go14, 0, none⟩) t534.length co14) y537 t538 t541 w _ ?side1 ?side2 A15.out).mono ?_); (case side1 => repeat (first | (with_reducible first | exact HB.out | apply below_alloc | apply pw_below_drewN | apply below_drew1) | exact HB.out)); (case side2 => exact Kd.R_tight rfl HO536.out); rintro e w19 ⟨v539, rfl, ho0, hb, hkp⟩; refine ⟨_, rfl, ?_⟩; have n0_ := Aside0.mk (Kd.R_mono (ok' := fun k_ => True) ho0 (fun k_ hk_ => trivial)); have n1_ := Aside0.mk (hb); clear HB; clear HO536; have HO540 := n0_; have HB := n1_; clear n0_ n1_; (try clear hb); (try clear hkp); (try clear ho0)))
      go_ret2
      exact ⟨_, by first | rfl | (simp [errW_none, errW_some] <;> rfl) | (simp [*, errW_none, errW_some] <;> rfl), by (with_reducible repeat (first | apply Kd.R_alloc | apply Kd.R_drewN | apply Kd.R_drew)); exact HO540.out, by repeat (first | (with_reducible first | exact HB.out | apply below_alloc | apply pw_below_drewN | apply below_drew1) | exact HB.out)⟩
     ·
      rw [if_neg c13] at H
      exact absurd H (by simp)
    ·
     rw [if_neg c12] at H
     exact absurd H (by simp)

end Go.Proofs.Ytfemneoahkglmaa.Q
