/- Texts of this seat, put together: Qf41, Qf64, Qf75, Qf42. -/
import Derived.Test.YtklepiechbnenaaZFnIssuing
import Derived.Test.YtklepiechbnenaaBFnIssuing0
import Derived.Test.YtklepiechbnenaaBFnIssuing1
import Derived.Test.YtklepiechbnenaaBFnIssuing3
import Derived.Test.YtklepiechbnenaaBFnIssuing5
import Derived.Test.YtklepiechbnenaaBFnIssuing8
namespace Go.Proofs.Ytklepiechbnenaa.Q
open Go.RowKit Go.Proofs.YtklepiechbnenaaW.PrintWords Go.Proofs.YtklepiechbnenaaW.PrintLast Go.Proofs.YtklepiechbnenaaW.PrintMore
attribute [local go_sem] max2_int min2_int max_two min_two max_three min_three max_four min_four   -- for this text's walks alone
set_option linter.unusedVariables false
set_option linter.unusedSimpArgs false

/-! ### impl_ExtendWarning: function 41 -/
def impl_ExtendWarning.j0 : Nat → List (S31) → Int → Int → Bool → Option ((List (S31)) × Bool)
 | 0, _, _, _, _ => none
 | k + 1, x0, x2, x8, x23 => if x23 = true then (some (([] : List (S31)), false)) else ((impl_Warning_61.f x0).bind fun t822 => (if 0 ≤ x8 then (if x8 < (t822.length : Int) then ((impl_checkedWarnings.f k (t822.set (x8 : Int).toNat (⟨(rd_T31 t822 x8).f0, (rd_T31 t822 x8).f1, (rd_T31 t822 x8).f2, (rd_T31 t822 x8).f3, (rd_T31 t822 x8).f4, x2⟩ : S31))).bind fun bt826 => (some (bt826.1, bt826.2))) else (none)) else (none)))
def impl_ExtendWarning.f (k : Nat) (l0 : List (S31)) (a1 : Int) (a2 : Int) : Option ((List (S31)) × Bool) := (impl_warningAt.f k l0 a1).bind fun t820 => (if t820 < 0 then (impl_ExtendWarning.j0 k l0 a2 t820 true) else (if 0 ≤ t820 then (if t820 < (l0.length : Int) then (impl_ExtendWarning.j0 k l0 a2 t820 (decide (a2 ≤ ((rd_T31 l0 t820).f5)))) else (none)) else (none)))
theorem impl_ExtendWarning.mono_l : ∀ k, (∀ y0 y1 y2 y3, LeO (impl_ExtendWarning.j0 k y0 y1 y2 y3) (impl_ExtendWarning.j0 (k + 1) y0 y1 y2 y3))
 | 0 => fun _ _ _ _ r h => by simp [impl_ExtendWarning.j0] at h
 | k + 1 => by
  have ih0 := impl_ExtendWarning.mono_l k
  ·
   intro y0 y1 y2 y3
   unfold impl_ExtendWarning.j0
   repeat' first
   | (with_reducible exact ih0 _ _ _ _)
   | (with_reducible exact impl_checkedWarnings.mono _ _)
   | (with_reducible exact impl_warningAt.mono _ _ _)
   | (with_reducible exact LeO.refl _)
   | (with_reducible exact LeO.none _)
   | (with_reducible refine LeO.ite ?_ ?_)
   | (with_reducible refine LeO.bind ?_ (fun _ => ?_))
   | exact ih0 _ _ _ _
   | exact impl_checkedWarnings.mono _ _
   | exact impl_warningAt.mono _ _ _
   | exact LeO.none _
   | refine LeO.ite ?_ ?_
   | refine LeO.bind ?_ (fun _ => ?_)
theorem impl_ExtendWarning.mono : ∀ a0 a1 a2 k, LeO (impl_ExtendWarning.f k a0 a1 a2) (impl_ExtendWarning.f (k + 1) a0 a1 a2) := by
 intro a0 a1 a2 k
 have ih0 := impl_ExtendWarning.mono_l k
 unfold impl_ExtendWarning.f
 repeat' first
   | (with_reducible exact ih0 _ _ _ _)
   | (with_reducible exact impl_checkedWarnings.mono _ _)
   | (with_reducible exact impl_warningAt.mono _ _ _)
   | (with_reducible exact LeO.refl _)
   | (with_reducible exact LeO.none _)
   | (with_reducible refine LeO.ite ?_ ?_)
   | (with_reducible refine LeO.bind ?_ (fun _ => ?_))
   | exact ih0 _ _ _ _
   | exact impl_checkedWarnings.mono _ _
   | exact impl_warningAt.mono _ _ _
   | exact LeO.none _
   | refine LeO.ite ?_ ?_
   | refine LeO.bind ?_ (fun _ => ?_)
set_option maxHeartbeats 8000000 in
set_option maxRecDepth 100000 in
theorem impl_ExtendWarning.calls (k : Nat) (A0 : Option Addr) (c0 : Nat) (l0 : List (S31)) (a1 : Int) (a2 : Int) (r1 : List (S31)) (r2 : Bool) (w : World) (hr0 : Kd.C k31 w A0 l0.length l0) (hc0 : l0.length ≤ c0) (h : impl_ExtendWarning.f k l0 a1 a2 = some (r1, r2)) :
  Calls Try.prog 41 #[.slice A0 l0.length c0, .int .i64 a1, .int .i64 a2] w fun e w' => ∃ v0_ : Value, e = .returned (.tuple #[v0_, .bool r2]) ∧ Kd.R k31 31 w' w.heap.size (fun _ => True) v0_ r1 ∧ Below w.heap.size w w' := by
 have HR0 := Aside0.mk hr0
 have HC0 := Aside0.mk hc0
 clear hr0 hc0
 have HB := Aside0.mk (Below.refl w.heap.size w)
 have H : ((impl_warningAt.f k l0 a1).bind fun t820 => (if t820 < 0 then (impl_ExtendWarning.j0 k l0 a2 t820 true) else (if 0 ≤ t820 then (if t820 < (l0.length : Int) then (impl_ExtendWarning.j0 k l0 a2 t820 (decide (a2 ≤ ((rd_T31 l0 t820).f5)))) else (none)) else (none)))) = some (r1, r2) := h
 clear h
 replace H := Option.bind_eq_some_iff.mp H
 obtain ⟨t820, A40, H⟩ := H
 replace H : (if t820 < 0 then (impl_ExtendWarning.j0 k l0 a2 t820 true) else (if 0 ≤ t820 then (if t820 < (l0.length : Int) then (impl_ExtendWarning.j0 k l0 a2 t820 (decide (a2 ≤ ((rd_T31 l0 t820).f5)))) else (none)) else (none))) = some (r1, r2) := H
 have A4 := Aside0.mk A40
 clear A40
 have HC5 := Aside0.mk H
 clear H
 go_enter Try.func41, Try.ntmps41
 go_upto_region 2 with (first | ((with_reducible refine gate_callee (f := 59) rfl ?_); refine goesL_ (some 12) rfl rfl Try.func59 (by kernel_rfl) rfl #[.slice A0 l0.length c0, .int .i64 a1] rfl zq1 ?_; (with_reducible refine (impl_warningAt.calls k _ _ l0 a1 t820 _ ?side1 ?side2 A4.out).mono ?_); (case side1 => repeat (first | exact HR0.out | (with_reducible refine Kd.C_alloc ?_ _) | (with_reducible refine Kd.C_drewN ?_ _) | (with_reducible refine Kd.C_drew ?_))); (case side2 => exact HC0.out); rintro e w6 ⟨rfl, hb⟩; refine ⟨_, rfl, ?_⟩; have n0_ := Aside0.mk (below_step zq0 hb); clear HB; have HB := n0_; clear n0_; (try clear hb); (try clear hb2); (try clear hk); (try clear hi)))
 (try simp only [Act.put, List.setIfInBounds_toArray, List.set_cons_zero, List.set_cons_succ])
 go_cut [23] (fun v23 wc => ∃ (kq : Nat) (x23_4 : Bool), v23 = .bool x23_4 ∧ Aside0 (impl_ExtendWarning.j0 kq l0 a2 t820 x23_4 = some (r1, r2)) ∧ Aside0 (kq ≤ k) ∧ Aside0 (Below w.heap.size w wc))
 case first =>
  have H := HC5.out
  clear HC5
  by_cases c7 : t820 < 0
  ·
   rw [if_pos c7] at H
   have c7b0 : decide (t820 < 0) = true := decide_eq_true c7
   clear c7
   (first | rw [c7b0] | (simp only [i64_w, i32_w]; rw [c7b0]) | skip)
   have H' := Aside0.mk H
   clear H
   go_wp2
   go_meet
   case rel => exact ⟨_, (true), (by first | rfl | (simp; done) | (simp [*]; done)), H', ⟨by first | omega | exact Nat.le_refl _⟩, ⟨by repeat (first | (with_reducible first | exact HB.out | apply below_alloc | apply pw_below_drewN | apply below_drew1) | exact HB.out)⟩⟩
  ·
   rw [if_neg c7] at H
   have c7b0 : decide (t820 < 0) = false := decide_eq_false c7
   clear c7
   (first | rw [c7b0] | (simp only [i64_w, i32_w]; rw [c7b0]) | skip)
   by_cases c8 : 0 ≤ t820
   ·
    rw [if_pos c8] at H
    have c8b0 : decide (0 ≤ t820) = true := decide_eq_true c8
    clear c8
    by_cases c9 : t820 < (l0.length : Int)
    ·
     rw [if_pos c9] at H
     have c9b0 : decide (t820 < (l0.length : Int)) = true := decide_eq_true c9
     clear c9
     have H' := Aside0.mk H
     clear H
     have p821 : 0 ≤ (t820 : Int) := of_decide_eq_true zq2
     have q821 : t820 < (l0.length : Int) := of_decide_eq_true zq2
     obtain ⟨ad821, e821, hx821_0, hx821_1, hx821_2, hx821_3, hx821_4, hx821_5⟩ := at_T31 HR0.out t820 p821 q821
     cases e821
     replace hx821_0 := (HB.out.cell (World.block_lt_of_cell? w _ hx821_0)).trans hx821_0
     replace hx821_1 := (HB.out.cell (World.block_lt_of_cell? w _ hx821_1)).trans hx821_1
     replace hx821_2 := (HB.out.cell (World.block_lt_of_cell? w _ hx821_2)).trans hx821_2
     replace hx821_3 := (HB.out.cell (World.block_lt_of_cell? w _ hx821_3)).trans hx821_3
     replace hx821_4 := (HB.out.cell (World.block_lt_of_cell? w _ hx821_4)).trans hx821_4
     replace hx821_5 := (HB.out.cell (World.block_lt_of_cell? w _ hx821_5)).trans hx821_5
     replace p821 := eq_true p821
     replace q821 := eq_true q821
     go_wp2
     go_meet
     case rel => exact ⟨_, (decide (a2 ≤ ((rd_T31 l0 t820).f5))), (by first | rfl | (simp; done) | (simp [*]; done)), H', ⟨by first | omega | exact Nat.le_refl _⟩, ⟨by repeat (first | (with_reducible first | exact HB.out | apply below_alloc | apply pw_below_drewN | apply below_drew1) | exact HB.out)⟩⟩
    ·
     rw [if_neg c9] at H
     exact absurd H (by simp)
   ·
    rw [if_neg c8] at H
    exact absurd H (by simp)
 case rest =>
  clear HC5
  try clear p2
  try clear c4
  try clear c5
  try clear c7
  try clear c7b0
  try clear c8
  try clear c8b0
  try clear p8
  try clear q8
  try clear hx8
  try clear c9
  try clear c9b0
  try clear hx821_0
  try clear hx821_1
  try clear hx821_2
  try clear hx821_3
  try clear hx821_4
  try clear hx821_5
  try clear p821
  try clear q821
  obtain ⟨kq, x23_4, rfl, HA, HJ4, HB⟩ := hcut
  cases kq with
  | zero => exact absurd HA.out (by simp [impl_ExtendWarning.j0])
  | succ kj4 =>
   have H := HA.out
   clear HA
   simp only [impl_ExtendWarning.j0] at H
   by_cases c10 : x23_4 = true
   ·
    subst c10
    have H1 : (some (([] : List (S31)), false)) = some (r1, r2) := by rw [if_pos rfl] at H; exact H
    clear H
    have H := H1
    clear H1
    simp only [Option.some.injEq, Prod.mk.injEq] at H
    obtain ⟨rfl, rfl⟩ := H
    go_wp2
    go_ret2
    exact ⟨_, by first | rfl | (simp [errW_none, errW_some] <;> rfl) | (simp [*, errW_none, errW_some] <;> rfl), by first | exact Kd.R_nil _ _ _ _ _ | exact Kd.N_nil _ _ _ _ _ | exact Kd.V_nil _ _ _ _ _ | exact Kd.Q_nil _ _ _ _ _ | exact Kd.S_nil _ _ _ _ _, by repeat (first | (with_reducible first | exact HB.out | apply below_alloc | apply pw_below_drewN | apply below_drew1) | exact HB.out)⟩
   ·
    replace c10 := Bool.eq_false_iff.mpr c10
    subst c10
    have H1 : ((impl_Warning_61.f l0).bind fun t822 => (if 0 ≤ t820 then (if t820 < (t822.length : Int) then ((impl_checkedWarnings.f kj4 (t822.set (t820 : Int).toNat (⟨(rd_T31 t822 t820).f0, (rd_T31 t822 t820).f1, (rd_T31 t822 t820).f2, (rd_T31 t822 t820).f3, (rd_T31 t822 t820).f4, a2⟩ : S31))).bind fun bt826 => (some (bt826.1, bt826.2))) else (none)) else (none))) = some (r1, r2) := by rw [if_neg (show ¬ (false = true) by decide)] at H; exact H
    clear H
    have H := H1
    clear H1
    replace H := Option.bind_eq_some_iff.mp H
    obtain ⟨t822, A110, H⟩ := H
    replace H : (if 0 ≤ t820 then (if t820 < (t822.length : Int) then ((impl_checkedWarnings.f kj4 (t822.set (t820 : Int).toNat (⟨(rd_T31 t822 t820).f0, (rd_T31 t822 t820).f1, (rd_T31 t822 t820).f2, (rd_T31 t822 t820).f3, (rd_T31 t822 t820).f4, a2⟩ : S31))).bind fun bt826 => (some (bt826.1, bt826.2))) else (none)) else (none)) = some (r1, r2) := H
    have A11 := Aside0.mk A110
    clear A110
    by_cases c12 : 0 ≤ t820
    ·
     rw [if_pos c12] at H
     have c12b0 : decide (0 ≤ t820) = true := decide_eq_true c12
     clear c12
     by_cases c13 : t820 < (t822.length : Int)
     ·
      rw [if_pos c13] at H
      have c13b0 : decide (t820 < (t822.length : Int)) = true := decide_eq_true c13
      clear c13
      obtain ⟨y825, hy825⟩ : ∃ y_ : List (S31), y_ = (t822.set (t820 : Int).toNat (⟨(rd_T31 t822 t820).f0, (rd_T31 t822 t820).f1, (rd_T31 t822 t820).f2, (rd_T31 t822 t820).f3, (rd_T31 t822 t820).f4, a2⟩ : S31)) := ⟨_, rfl⟩
      replace H : ((impl_checkedWarnings.f kj4 y825).bind fun bt826 => (some (bt826.1, bt826.2))) = some (r1, r2) := by first | (rw [hy825]; with_reducible exact H) | (have H2_ := (Option.bind_some _ _).symm.trans H; rw [hy825]; with_reducible exact H2_) | (have H2_ := (Option.bind_some _ _).symm.trans H; with_reducible exact H2_) | with_reducible exact H | (rw [hy825]; exact H) | exact H
      have Ny825 := Aside0.mk hy825
      clear hy825
      replace H := Option.bind_eq_some_iff.mp H
      obtain ⟨⟨t826, t829⟩, A150, H⟩ := H
      replace H : (some (t826, t829)) = some (r1, r2) := H
      have A15 := Aside0.mk A150
      clear A150
      simp only [Option.some.injEq, Prod.mk.injEq] at H
      obtain ⟨rfl, rfl⟩ := H
      go_wp2_with (first | ((with_reducible refine gate_callee (f := 61) rfl ?_); refine goesL_ (some 25) rfl rfl Try.func61 (by kernel_rfl) rfl #[.slice A0 l0.length c0] rfl zq1 ?_; (with_reducible refine (impl_Warning_61.calls _ _ l0 t822 _ ?side1 ?side2 A11.out).mono ?_); (case side1 => repeat (first | exact (Kd.C_below HR0.out HB.out) | (with_reducible refine Kd.C_alloc ?_ _) | (with_reducible refine Kd.C_drewN ?_ _) | (with_reducible refine Kd.C_drew ?_))); (case side2 => exact HC0.out); rintro e w16 ⟨v823, rfl, ho0, hb⟩; refine ⟨_, rfl, ?_⟩; have n0_ := Aside0.mk (Kd.R_lower ho0 (below_size zq0)); have n1_ := Aside0.mk (below_step zq0 hb); clear HB; have HO824 := n0_; have HB := n1_; clear n0_ n1_; (try clear hb); (try clear hb2); (try clear hk); (try clear hi); (try clear ho0); have p14 : 0 ≤ (t820 : Int) := of_decide_eq_true zq2; have q14 : (t820 : Int) < ((t822.length : Int) : Int) := of_decide_eq_true zq2; obtain ⟨go14, co14, eo14, gb14, gl14, cl14, HG14⟩ := Kd.R_form HO824.out (by omega); (first | cases eo14 | (injection eo14 with ea_ en_ ec_; (first | subst ea_ | (injection ea_ with ea_; subst ea_)); subst ec_; clear en_)); have GB14 := Aside0.mk gb14; have GG14 := Aside0.mk HG14; clear gb14 gl14 HG14; obtain ⟨ce14, hcl14, hM14, hcc14, hfr14⟩ := Kd.R_elem HO824.out z31 (t820 : Int) p14 q14; obtain rfl := k31_openM hM14; have hx14_0 : w16.cell? ⟨go14, (t820 : Int).toNat * 6, none⟩ = some (.int .i64 ((rd_T31 t822 t820).f0)) := hcc14 0 _ rfl; have hx14_1 : w16.cell? ⟨go14, (t820 : Int).toNat * 6 + 1, none⟩ = some (.int .i64 ((rd_T31 t822 t820).f1)) := hcc14 1 _ rfl; have hx14_2 : w16.cell? ⟨go14, (t820 : Int).toNat * 6 + 2, none⟩ = some (.int .i64 ((rd_T31 t822 t820).f2)) := hcc14 2 _ rfl; have hx14_3 : w16.cell? ⟨go14, (t820 : Int).toNat * 6 + 3, none⟩ = some (.int .i64 ((rd_T31 t822 t820).f3)) := hcc14 3 _ rfl; have hx14_4 : w16.cell? ⟨go14, (t820 : Int).toNat * 6 + 4, none⟩ = some (.int .i64 ((rd_T31 t822 t820).f4)) := hcc14 4 _ rfl; have hx14_5 : w16.cell? ⟨go14, (t820 : Int).toNat * 6 + 5, none⟩ = some (.int .i64 ((rd_T31 t822 t820).f5)) := hcc14 5 _ rfl; have hf14_0 : w16.frozen? ⟨go14, (t820 : Int).toNat * 6, none⟩ = false := hfr14 0; have hf14_1 : w16.frozen? ⟨go14, (t820 : Int).toNat * 6 + 1, none⟩ = false := hfr14 1; have hf14_2 : w16.frozen? ⟨go14, (t820 : Int).toNat * 6 + 2, none⟩ = false := hfr14 2; have hf14_3 : w16.frozen? ⟨go14, (t820 : Int).toNat * 6 + 3, none⟩ = false := hfr14 3; have hf14_4 : w16.frozen? ⟨go14, (t820 : Int).toNat * 6 + 4, none⟩ = false := hfr14 4; have hf14_5 : w16.frozen? ⟨go14, (t820 : Int).toNat * 6 + 5, none⟩ = false := hfr14 5; clear hcl14 hcc14 hfr14 hM14; replace p14 := eq_true p14; replace q14 := eq_true q14; have HX17 := Aside0.mk (show Kd.R k31 31 w16 w.heap.size (fun _ => True) (.slice (some ⟨go14, 0, none⟩) t822.length co14) t822 from (zqR HO824.out)); obtain ⟨ce17, hcl17, hM17, hcc17, hfr17⟩ := Kd.R_elem HX17.out z31 (t820 : Int) (of_decide_eq_true zq2) (by have h_ : (t820 : Int) < ((t822.length : Int) : Int) := of_decide_eq_true zq2; first | exact h_ | (have e_ := (Kd.R_reads' HO824.out).1; omega) | simpa using h_); obtain rfl := k31_openM hM17; have HP17 := Kd.R_seg HX17.out (t820 : Int) (of_decide_eq_true zq2) (by have h_ : (t820 : Int) < ((t822.length : Int) : Int) := of_decide_eq_true zq2; first | exact h_ | (have e_ := (Kd.R_reads' HO824.out).1; omega) | simpa using h_) (seg := [.int .i64 a2]) (j := 5) hcl17 hcc17 (show 6 ≤ 6 from by decide) (x' := (⟨(rd_T31 t822 t820).f0, (rd_T31 t822 t820).f1, (rd_T31 t822 t820).f2, (rd_T31 t822 t820).f3, (rd_T31 t822 t820).f4, a2⟩ : S31)) (k31_mkM _ _ _ (⟨(rd_T31 t822 t820).f0, (rd_T31 t822 t820).f1, (rd_T31 t822 t820).f2, (rd_T31 t822 t820).f3, (rd_T31 t822 t820).f4, a2⟩ : S31) ) (fun _ hk => hk); have hx17_5 := hcc17 5 _ rfl; (try simp only [show (k31).sz = 6 from rfl, Nat.mul_one, Nat.add_zero] at hx17_5); have hf17_5 := hfr17 5; (try simp only [show (k31).sz = 6 from rfl, Nat.mul_one, Nat.add_zero] at hf17_5); clear hcl17 hcc17 hfr17 hM17) | ((with_reducible refine gate_store (t := 3) (p := 30) rfl ?_); refine store_event (t := 3) (p := 30) (v := ?vo_w18) (w1 := (w16.setCell ⟨go14, (t820 : Int).toNat * 6 + 5, none⟩ (.int .i64 a2))) ?hg ?ho ?hn ?hr ?_; (case ho => rfl); (case hg => rfl); (case hn => rfl); (case hr => first | (go_simp; done) | (go_simp; rfl)); intro w18 hw; have hg : w16.grownBy w18 (some go14) := (by rw [hw]; exact HP17.2); have hp_ : Kd.R k31 31 w18 w.heap.size (fun _ => True) (.slice (some ⟨go14, 0, none⟩) t822.length co14) y825 := (by rw [hw, Ny825.out]; exact HP17.1); clear HP17; have n0_ := Aside0.mk (hp_); have n1_ := Aside0.mk ((by rw [hw]; exact below_set (HB.out) GB14.out : Below w.heap.size w w18)); clear HO824; clear HB; have HO824 := n0_; have HB := n1_; clear n0_ n1_; clear hg hw hp_) | ((with_reducible refine gate_callee (f := 85) rfl ?_); refine goesL_ (some 32) rfl rfl Try.func85 (by kernel_rfl) rfl #[.slice (some ⟨go14, 0, none⟩) t822.length co14] rfl zq1 ?_; (with_reducible refine (impl_checkedWarnings.calls kj4 (fun k_ => some k_ = (.slice (some ⟨go14, 0, none⟩) t822.length co14 : Value).ownBlock) (.slice (some ⟨go14, 0, none⟩) t822.length co14) y825 t826 t829 w _ ?side1 ?side2 A15.out).mono ?_); (case side1 => repeat (first | (with_reducible first | exact HB.out | apply below_alloc | apply pw_below_drewN | apply below_drew1) | exact HB.out)); (case side2 => exact Kd.R_tight rfl HO824.out); rintro e w19 ⟨v827, rfl, ho0, hb, hkp⟩; refine ⟨_, rfl, ?_⟩; have n0_ := Aside0.mk (Kd.R_mono (ok' := fun k_ => True) ho0 (fun k_ hk_ => trivial)); have n1_ := Aside0.mk (hb); clear HB; clear HO824; have HO828 := n0_; have HB := n1_; clear n0_ n1_; (try clear hb); (try clear hkp); (try clear ho0)))
      go_ret2
      exact ⟨_, by first | rfl | (simp [errW_none, errW_some] <;> rfl) | (simp [*, errW_none, errW_some] <;> rfl), by (with_reducible repeat (first | apply Kd.R_alloc | apply Kd.R_drewN | apply Kd.R_drew)); exact HO828.out, by repeat (first | (with_reducible first | exact HB.out | apply below_alloc | apply pw_below_drewN | apply below_drew1) | exact HB.out)⟩
     ·
      rw [if_neg c13] at H
      exact absurd H (by simp)
    ·
     rw [if_neg c12] at H
     exact absurd H (by simp)

end Go.Proofs.Ytklepiechbnenaa.Q
namespace Go.Proofs.Ytklepiechbnenaa.Q
open Go.RowKit Go.Proofs.YtklepiechbnenaaW.PrintWords Go.Proofs.YtklepiechbnenaaW.PrintLast Go.Proofs.YtklepiechbnenaaW.PrintMore
attribute [local go_sem] max2_int min2_int max_two min_two max_three min_three max_four min_four   -- for this text's walks alone
set_option linter.unusedVariables false
set_option linter.unusedSimpArgs false

/-! ### spec_l14With: function 64 -/
def spec_l14With.f (l0 : List (S31)) (a1 : Int) (a2_0 : Int) (a2_1 : Int) (a2_2 : Int) (a2_3 : Int) (a2_4 : Int) (a2_5 : Int) : Option ((List (S31))) := (some (([] : List (S31)) : List (S31))).bind fun y326 => (if y326.length + l0.length < 2932031007402 then ((some (y326 ++ l0 : List (S31))).bind fun y329 => (if 0 ≤ a1 then (if a1 < (y329.length : Int) then (some (y329.set (a1 : Int).toNat (⟨a2_0, a2_1, a2_2, a2_3, a2_4, a2_5⟩ : S31))) else (none)) else (none))) else (none))
set_option maxHeartbeats 8000000 in
set_option maxRecDepth 100000 in
theorem spec_l14With.calls (A0 : Option Addr) (c0 : Nat) (l0 : List (S31)) (a1 : Int) (a2_0 : Int) (a2_1 : Int) (a2_2 : Int) (a2_3 : Int) (a2_4 : Int) (a2_5 : Int) (r : List (S31)) (w : World) (hr0 : Kd.C k31 w A0 l0.length l0) (hc0 : l0.length ≤ c0) (h : spec_l14With.f l0 a1 a2_0 a2_1 a2_2 a2_3 a2_4 a2_5 = some r) :
  Calls Try.prog 64 #[.slice A0 l0.length c0, .int .i64 a1, .agg #[.int .i64 a2_0, .int .i64 a2_1, .int .i64 a2_2, .int .i64 a2_3, .int .i64 a2_4, .int .i64 a2_5]] w fun e w' => ∃ v0_ : Value, e = .returned (v0_) ∧ Kd.R k31 31 w' w.heap.size (fun _ => True) v0_ r ∧ Below w.heap.size w w' := by
 have hu31 := Try.underlying31
 have HR0 := Aside0.mk hr0
 have HC0 := Aside0.mk hc0
 clear hr0 hc0
 have HB := Aside0.mk (Below.refl w.heap.size w)
 have H : ((some (([] : List (S31)) : List (S31))).bind fun y326 => (if y326.length + l0.length < 2932031007402 then ((some (y326 ++ l0 : List (S31))).bind fun y329 => (if 0 ≤ a1 then (if a1 < (y329.length : Int) then (some (y329.set (a1 : Int).toNat (⟨a2_0, a2_1, a2_2, a2_3, a2_4, a2_5⟩ : S31))) else (none)) else (none))) else (none))) = some r := h
 clear h
 obtain ⟨y326, hy326⟩ : ∃ y_ : List (S31), y_ = (([] : List (S31))) := ⟨_, rfl⟩
 replace H : (if y326.length + l0.length < 2932031007402 then ((some (y326 ++ l0 : List (S31))).bind fun y329 => (if 0 ≤ a1 then (if a1 < (y329.length : Int) then (some (y329.set (a1 : Int).toNat (⟨a2_0, a2_1, a2_2, a2_3, a2_4, a2_5⟩ : S31))) else (none)) else (none))) else (none)) = some r := by first | (rw [hy326]; with_reducible exact H) | (have H2_ := (Option.bind_some _ _).symm.trans H; rw [hy326]; with_reducible exact H2_) | (have H2_ := (Option.bind_some _ _).symm.trans H; with_reducible exact H2_) | with_reducible exact H | (rw [hy326]; exact H) | exact H
 have Ny326 := Aside0.mk hy326
 clear hy326
 by_cases c4 : y326.length + l0.length < 2932031007402
 ·
  rw [if_pos c4] at H
  have LMc4 := Aside0.mk c4
  clear c4
  obtain ⟨y329, hy329⟩ : ∃ y_ : List (S31), y_ = (y326 ++ l0) := ⟨_, rfl⟩
  replace H : (if 0 ≤ a1 then (if a1 < (y329.length : Int) then (some (y329.set (a1 : Int).toNat (⟨a2_0, a2_1, a2_2, a2_3, a2_4, a2_5⟩ : S31))) else (none)) else (none)) = some r := by first | (rw [hy329]; with_reducible exact H) | (have H2_ := (Option.bind_some _ _).symm.trans H; rw [hy329]; with_reducible exact H2_) | (have H2_ := (Option.bind_some _ _).symm.trans H; with_reducible exact H2_) | with_reducible exact H | (rw [hy329]; exact H) | exact H
  have Ny329 := Aside0.mk hy329
  clear hy329
  by_cases c5 : 0 ≤ a1
  ·
   rw [if_pos c5] at H
   have c5b0 : decide (0 ≤ a1) = true := decide_eq_true c5
   clear c5
   by_cases c6 : a1 < (y329.length : Int)
   ·
    rw [if_pos c6] at H
    have c6b0 : decide (a1 < (y329.length : Int)) = true := decide_eq_true c6
    clear c6
    obtain ⟨y332, hy332⟩ : ∃ y_ : List (S31), y_ = (y329.set (a1 : Int).toNat (⟨a2_0, a2_1, a2_2, a2_3, a2_4, a2_5⟩ : S31)) := ⟨_, rfl⟩
    replace H : (some y332) = some r := by first | (rw [hy332]; with_reducible exact H) | (have H2_ := (Option.bind_some _ _).symm.trans H; rw [hy332]; with_reducible exact H2_) | (have H2_ := (Option.bind_some _ _).symm.trans H; with_reducible exact H2_) | with_reducible exact H | (rw [hy332]; exact H) | exact H
    have Ny332 := Aside0.mk hy332
    clear hy332
    obtain rfl := Option.some.inj H
    go_enter Try.func64, Try.ntmps64
    go_wp2_with (first | ((with_reducible refine gate_dst (N := 5) rfl ?_); refine box_event ?hg (N := 5) ?hd (cs := #[.int .i64 a2_0, .int .i64 a2_1, .int .i64 a2_2, .int .i64 a2_3, .int .i64 a2_4, .int .i64 a2_5]) (t := 31) ?hr ?_; (case hd => rfl); (case hg => rfl); (case hr => first | (go_simp; done) | (go_simp; rfl)); intro gb325 hg w8 hbox hb; have n0_ := Aside0.mk (below_step zq0 hb); have n1_ := Aside0.mk (hbox); have n2_ := Aside0.mk ((by rw [hg]; exact (below_size zq0) : w.heap.size ≤ gb325)); have n3_ := Aside0.mk ((by rw [hg]; exact (below_size zq0) : w.heap.size ≤ gb325)); clear HB; have HB := n0_; have BK325 := n1_; have GW325 := n2_; have GE325 := n3_; clear n0_ n1_ n2_ n3_; clear hb hbox hg) | ((with_reducible refine gate_dst (N := 8) rfl ?_); refine Kd.R_lit k31 _ 31 ?hg (N := 8) ?hd (xs := ([] : List (S31))) (inner := []) (ok := fun _ => True) (okp := fun _ => True) ?hr ?hp (fun _ hk => hk) trivial (Below.refl _ _) (Nat.le_refl _) (by simp) ?_; (case hd => rfl); (case hg => rfl); (case hr => first | (go_simp; done) | (go_simp; rfl)); (case hp => exact (Reps.none _ _)); intro v327 w9 ho10 hb hg_ hnew_; clear hg_ hnew_; (first | rw [← Ny326.out] at ho10 | (simp only [Int.reduceToNat] at ho10; rw [← Ny326.out] at ho10)); have n0_ := Aside0.mk (Kd.R_lower (Kd.R_newB ho10 (g := gb325) (o := .cells #[.int .i64 a2_0, .int .i64 a2_1, .int .i64 a2_2, .int .i64 a2_3, .int .i64 a2_4, .int .i64 a2_5] 31 (0, 0)) (zqK BK325.out)) (below_size zq37)); have n1_ := Aside0.mk (blk_below (g := gb325) (o := .cells #[.int .i64 a2_0, .int .i64 a2_1, .int .i64 a2_2, .int .i64 a2_3, .int .i64 a2_4, .int .i64 a2_5] 31 (0, 0)) (zqK BK325.out) hb); have n2_ := Aside0.mk (below_step zq37 hb); clear BK325; clear HB; have HO328 := n0_; have BK325 := n1_; have HB := n2_; clear n0_ n1_ n2_; clear hb ho10) | ((with_reducible refine gate_builtin (b := .append) (xs := #[.tmp 8, .tmp 9]) rfl ?_); at_builtin; refine Kd.R_append_rows k31 (w0 := w) w.heap.size rfl (.tmp 8) (.tmp 9) 24 31 (.agg #[(.int .i64 0), (.int .i64 0), (.int .i64 0), (.int .i64 0), (.int .i64 0), (.int .i64 0)]) 48 rfl Try.underlying24 info31 rfl (by decide) (by omega) v327 y326 l0 _ _ _ (fun k_ => k_ ≠ gb325) (fun _ => False) rfl rfl ?aO ?aR (fun _ _ h => h) (fun _ h => h.elim) ?aF ?aB ?aS ?aL ?_; (case aR => repeat (first | exact (Kd.C_below HR0.out HB.out) | (with_reducible refine Kd.C_alloc ?_ _) | (with_reducible refine Kd.C_drewN ?_ _) | (with_reducible refine Kd.C_drew ?_))); (case aB => exact zq37); (case aF => exact (fun k_ hk => Kd.freshB (g := gb325) (o := .cells #[.int .i64 a2_0, .int .i64 a2_1, .int .i64 a2_2, .int .i64 a2_3, .int .i64 a2_4, .int .i64 a2_5] 31 (0, 0)) (zqK BK325.out) k_ hk)); (case aO => exact (by (with_reducible repeat (first | apply Kd.R_alloc | apply Kd.R_drewN | apply Kd.R_drew)); exact Kd.R_mono HO328.out (fun _ hk => hk.2))); (case aS => exact (below_size zq37)); (case aL => have := LMc4.out; omega); intro v330 w11 ho hb hg hat; rw [← Ny329.out] at ho; have n0_ := Aside0.mk (blk_grown (g := gb325) (o := .cells #[.int .i64 a2_0, .int .i64 a2_1, .int .i64 a2_2, .int .i64 a2_3, .int .i64 a2_4, .int .i64 a2_5] 31 (0, 0)) (zqK BK325.out) hg (Kd.R_away HO328.out (fun _ hk => hk.2))); have n1_ := Aside0.mk (hb); have n2_ := Aside0.mk (ho); clear BK325; clear HB; clear HO328; have BK325 := n0_; have HB := n1_; have HO331 := n2_; clear n0_ n1_ n2_; clear ho hb hg hat; have hcz12_0 : w11.cell? ⟨gb325, 0, none⟩ = some (.int .i64 a2_0) := (blk_cell BK325.out 0).trans rfl; have hcz12_1 : w11.cell? ⟨gb325, 1, none⟩ = some (.int .i64 a2_1) := (blk_cell BK325.out 1).trans rfl; have hcz12_2 : w11.cell? ⟨gb325, 2, none⟩ = some (.int .i64 a2_2) := (blk_cell BK325.out 2).trans rfl; have hcz12_3 : w11.cell? ⟨gb325, 3, none⟩ = some (.int .i64 a2_3) := (blk_cell BK325.out 3).trans rfl; have hcz12_4 : w11.cell? ⟨gb325, 4, none⟩ = some (.int .i64 a2_4) := (blk_cell BK325.out 4).trans rfl; have hcz12_5 : w11.cell? ⟨gb325, 5, none⟩ = some (.int .i64 a2_5) := (blk_cell BK325.out 5).trans rfl; have hfz12_0 := blk_frozen BK325.out 0; have hfz12_1 := blk_frozen BK325.out 1; have hfz12_2 := blk_frozen BK325.out 2; have hfz12_3 := blk_frozen BK325.out 3; have hfz12_4 := blk_frozen BK325.out 4; have hfz12_5 := blk_frozen BK325.out 5; have p7 : 0 ≤ (a1 : Int) := of_decide_eq_true zq2; have q7 : (a1 : Int) < ((y329.length : Int) : Int) := of_decide_eq_true zq2; obtain ⟨go7, co7, eo7, gb7, gl7, cl7, HG7⟩ := Kd.R_form HO331.out (by omega); (first | cases eo7 | (injection eo7 with ea_ en_ ec_; (first | subst ea_ | (injection ea_ with ea_; subst ea_)); subst ec_; clear en_)); have GB7 := Aside0.mk gb7; have GG7 := Aside0.mk HG7; clear gb7 gl7 HG7; obtain ⟨ce7, hcl7, hM7, hcc7, hfr7⟩ := Kd.R_elem HO331.out z31 (a1 : Int) p7 q7; obtain rfl := k31_openM hM7; have hx7_0 : w11.cell? ⟨go7, (a1 : Int).toNat * 6, none⟩ = some (.int .i64 ((rd_T31 y329 a1).f0)) := hcc7 0 _ rfl; have hx7_1 : w11.cell? ⟨go7, (a1 : Int).toNat * 6 + 1, none⟩ = some (.int .i64 ((rd_T31 y329 a1).f1)) := hcc7 1 _ rfl; have hx7_2 : w11.cell? ⟨go7, (a1 : Int).toNat * 6 + 2, none⟩ = some (.int .i64 ((rd_T31 y329 a1).f2)) := hcc7 2 _ rfl; have hx7_3 : w11.cell? ⟨go7, (a1 : Int).toNat * 6 + 3, none⟩ = some (.int .i64 ((rd_T31 y329 a1).f3)) := hcc7 3 _ rfl; have hx7_4 : w11.cell? ⟨go7, (a1 : Int).toNat * 6 + 4, none⟩ = some (.int .i64 ((rd_T31 y329 a1).f4)) := hcc7 4 _ rfl; have hx7_5 : w11.cell? ⟨go7, (a1 : Int).toNat * 6 + 5, none⟩ = some (.int .i64 ((rd_T31 y329 a1).f5)) := hcc7 5 _ rfl; have hf7_0 : w11.frozen? ⟨go7, (a1 : Int).toNat * 6, none⟩ = false := hfr7 0; have hf7_1 : w11.frozen? ⟨go7, (a1 : Int).toNat * 6 + 1, none⟩ = false := hfr7 1; have hf7_2 : w11.frozen? ⟨go7, (a1 : Int).toNat * 6 + 2, none⟩ = false := hfr7 2; have hf7_3 : w11.frozen? ⟨go7, (a1 : Int).toNat * 6 + 3, none⟩ = false := hfr7 3; have hf7_4 : w11.frozen? ⟨go7, (a1 : Int).toNat * 6 + 4, none⟩ = false := hfr7 4; have hf7_5 : w11.frozen? ⟨go7, (a1 : Int).toNat * 6 + 5, none⟩ = false := hfr7 5; clear hcl7 hcc7 hfr7 hM7; replace p7 := eq_true p7; replace q7 := eq_true q7; have HX13 := Aside0.mk (show Kd.R k31 31 w11 w.heap.size (fun k_ => k_ ≠ gb325) (.slice (some ⟨go7, 0, none⟩) y329.length co7) y329 from (zqR HO331.out)); obtain ⟨ce13, hcl13, hM13, hcc13, hfr13⟩ := Kd.R_elem HX13.out z31 (a1 : Int) (of_decide_eq_true zq2) (by have h_ : (a1 : Int) < ((y329.length : Int) : Int) := of_decide_eq_true zq2; first | exact h_ | (have e_ := (Kd.R_reads' HO331.out).1; omega) | simpa using h_); obtain rfl := k31_openM hM13; have HP13 := Kd.R_seg HX13.out (a1 : Int) (of_decide_eq_true zq2) (by have h_ : (a1 : Int) < ((y329.length : Int) : Int) := of_decide_eq_true zq2; first | exact h_ | (have e_ := (Kd.R_reads' HO331.out).1; omega) | simpa using h_) (seg := [.int .i64 a2_0, .int .i64 a2_1, .int .i64 a2_2, .int .i64 a2_3, .int .i64 a2_4, .int .i64 a2_5]) (j := 0) hcl13 hcc13 (show 6 ≤ 6 from by decide) (x' := (⟨a2_0, a2_1, a2_2, a2_3, a2_4, a2_5⟩ : S31)) (k31_mkM _ _ _ (⟨a2_0, a2_1, a2_2, a2_3, a2_4, a2_5⟩ : S31) ) (fun _ hk => hk); have hx13_0 := hcc13 0 _ rfl; (try simp only [show (k31).sz = 6 from rfl, Nat.mul_one, Nat.add_zero] at hx13_0); have hf13_0 := hfr13 0; (try simp only [show (k31).sz = 6 from rfl, Nat.mul_one, Nat.add_zero] at hf13_0); have hx13_1 := hcc13 1 _ rfl; (try simp only [show (k31).sz = 6 from rfl, Nat.mul_one, Nat.add_zero] at hx13_1); have hf13_1 := hfr13 1; (try simp only [show (k31).sz = 6 from rfl, Nat.mul_one, Nat.add_zero] at hf13_1); have hx13_2 := hcc13 2 _ rfl; (try simp only [show (k31).sz = 6 from rfl, Nat.mul_one, Nat.add_zero] at hx13_2); have hf13_2 := hfr13 2; (try simp only [show (k31).sz = 6 from rfl, Nat.mul_one, Nat.add_zero] at hf13_2); have hx13_3 := hcc13 3 _ rfl; (try simp only [show (k31).sz = 6 from rfl, Nat.mul_one, Nat.add_zero] at hx13_3); have hf13_3 := hfr13 3; (try simp only [show (k31).sz = 6 from rfl, Nat.mul_one, Nat.add_zero] at hf13_3); have hx13_4 := hcc13 4 _ rfl; (try simp only [show (k31).sz = 6 from rfl, Nat.mul_one, Nat.add_zero] at hx13_4); have hf13_4 := hfr13 4; (try simp only [show (k31).sz = 6 from rfl, Nat.mul_one, Nat.add_zero] at hf13_4); have hx13_5 := hcc13 5 _ rfl; (try simp only [show (k31).sz = 6 from rfl, Nat.mul_one, Nat.add_zero] at hx13_5); have hf13_5 := hfr13 5; (try simp only [show (k31).sz = 6 from rfl, Nat.mul_one, Nat.add_zero] at hf13_5); clear hcl13 hcc13 hfr13 hM13) | ((with_reducible refine gate_store (t := 31) (p := 14) rfl ?_); refine store_event (t := 31) (p := 14) (v := ?vo_w14) (w1 := ((((((w11.setCell ⟨go7, (a1 : Int).toNat * 6, none⟩ (.int .i64 a2_0)).setCell ⟨go7, (a1 : Int).toNat * 6 + 1, none⟩ (.int .i64 a2_1)).setCell ⟨go7, (a1 : Int).toNat * 6 + 2, none⟩ (.int .i64 a2_2)).setCell ⟨go7, (a1 : Int).toNat * 6 + 3, none⟩ (.int .i64 a2_3)).setCell ⟨go7, (a1 : Int).toNat * 6 + 4, none⟩ (.int .i64 a2_4)).setCell ⟨go7, (a1 : Int).toNat * 6 + 5, none⟩ (.int .i64 a2_5))) ?hg ?ho ?hn ?hr ?_; (case ho => rfl); (case hg => rfl); (case hn => rfl); (case hr => first | (go_simp; done) | (go_simp; rfl)); intro w14 hw; have hg : w11.grownBy w14 (some go7) := (by rw [hw]; exact HP13.2); have hp_ : Kd.R k31 31 w14 w.heap.size (fun k_ => k_ ≠ gb325) (.slice (some ⟨go7, 0, none⟩) y329.length co7) y332 := (by rw [hw, Ny332.out]; exact HP13.1); clear HP13; have n0_ := Aside0.mk (blk_grown (g := gb325) (o := .cells #[.int .i64 a2_0, .int .i64 a2_1, .int .i64 a2_2, .int .i64 a2_3, .int .i64 a2_4, .int .i64 a2_5] 31 (0, 0)) (zqK BK325.out) hg (Kd.R_away HO331.out (fun _ hk => hk))); have n1_ := Aside0.mk (hp_); have n2_ := Aside0.mk ((by rw [hw]; exact below_set (below_set (below_set (below_set (below_set (below_set (HB.out) GB7.out) GB7.out) GB7.out) GB7.out) GB7.out) GB7.out : Below w.heap.size w w14)); clear BK325; clear HO331; clear HB; have BK325 := n0_; have HO331 := n1_; have HB := n2_; clear n0_ n1_ n2_; clear hg hw hp_))
    go_ret
    exact ⟨_, by first | rfl | (simp [errW_none, errW_some] <;> rfl) | (simp [*, errW_none, errW_some] <;> rfl), by (with_reducible repeat (first | apply Kd.R_alloc | apply Kd.R_drewN | apply Kd.R_drew)); exact Kd.R_mono HO331.out (fun _ hk => trivial), by repeat (first | (with_reducible first | exact HB.out | apply below_alloc | apply pw_below_drewN | apply below_drew1 | refine below_set ?_ GE325.out) | exact HB.out)⟩
   ·
    rw [if_neg c6] at H
    exact absurd H (by simp)
  ·
   rw [if_neg c5] at H
   exact absurd H (by simp)
 ·
  rw [if_neg c4] at H
  exact absurd H (by simp)

end Go.Proofs.Ytklepiechbnenaa.Q
namespace Go.Proofs.Ytklepiechbnenaa.Q
open Go.RowKit Go.Proofs.YtklepiechbnenaaW.PrintWords Go.Proofs.YtklepiechbnenaaW.PrintLast Go.Proofs.YtklepiechbnenaaW.PrintMore
attribute [local go_sem] max2_int min2_int max_two min_two max_three min_three max_four min_four   -- for this text's walks alone
set_option linter.unusedVariables false
set_option linter.unusedSimpArgs false

/-! ### spec_l14Checked: function 75 -/
def spec_l14Checked.f (k : Nat) (l0 : List (S31)) : Option ((List (S31)) × Bool) := (spec_l14List.f k l0).bind fun t407 => (if t407 = true then (some (l0, true)) else (some ((([] : List (S31))), false)))
theorem spec_l14Checked.mono : ∀ a0 k, LeO (spec_l14Checked.f k a0) (spec_l14Checked.f (k + 1) a0) := by
 intro a0 k
 unfold spec_l14Checked.f
 repeat' first
   | (with_reducible exact spec_l14List.mono _ _)
   | (with_reducible exact LeO.refl _)
   | (with_reducible exact LeO.none _)
   | (with_reducible refine LeO.ite ?_ ?_)
   | (with_reducible refine LeO.bind ?_ (fun _ => ?_))
   | exact spec_l14List.mono _ _
   | exact LeO.none _
   | refine LeO.ite ?_ ?_
   | refine LeO.bind ?_ (fun _ => ?_)
set_option maxHeartbeats 8000000 in
set_option maxRecDepth 100000 in
theorem spec_l14Checked.calls (k : Nat) (P0_ : Nat → Prop) (u9000_ : Value) (l0 : List (S31)) (r1 : List (S31)) (r2 : Bool) (w0 w : World) (hB : Below w0.heap.size w0 w) (ho0 : Kd.R k31 31 w w0.heap.size P0_ u9000_ l0) (h : spec_l14Checked.f k l0 = some (r1, r2)) :
  Calls Try.prog 75 #[u9000_] w fun e w' => ∃ v0_ : Value, e = .returned (.tuple #[v0_, .bool r2]) ∧ Kd.R k31 31 w' w0.heap.size (fun k_ => (P0_ k_ ∨ w.heap.size ≤ k_)) v0_ r1 ∧ Below w0.heap.size w0 w' ∧ Kept w w' (fun k_ => P0_ k_) := by
 have HO0 := Aside0.mk (show Kd.R k31 31 w w0.heap.size (fun k_ => (P0_ k_ ∨ w.heap.size ≤ k_)) u9000_ l0 from Kd.R_mono ho0 (fun k_ hk => (.inl hk)))
 have HK := Aside0.mk (Kept.refl w (fun k_ => P0_ k_))
 have HW0 := Aside0.mk hB.size
 have HB := Aside0.mk hB
 clear hB
 have H : ((spec_l14List.f k l0).bind fun t407 => (if t407 = true then (some (l0, true)) else (some ((([] : List (S31))), false)))) = some (r1, r2) := h
 clear h
 replace H := Option.bind_eq_some_iff.mp H
 obtain ⟨t407, A20, H⟩ := H
 replace H : (if t407 = true then (some (l0, true)) else (some ((([] : List (S31))), false))) = some (r1, r2) := H
 have A2 := Aside0.mk A20
 clear A20
 by_cases c3 : t407 = true
 ·
  subst c3
  have H1 : (some (l0, true)) = some (r1, r2) := by rw [if_pos rfl] at H; exact H
  clear H
  have H := H1
  clear H1
  simp only [Option.some.injEq, Prod.mk.injEq] at H
  obtain ⟨rfl, rfl⟩ := H
  obtain ⟨Ao4, co4, eo4⟩ := Kd.R_slice HO0.out
  subst eo4
  go_enter Try.func75, Try.ntmps75
  go_wp2_with (first | ((with_reducible refine gate_callee (f := 63) rfl ?_); refine goesL_ (some 5) rfl rfl Try.func63 (by kernel_rfl) rfl #[.slice Ao4 l0.length co4] rfl zq1 ?_; (with_reducible refine (spec_l14List.calls k _ _ l0 true _ ?side1 ?side2 A2.out).mono ?_); (case side1 => repeat (first | exact (Kd.R_reads' HO0.out).2.2 | (with_reducible refine Kd.C_alloc ?_ _) | (with_reducible refine Kd.C_drewN ?_ _) | (with_reducible refine Kd.C_drew ?_))); (case side2 => exact (Kd.R_reads' HO0.out).2.1); rintro e w5 ⟨rfl, hb⟩; refine ⟨_, rfl, ?_⟩; have n0_ := Aside0.mk (Kd.R_below (zqR HO0.out) hb); have n1_ := Aside0.mk (Kept.below (S := (fun k_ => P0_ k_)) zq33 hb); have n2_ := Aside0.mk (below_step zq0 hb); clear HO0; clear HK; clear HB; have HO0 := n0_; have HK := n1_; have HB := n2_; clear n0_ n1_ n2_; (try clear hb); (try clear hb2); (try clear hk); (try clear hi)))
  go_ret2
  exact ⟨_, by first | rfl | (simp [errW_none, errW_some] <;> rfl) | (simp [*, errW_none, errW_some] <;> rfl), by (with_reducible repeat (first | apply Kd.R_alloc | apply Kd.R_drewN | apply Kd.R_drew)); exact HO0.out, by repeat (first | (with_reducible first | exact HB.out | apply below_alloc | apply pw_below_drewN | apply below_drew1) | exact HB.out), by repeat (first | (with_reducible first | exact HK.out | apply Kept.alloc | apply Kept.drewN | apply Kept.drew) | exact HK.out)⟩
 ·
  replace c3 := Bool.eq_false_iff.mpr c3
  subst c3
  have H1 : (some ((([] : List (S31))), false)) = some (r1, r2) := by rw [if_neg (show ¬ (false = true) by decide)] at H; exact H
  clear H
  have H := H1
  clear H1
  obtain ⟨y408, hy408⟩ : ∃ y_ : List (S31), y_ = (([] : List (S31))) := ⟨_, rfl⟩
  replace H : (some (y408, false)) = some (r1, r2) := by first | (rw [hy408]; with_reducible exact H) | (have H2_ := (Option.bind_some _ _).symm.trans H; rw [hy408]; with_reducible exact H2_) | (have H2_ := (Option.bind_some _ _).symm.trans H; with_reducible exact H2_) | with_reducible exact H | (rw [hy408]; exact H) | exact H
  have Ny408 := Aside0.mk hy408
  clear hy408
  simp only [Option.some.injEq, Prod.mk.injEq] at H
  obtain ⟨rfl, rfl⟩ := H
  obtain ⟨Ao6, co6, eo6⟩ := Kd.R_slice HO0.out
  subst eo6
  go_enter Try.func75, Try.ntmps75
  go_wp2_with (first | ((with_reducible refine gate_callee (f := 63) rfl ?_); refine goesL_ (some 5) rfl rfl Try.func63 (by kernel_rfl) rfl #[.slice Ao6 l0.length co6] rfl zq1 ?_; (with_reducible refine (spec_l14List.calls k _ _ l0 false _ ?side1 ?side2 A2.out).mono ?_); (case side1 => repeat (first | exact (Kd.R_reads' HO0.out).2.2 | (with_reducible refine Kd.C_alloc ?_ _) | (with_reducible refine Kd.C_drewN ?_ _) | (with_reducible refine Kd.C_drew ?_))); (case side2 => exact (Kd.R_reads' HO0.out).2.1); rintro e w7 ⟨rfl, hb⟩; refine ⟨_, rfl, ?_⟩; have n0_ := Aside0.mk (Kd.R_below (zqR HO0.out) hb); have n1_ := Aside0.mk (Kept.below (S := (fun k_ => P0_ k_)) zq33 hb); have n2_ := Aside0.mk (below_step zq0 hb); clear HO0; clear HK; clear HB; have HO0 := n0_; have HK := n1_; have HB := n2_; clear n0_ n1_ n2_; (try clear hb); (try clear hb2); (try clear hk); (try clear hi)) | ((with_reducible refine gate_dst (N := 7) rfl ?_); refine Kd.R_lit k31 _ 31 ?hg (N := 7) ?hd (xs := ([] : List (S31))) (inner := []) (ok := fun _ => True) (okp := fun _ => True) ?hr ?hp (fun _ hk => hk) trivial (Below.refl _ _) (Nat.le_refl _) (by simp) ?_; (case hd => rfl); (case hg => rfl); (case hr => first | (go_simp; done) | (go_simp; rfl)); (case hp => exact (Reps.none _ _)); intro v409 w8 ho9 hb hg_ hnew_; clear hg_ hnew_; (first | rw [← Ny408.out] at ho9 | (simp only [Int.reduceToNat] at ho9; rw [← Ny408.out] at ho9)); have n0_ := Aside0.mk (Kd.R_elder' (zqR HO0.out) (Kd.R_base ho9) hb); have n1_ := Aside0.mk (Kd.R_lower (Kd.R_new' (Kd.R_newM (M := fun k_ => (P0_ k_ ∨ w.heap.size ≤ k_)) ho9 (by first | exact HK.out.1 | exact (show Kept w _ (fun k_ => P0_ k_) from by repeat (first | (with_reducible first | exact HK.out | apply Kept.alloc | apply Kept.drewN | apply Kept.drew) | exact HK.out)).1) (fun k_ h_ => .inr h_)) (Kd.R_lt (zqR HO0.out))) (below_size zq0)); have n2_ := Aside0.mk (Kept.below (S := (fun k_ => P0_ k_)) zq33 hb); have n3_ := Aside0.mk (below_step zq0 hb); clear HO0; clear HK; clear HB; have HO0 := n0_; have HO410 := n1_; have HK := n2_; have HB := n3_; clear n0_ n1_ n2_ n3_; clear hb ho9))
  go_ret2
  exact ⟨_, by first | rfl | (simp [errW_none, errW_some] <;> rfl) | (simp [*, errW_none, errW_some] <;> rfl), by (with_reducible repeat (first | apply Kd.R_alloc | apply Kd.R_drewN | apply Kd.R_drew)); exact Kd.R_mono HO410.out (fun _ hk => hk.1.1), by repeat (first | (with_reducible first | exact HB.out | apply below_alloc | apply pw_below_drewN | apply below_drew1) | exact HB.out), by repeat (first | (with_reducible first | exact HK.out | apply Kept.alloc | apply Kept.drewN | apply Kept.drew) | exact HK.out)⟩

end Go.Proofs.Ytklepiechbnenaa.Q
namespace Go.Proofs.Ytklepiechbnenaa.Q
open Go.RowKit Go.Proofs.YtklepiechbnenaaW.PrintWords Go.Proofs.YtklepiechbnenaaW.PrintLast Go.Proofs.YtklepiechbnenaaW.PrintMore
attribute [local go_sem] max2_int min2_int max_two min_two max_three min_three max_four min_four   -- for this text's walks alone
set_option linter.unusedVariables false
set_option linter.unusedSimpArgs false

/-! ### spec_ExtendWarning: function 42 -/
def spec_ExtendWarning.j0 : Nat → List (S31) → Int → Int → Bool → Option ((List (S31)) × Bool)
 | 0, _, _, _, _ => none
 | k + 1, x0, x2, x8, x28 => if x28 = true then (some ((([] : List (S31))), false)) else (if 0 ≤ x8 then (if x8 < (x0.length : Int) then ((spec_l14With.f x0 x8 ((rd_T31 x0 x8).f0) ((rd_T31 x0 x8).f1) ((rd_T31 x0 x8).f2) ((rd_T31 x0 x8).f3) ((rd_T31 x0 x8).f4) x2).bind fun t838 => ((spec_l14Checked.f k t838).bind fun bt841 => (some (bt841.1, bt841.2)))) else (none)) else (none))
def spec_ExtendWarning.f (k : Nat) (l0 : List (S31)) (a1 : Int) (a2 : Int) : Option ((List (S31)) × Bool) := (spec_l14Find.f k l0 a1).bind fun t830 => ((spec_l14List.f k l0).bind fun t831 => (if t831 = true then (if t830 < 0 then (spec_ExtendWarning.j0 k l0 a2 t830 true) else (if 0 ≤ t830 then (if t830 < (l0.length : Int) then (spec_ExtendWarning.j0 k l0 a2 t830 (decide (a2 ≤ ((rd_T31 l0 t830).f5)))) else (none)) else (none))) else (spec_ExtendWarning.j0 k l0 a2 t830 true)))
theorem spec_ExtendWarning.mono_l : ∀ k, (∀ y0 y1 y2 y3, LeO (spec_ExtendWarning.j0 k y0 y1 y2 y3) (spec_ExtendWarning.j0 (k + 1) y0 y1 y2 y3))
 | 0 => fun _ _ _ _ r h => by simp [spec_ExtendWarning.j0] at h
 | k + 1 => by
  have ih0 := spec_ExtendWarning.mono_l k
  ·
   intro y0 y1 y2 y3
   unfold spec_ExtendWarning.j0
   repeat' first
   | (with_reducible exact ih0 _ _ _ _)
   | (with_reducible exact spec_l14Checked.mono _ _)
   | (with_reducible exact spec_l14Find.mono _ _ _)
   | (with_reducible exact spec_l14List.mono _ _)
   | (with_reducible exact LeO.refl _)
   | (with_reducible exact LeO.none _)
   | (with_reducible refine LeO.ite ?_ ?_)
   | (with_reducible refine LeO.bind ?_ (fun _ => ?_))
   | exact ih0 _ _ _ _
   | exact spec_l14Checked.mono _ _
   | exact spec_l14Find.mono _ _ _
   | exact spec_l14List.mono _ _
   | exact LeO.none _
   | refine LeO.ite ?_ ?_
   | refine LeO.bind ?_ (fun _ => ?_)
theorem spec_ExtendWarning.mono : ∀ a0 a1 a2 k, LeO (spec_ExtendWarning.f k a0 a1 a2) (spec_ExtendWarning.f (k + 1) a0 a1 a2) := by
 intro a0 a1 a2 k
 have ih0 := spec_ExtendWarning.mono_l k
 unfold spec_ExtendWarning.f
 repeat' first
   | (with_reducible exact ih0 _ _ _ _)
   | (with_reducible exact spec_l14Checked.mono _ _)
   | (with_reducible exact spec_l14Find.mono _ _ _)
   | (with_reducible exact spec_l14List.mono _ _)
   | (with_reducible exact LeO.refl _)
   | (with_reducible exact LeO.none _)
   | (with_reducible refine LeO.ite ?_ ?_)
   | (with_reducible refine LeO.bind ?_ (fun _ => ?_))
   | exact ih0 _ _ _ _
   | exact spec_l14Checked.mono _ _
   | exact spec_l14Find.mono _ _ _
   | exact spec_l14List.mono _ _
   | exact LeO.none _
   | refine LeO.ite ?_ ?_
   | refine LeO.bind ?_ (fun _ => ?_)
set_option maxHeartbeats 8000000 in
set_option maxRecDepth 100000 in
theorem spec_ExtendWarning.calls (k : Nat) (A0 : Option Addr) (c0 : Nat) (l0 : List (S31)) (a1 : Int) (a2 : Int) (r1 : List (S31)) (r2 : Bool) (w : World) (hr0 : Kd.C k31 w A0 l0.length l0) (hc0 : l0.length ≤ c0) (h : spec_ExtendWarning.f k l0 a1 a2 = some (r1, r2)) :
  Calls Try.prog 42 #[.slice A0 l0.length c0, .int .i64 a1, .int .i64 a2] w fun e w' => ∃ v0_ : Value, e = .returned (.tuple #[v0_, .bool r2]) ∧ Kd.R k31 31 w' w.heap.size (fun _ => True) v0_ r1 ∧ Below w.heap.size w w' := by
 have hu31 := Try.underlying31
 have HR0 := Aside0.mk hr0
 have HC0 := Aside0.mk hc0
 clear hr0 hc0
 have HB := Aside0.mk (Below.refl w.heap.size w)
 have H : ((spec_l14Find.f k l0 a1).bind fun t830 => ((spec_l14List.f k l0).bind fun t831 => (if t831 = true then (if t830 < 0 then (spec_ExtendWarning.j0 k l0 a2 t830 true) else (if 0 ≤ t830 then (if t830 < (l0.length : Int) then (spec_ExtendWarning.j0 k l0 a2 t830 (decide (a2 ≤ ((rd_T31 l0 t830).f5)))) else (none)) else (none))) else (spec_ExtendWarning.j0 k l0 a2 t830 true)))) = some (r1, r2) := h
 clear h
 replace H := Option.bind_eq_some_iff.mp H
 obtain ⟨t830, A40, H⟩ := H
 replace H : ((spec_l14List.f k l0).bind fun t831 => (if t831 = true then (if t830 < 0 then (spec_ExtendWarning.j0 k l0 a2 t830 true) else (if 0 ≤ t830 then (if t830 < (l0.length : Int) then (spec_ExtendWarning.j0 k l0 a2 t830 (decide (a2 ≤ ((rd_T31 l0 t830).f5)))) else (none)) else (none))) else (spec_ExtendWarning.j0 k l0 a2 t830 true))) = some (r1, r2) := H
 have A4 := Aside0.mk A40
 clear A40
 have HC5 := Aside0.mk H
 clear H
 go_enter Try.func42, Try.ntmps42
 go_upto_region 2 with (first | ((with_reducible refine gate_callee (f := 57) rfl ?_); refine goesL_ (some 12) rfl rfl Try.func57 (by kernel_rfl) rfl #[.slice A0 l0.length c0, .int .i64 a1] rfl zq1 ?_; (with_reducible refine (spec_l14Find.calls k _ _ l0 a1 t830 _ ?side1 ?side2 A4.out).mono ?_); (case side1 => repeat (first | exact HR0.out | (with_reducible refine Kd.C_alloc ?_ _) | (with_reducible refine Kd.C_drewN ?_ _) | (with_reducible refine Kd.C_drew ?_))); (case side2 => exact HC0.out); rintro e w' ⟨rfl, ⟨nd, rfl⟩⟩; refine ⟨_, rfl, ?_⟩))
 (try simp only [Act.put, List.setIfInBounds_toArray, List.set_cons_zero, List.set_cons_succ])
 go_cut [28] (fun v28 wc => ∃ (kq : Nat) (x28_4 : Bool), v28 = .bool x28_4 ∧ Aside0 (spec_ExtendWarning.j0 kq l0 a2 t830 x28_4 = some (r1, r2)) ∧ Aside0 (kq ≤ k) ∧ Aside0 (Below w.heap.size w wc))
 case first =>
  have H := HC5.out
  clear HC5
  replace H := Option.bind_eq_some_iff.mp H
  obtain ⟨t831, A60, H⟩ := H
  replace H : (if t831 = true then (if t830 < 0 then (spec_ExtendWarning.j0 k l0 a2 t830 true) else (if 0 ≤ t830 then (if t830 < (l0.length : Int) then (spec_ExtendWarning.j0 k l0 a2 t830 (decide (a2 ≤ ((rd_T31 l0 t830).f5)))) else (none)) else (none))) else (spec_ExtendWarning.j0 k l0 a2 t830 true)) = some (r1, r2) := H
  have A6 := Aside0.mk A60
  clear A60
  by_cases c7 : t831 = true
  ·
   subst c7
   have H1 : (if t830 < 0 then (spec_ExtendWarning.j0 k l0 a2 t830 true) else (if 0 ≤ t830 then (if t830 < (l0.length : Int) then (spec_ExtendWarning.j0 k l0 a2 t830 (decide (a2 ≤ ((rd_T31 l0 t830).f5)))) else (none)) else (none))) = some (r1, r2) := by rw [if_pos rfl] at H; exact H
   clear H
   have H := H1
   clear H1
   by_cases c8 : t830 < 0
   ·
    rw [if_pos c8] at H
    have c8b0 : decide (t830 < 0) = true := decide_eq_true c8
    clear c8
    (first | rw [c8b0] | (simp only [i64_w, i32_w]; rw [c8b0]) | skip)
    have H' := Aside0.mk H
    clear H
    go_wp2_with (first | ((with_reducible refine gate_callee (f := 63) rfl ?_); refine goesL_ (some 14) rfl rfl Try.func63 (by kernel_rfl) rfl #[.slice A0 l0.length c0] rfl zq1 ?_; (with_reducible refine (spec_l14List.calls k _ _ l0 true _ ?side1 ?side2 A6.out).mono ?_); (case side1 => repeat (first | exact (Kd.C_below HR0.out HB.out) | (with_reducible refine Kd.C_alloc ?_ _) | (with_reducible refine Kd.C_drewN ?_ _) | (with_reducible refine Kd.C_drew ?_))); (case side2 => exact HC0.out); rintro e w9 ⟨rfl, hb⟩; refine ⟨_, rfl, ?_⟩; have n0_ := Aside0.mk (below_step zq0 hb); clear HB; have HB := n0_; clear n0_; (try clear hb); (try clear hb2); (try clear hk); (try clear hi)))
    go_meet
    case rel => exact ⟨_, (true), (by first | rfl | (simp; done) | (simp [*]; done)), H', ⟨by first | omega | exact Nat.le_refl _⟩, ⟨by repeat (first | (with_reducible first | exact HB.out | apply below_alloc | apply pw_below_drewN | apply below_drew1) | exact HB.out)⟩⟩
   ·
    rw [if_neg c8] at H
    have c8b0 : decide (t830 < 0) = false := decide_eq_false c8
    clear c8
    (first | rw [c8b0] | (simp only [i64_w, i32_w]; rw [c8b0]) | skip)
    by_cases c10 : 0 ≤ t830
    ·
     rw [if_pos c10] at H
     have c10b0 : decide (0 ≤ t830) = true := decide_eq_true c10
     clear c10
     by_cases c11 : t830 < (l0.length : Int)
     ·
      rw [if_pos c11] at H
      have c11b0 : decide (t830 < (l0.length : Int)) = true := decide_eq_true c11
      clear c11
      have H' := Aside0.mk H
      clear H
      go_wp2_with (first | ((with_reducible refine gate_callee (f := 63) rfl ?_); refine goesL_ (some 14) rfl rfl Try.func63 (by kernel_rfl) rfl #[.slice A0 l0.length c0] rfl zq1 ?_; (with_reducible refine (spec_l14List.calls k _ _ l0 true _ ?side1 ?side2 A6.out).mono ?_); (case side1 => repeat (first | exact (Kd.C_below HR0.out HB.out) | (with_reducible refine Kd.C_alloc ?_ _) | (with_reducible refine Kd.C_drewN ?_ _) | (with_reducible refine Kd.C_drew ?_))); (case side2 => exact HC0.out); rintro e w12 ⟨rfl, hb⟩; refine ⟨_, rfl, ?_⟩; have n0_ := Aside0.mk (below_step zq0 hb); clear HB; have HB := n0_; clear n0_; (try clear hb); (try clear hb2); (try clear hk); (try clear hi); have p832 : 0 ≤ (t830 : Int) := of_decide_eq_true zq2; have q832 : t830 < (l0.length : Int) := of_decide_eq_true zq2; obtain ⟨ad832, e832, hx832_0, hx832_1, hx832_2, hx832_3, hx832_4, hx832_5⟩ := at_T31 HR0.out t830 p832 q832; cases e832; replace hx832_0 := (HB.out.cell (World.block_lt_of_cell? w _ hx832_0)).trans hx832_0; replace hx832_1 := (HB.out.cell (World.block_lt_of_cell? w _ hx832_1)).trans hx832_1; replace hx832_2 := (HB.out.cell (World.block_lt_of_cell? w _ hx832_2)).trans hx832_2; replace hx832_3 := (HB.out.cell (World.block_lt_of_cell? w _ hx832_3)).trans hx832_3; replace hx832_4 := (HB.out.cell (World.block_lt_of_cell? w _ hx832_4)).trans hx832_4; replace hx832_5 := (HB.out.cell (World.block_lt_of_cell? w _ hx832_5)).trans hx832_5; replace p832 := eq_true p832; replace q832 := eq_true q832))
      go_meet
      case rel => exact ⟨_, (decide (a2 ≤ ((rd_T31 l0 t830).f5))), (by first | rfl | (simp; done) | (simp [*]; done)), H', ⟨by first | omega | exact Nat.le_refl _⟩, ⟨by repeat (first | (with_reducible first | exact HB.out | apply below_alloc | apply pw_below_drewN | apply below_drew1) | exact HB.out)⟩⟩
     ·
      rw [if_neg c11] at H
      exact absurd H (by simp)
    ·
     rw [if_neg c10] at H
     exact absurd H (by simp)
  ·
   replace c7 := Bool.eq_false_iff.mpr c7
   subst c7
   have H1 : (spec_ExtendWarning.j0 k l0 a2 t830 true) = some (r1, r2) := by rw [if_neg (show ¬ (false = true) by decide)] at H; exact H
   clear H
   have H := H1
   clear H1
   have H' := Aside0.mk H
   clear H
   go_wp2_with (first | ((with_reducible refine gate_callee (f := 63) rfl ?_); refine goesL_ (some 14) rfl rfl Try.func63 (by kernel_rfl) rfl #[.slice A0 l0.length c0] rfl zq1 ?_; (with_reducible refine (spec_l14List.calls k _ _ l0 false _ ?side1 ?side2 A6.out).mono ?_); (case side1 => repeat (first | exact (Kd.C_below HR0.out HB.out) | (with_reducible refine Kd.C_alloc ?_ _) | (with_reducible refine Kd.C_drewN ?_ _) | (with_reducible refine Kd.C_drew ?_))); (case side2 => exact HC0.out); rintro e w13 ⟨rfl, hb⟩; refine ⟨_, rfl, ?_⟩; have n0_ := Aside0.mk (below_step zq0 hb); clear HB; have HB := n0_; clear n0_; (try clear hb); (try clear hb2); (try clear hk); (try clear hi)))
   go_meet
   case rel => exact ⟨_, (true), (by first | rfl | (simp; done) | (simp [*]; done)), H', ⟨by first | omega | exact Nat.le_refl _⟩, ⟨by repeat (first | (with_reducible first | exact HB.out | apply below_alloc | apply pw_below_drewN | apply below_drew1) | exact HB.out)⟩⟩
 case rest =>
  clear HC5
  try clear c1
  try clear p2
  try clear c4
  try clear c5
  try clear c6
  try clear c7
  try clear c8
  try clear c8b0
  try clear p8
  try clear q8
  try clear hx8
  try clear c10
  try clear c10b0
  try clear c11
  try clear c11b0
  try clear hx832_0
  try clear hx832_1
  try clear hx832_2
  try clear hx832_3
  try clear hx832_4
  try clear hx832_5
  try clear p832
  try clear q832
  obtain ⟨kq, x28_4, rfl, HA, HJ4, HB⟩ := hcut
  cases kq with
  | zero => exact absurd HA.out (by simp [spec_ExtendWarning.j0])
  | succ kj4 =>
   have H := HA.out
   clear HA
   simp only [spec_ExtendWarning.j0] at H
   by_cases c14 : x28_4 = true
   ·
    subst c14
    have H1 : (some ((([] : List (S31))), false)) = some (r1, r2) := by rw [if_pos rfl] at H; exact H
    clear H
    have H := H1
    clear H1
    obtain ⟨y833, hy833⟩ : ∃ y_ : List (S31), y_ = (([] : List (S31))) := ⟨_, rfl⟩
    replace H : (some (y833, false)) = some (r1, r2) := by first | (rw [hy833]; with_reducible exact H) | (have H2_ := (Option.bind_some _ _).symm.trans H; rw [hy833]; with_reducible exact H2_) | (have H2_ := (Option.bind_some _ _).symm.trans H; with_reducible exact H2_) | with_reducible exact H | (rw [hy833]; exact H) | exact H
    have Ny833 := Aside0.mk hy833
    clear hy833
    simp only [Option.some.injEq, Prod.mk.injEq] at H
    obtain ⟨rfl, rfl⟩ := H
    go_wp2_with (first | ((with_reducible refine gate_dst (N := 29) rfl ?_); refine Kd.R_lit k31 _ 31 ?hg (N := 29) ?hd (xs := ([] : List (S31))) (inner := []) (ok := fun _ => True) (okp := fun _ => True) ?hr ?hp (fun _ hk => hk) trivial (Below.refl _ _) (Nat.le_refl _) (by simp) ?_; (case hd => rfl); (case hg => rfl); (case hr => first | (go_simp; done) | (go_simp; rfl)); (case hp => exact (Reps.none _ _)); intro v834 w15 ho16 hb hg_ hnew_; clear hg_ hnew_; (first | rw [← Ny833.out] at ho16 | (simp only [Int.reduceToNat] at ho16; rw [← Ny833.out] at ho16)); have n0_ := Aside0.mk (Kd.R_lower ho16 (below_size zq0)); have n1_ := Aside0.mk (below_step zq0 hb); clear HB; have HO835 := n0_; have HB := n1_; clear n0_ n1_; clear hb ho16))
    go_ret2
    exact ⟨_, by first | rfl | (simp [errW_none, errW_some] <;> rfl) | (simp [*, errW_none, errW_some] <;> rfl), by (with_reducible repeat (first | apply Kd.R_alloc | apply Kd.R_drewN | apply Kd.R_drew)); exact HO835.out, by repeat (first | (with_reducible first | exact HB.out | apply below_alloc | apply pw_below_drewN | apply below_drew1) | exact HB.out)⟩
   ·
    replace c14 := Bool.eq_false_iff.mpr c14
    subst c14
    have H1 : (if 0 ≤ t830 then (if t830 < (l0.length : Int) then ((spec_l14With.f l0 t830 ((rd_T31 l0 t830).f0) ((rd_T31 l0 t830).f1) ((rd_T31 l0 t830).f2) ((rd_T31 l0 t830).f3) ((rd_T31 l0 t830).f4) a2).bind fun t838 => ((spec_l14Checked.f kj4 t838).bind fun bt841 => (some (bt841.1, bt841.2)))) else (none)) else (none)) = some (r1, r2) := by rw [if_neg (show ¬ (false = true) by decide)] at H; exact H
    clear H
    have H := H1
    clear H1
    by_cases c17 : 0 ≤ t830
    ·
     rw [if_pos c17] at H
     have c17b0 : decide (0 ≤ t830) = true := decide_eq_true c17
     clear c17
     by_cases c18 : t830 < (l0.length : Int)
     ·
      rw [if_pos c18] at H
      have c18b0 : decide (t830 < (l0.length : Int)) = true := decide_eq_true c18
      clear c18
      replace H := Option.bind_eq_some_iff.mp H
      obtain ⟨t838, A190, H⟩ := H
      replace H : ((spec_l14Checked.f kj4 t838).bind fun bt841 => (some (bt841.1, bt841.2))) = some (r1, r2) := H
      have A19 := Aside0.mk A190
      clear A190
      replace H := Option.bind_eq_some_iff.mp H
      obtain ⟨⟨t841, t844⟩, A200, H⟩ := H
      replace H : (some (t841, t844)) = some (r1, r2) := H
      have A20 := Aside0.mk A200
      clear A200
      simp only [Option.some.injEq, Prod.mk.injEq] at H
      obtain ⟨rfl, rfl⟩ := H
      have p836 : 0 ≤ (t830 : Int) := of_decide_eq_true zq2
      have q836 : t830 < (l0.length : Int) := of_decide_eq_true zq2
      obtain ⟨ad836, e836, hx836_0, hx836_1, hx836_2, hx836_3, hx836_4, hx836_5⟩ := at_T31 HR0.out t830 p836 q836
      cases e836
      replace hx836_0 := (HB.out.cell (World.block_lt_of_cell? w _ hx836_0)).trans hx836_0
      replace hx836_1 := (HB.out.cell (World.block_lt_of_cell? w _ hx836_1)).trans hx836_1
      replace hx836_2 := (HB.out.cell (World.block_lt_of_cell? w _ hx836_2)).trans hx836_2
      replace hx836_3 := (HB.out.cell (World.block_lt_of_cell? w _ hx836_3)).trans hx836_3
      replace hx836_4 := (HB.out.cell (World.block_lt_of_cell? w _ hx836_4)).trans hx836_4
      replace hx836_5 := (HB.out.cell (World.block_lt_of_cell? w _ hx836_5)).trans hx836_5
      replace p836 := eq_true p836
      replace q836 := eq_true q836
      go_wp2_with (first | ((with_reducible refine gate_dst (N := 9) rfl ?_); refine box_event ?hg (N := 9) ?hd (cs := #[.int .i64 0, .int .i64 0, .int .i64 0, .int .i64 0, .int .i64 0, .int .i64 0]) (t := 31) ?hr ?_; (case hd => rfl); (case hg => rfl); (case hr => first | (go_simp; done) | (go_simp; rfl)); intro gb837 hg w21 hbox hb; have n0_ := Aside0.mk (below_step zq0 hb); have n1_ := Aside0.mk (hbox); have n2_ := Aside0.mk ((by rw [hg]; exact (below_size zq0) : w.heap.size ≤ gb837)); have n3_ := Aside0.mk ((by rw [hg]; exact (below_size zq0) : w.heap.size ≤ gb837)); clear HB; have HB := n0_; have BK837 := n1_; have GW837 := n2_; have GE837 := n3_; clear n0_ n1_ n2_ n3_; clear hb hbox hg; have hcz22_0 : w21.cell? ⟨gb837, 0, none⟩ = some (.int .i64 0) := (blk_cell BK837.out 0).trans rfl; have hcz22_1 : w21.cell? ⟨gb837, 1, none⟩ = some (.int .i64 0) := (blk_cell BK837.out 1).trans rfl; have hcz22_2 : w21.cell? ⟨gb837, 2, none⟩ = some (.int .i64 0) := (blk_cell BK837.out 2).trans rfl; have hcz22_3 : w21.cell? ⟨gb837, 3, none⟩ = some (.int .i64 0) := (blk_cell BK837.out 3).trans rfl; have hcz22_4 : w21.cell? ⟨gb837, 4, none⟩ = some (.int .i64 0) := (blk_cell BK837.out 4).trans rfl; have hcz22_5 : w21.cell? ⟨gb837, 5, none⟩ = some (.int .i64 0) := (blk_cell BK837.out 5).trans rfl; have hl22_0 : ∀ v0 v1 v2 v3 v4 v5 u0 : Value, (((((((w21.setCell ⟨gb837, 0, none⟩ v0).setCell ⟨gb837, 1, none⟩ v1).setCell ⟨gb837, 2, none⟩ v2).setCell ⟨gb837, 3, none⟩ v3).setCell ⟨gb837, 4, none⟩ v4).setCell ⟨gb837, 5, none⟩ v5).setCell ⟨gb837, 5, none⟩ u0).cell? ⟨gb837, 5, none⟩ = some u0 := fun v0 v1 v2 v3 v4 v5 u0 => (blk_cell (blk_set (blk_set (blk_set (blk_set (blk_set (blk_set (blk_set BK837.out 0 v0) 1 v1) 2 v2) 3 v3) 4 v4) 5 v5) 5 u0) 5).trans (by simp); have hfz22_0 := blk_frozen BK837.out 0; have hfz22_1 := blk_frozen BK837.out 1; have hfz22_2 := blk_frozen BK837.out 2; have hfz22_3 := blk_frozen BK837.out 3; have hfz22_4 := blk_frozen BK837.out 4; have hfz22_5 := blk_frozen BK837.out 5) | ((with_reducible refine gate_callee (f := 64) rfl ?_); refine goesL_ (some 39) rfl rfl Try.func64 (by kernel_rfl) rfl #[.slice (some ad836) l0.length c0, .int .i64 t830, .agg #[.int .i64 ((rd_T31 l0 t830).f0), .int .i64 ((rd_T31 l0 t830).f1), .int .i64 ((rd_T31 l0 t830).f2), .int .i64 ((rd_T31 l0 t830).f3), .int .i64 ((rd_T31 l0 t830).f4), .int .i64 a2]] rfl zq1 ?_; (with_reducible refine (spec_l14With.calls _ _ l0 t830 ((rd_T31 l0 t830).f0) ((rd_T31 l0 t830).f1) ((rd_T31 l0 t830).f2) ((rd_T31 l0 t830).f3) ((rd_T31 l0 t830).f4) a2 t838 _ ?side1 ?side2 A19.out).mono ?_); (case side1 => exact Kd.C_below HR0.out zq38); (case side2 => exact HC0.out); rintro e w23 ⟨v839, rfl, ho0, hb⟩; refine ⟨_, rfl, ?_⟩; have n0_ := Aside0.mk (Kd.R_lower (Kd.R_newB ho0 (g := gb837) (o := .cells #[.int .i64 ((rd_T31 l0 t830).f0), .int .i64 ((rd_T31 l0 t830).f1), .int .i64 ((rd_T31 l0 t830).f2), .int .i64 ((rd_T31 l0 t830).f3), .int .i64 ((rd_T31 l0 t830).f4), .int .i64 a2] 31 (0, 0)) zq12) (below_size zq38)); have n1_ := Aside0.mk (blk_below (g := gb837) (o := .cells #[.int .i64 ((rd_T31 l0 t830).f0), .int .i64 ((rd_T31 l0 t830).f1), .int .i64 ((rd_T31 l0 t830).f2), .int .i64 ((rd_T31 l0 t830).f3), .int .i64 ((rd_T31 l0 t830).f4), .int .i64 a2] 31 (0, 0)) zq12 hb); have n2_ := Aside0.mk (below_step zq38 hb); clear BK837; clear HB; have HO840 := n0_; have BK837 := n1_; have HB := n2_; clear n0_ n1_ n2_; (try clear hb); (try clear hb2); (try clear hk); (try clear hi); (try clear ho0); obtain ⟨Ao24, co24, eo24⟩ := Kd.R_slice HO840.out; subst eo24) | ((with_reducible refine gate_callee (f := 75) rfl ?_); refine goesL_ (some 40) rfl rfl Try.func75 (by kernel_rfl) rfl #[.slice Ao24 t838.length co24] rfl zq1 ?_; (with_reducible refine (spec_l14Checked.calls kj4 (fun k_ => some k_ = (.slice Ao24 t838.length co24 : Value).ownBlock) (.slice Ao24 t838.length co24) t838 t841 t844 w _ ?side1 ?side2 A20.out).mono ?_); (case side1 => repeat (first | (with_reducible first | exact HB.out | apply below_alloc | apply pw_below_drewN | apply below_drew1 | refine below_set ?_ GE837.out) | exact HB.out)); (case side2 => exact Kd.R_tight rfl HO840.out); rintro e w25 ⟨v842, rfl, ho0, hb, hkp⟩; refine ⟨_, rfl, ?_⟩; have n0_ := Aside0.mk (blk_kept (zqK BK837.out) hkp (fun hs_ => (fun e_ => (Kd.R_away HO840.out (fun _ hk => hk.2)) e_) hs_)); have n1_ := Aside0.mk (Kd.R_mono (ok' := fun k_ => k_ ≠ gb837) ho0 (fun k_ hk_ => Or.elim hk_ (fun hs_ => fun e_ => (Kd.R_away HO840.out (fun _ hk => hk.2)) (by rw [← e_]; exact hs_)) (fun hn_ => (Kd.freshB (g := gb837) (o := .cells #[.int .i64 ((rd_T31 l0 t830).f0), .int .i64 ((rd_T31 l0 t830).f1), .int .i64 ((rd_T31 l0 t830).f2), .int .i64 ((rd_T31 l0 t830).f3), .int .i64 ((rd_T31 l0 t830).f4), .int .i64 a2] 31 (0, 0)) (zqK BK837.out) k_ hn_)))); have n2_ := Aside0.mk (hb); clear BK837; clear HB; clear HO840; have BK837 := n0_; have HO843 := n1_; have HB := n2_; clear n0_ n1_ n2_; (try clear hb); (try clear hkp); (try clear ho0)))
      go_ret2
      exact ⟨_, by first | rfl | (simp [errW_none, errW_some] <;> rfl) | (simp [*, errW_none, errW_some] <;> rfl), by (with_reducible repeat (first | apply Kd.R_alloc | apply Kd.R_drewN | apply Kd.R_drew)); exact Kd.R_mono HO843.out (fun _ hk => trivial), by repeat (first | (with_reducible first | exact HB.out | apply below_alloc | apply pw_below_drewN | apply below_drew1 | refine below_set ?_ GE837.out) | exact HB.out)⟩
     ·
      rw [if_neg c18] at H
      exact absurd H (by simp)
    ·
     rw [if_neg c17] at H
     exact absurd H (by simp)

end Go.Proofs.Ytklepiechbnenaa.Q
