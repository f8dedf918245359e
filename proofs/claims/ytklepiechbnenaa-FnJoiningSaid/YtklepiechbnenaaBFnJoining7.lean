/- Texts of this seat, put together: Qf44, Qf96, Qf94, Qf95. -/
import Derived.Test.YtklepiechbnenaaZFnJoining
import Derived.Test.YtklepiechbnenaaBFnJoining0
import Derived.Test.YtklepiechbnenaaBFnJoining6
namespace Go.Proofs.Ytklepiechbnenaa.Q
open Go.RowKit Go.Proofs.YtklepiechbnenaaW.PrintWords Go.Proofs.YtklepiechbnenaaW.PrintLast Go.Proofs.YtklepiechbnenaaW.PrintMore
attribute [local go_sem] max2_int min2_int max_two min_two max_three min_three max_four min_four   -- for this text's walks alone
set_option linter.unusedVariables false
set_option linter.unusedSimpArgs false

/-! ### impl_JoinWarnings: function 44 -/
def impl_JoinWarnings.l0 : Nat → List (S31) → Option ((List (S31)) × Bool)
 | 0, _ => none
 | k + 1, x4 => (impl_firstJoint.f k x4).bind fun bt922 => (if bt922.2.2 = true then (if 0 ≤ bt922.1 then (if bt922.1 < (x4.length : Int) then (if 0 ≤ bt922.2.1 then (if bt922.2.1 < (x4.length : Int) then ((some (x4.set (bt922.1 : Int).toNat (⟨(rd_T31 x4 bt922.1).f0, (rd_T31 x4 bt922.1).f1, (rd_T31 x4 bt922.1).f2, (rd_T31 x4 bt922.1).f3, mn ((rd_T31 x4 bt922.1).f4) ((rd_T31 x4 bt922.2.1).f4), (rd_T31 x4 bt922.1).f5⟩ : S31) : List (S31))).bind fun y929 => ((impl_Warning_74.f (y929.set (bt922.1 : Int).toNat (⟨(rd_T31 y929 bt922.1).f0, (rd_T31 y929 bt922.1).f1, (rd_T31 y929 bt922.1).f2, (rd_T31 y929 bt922.1).f3, (rd_T31 y929 bt922.1).f4, mx ((rd_T31 x4 bt922.1).f5) ((rd_T31 x4 bt922.2.1).f5)⟩ : S31)) bt922.2.1 (wrap64 (bt922.2.1 + 1))).bind fun t931 => (impl_JoinWarnings.l0 k t931))) else (none)) else (none)) else (none)) else (none)) else (some (x4, true)))
def impl_JoinWarnings.f (k : Nat) (l0 : List (S31)) : Option ((List (S31)) × Bool) := (impl_IsConsistent.f k l0).bind fun t918 => (if t918 = true then ((impl_Warning_61.f l0).bind fun t919 => (impl_JoinWarnings.l0 k t919)) else (some (([] : List (S31)), false)))
theorem impl_JoinWarnings.mono_l : ∀ k, (∀ y0, LeO (impl_JoinWarnings.l0 k y0) (impl_JoinWarnings.l0 (k + 1) y0))
 | 0 => fun _ r h => by simp [impl_JoinWarnings.l0] at h
 | k + 1 => by
  have ih0 := impl_JoinWarnings.mono_l k
  ·
   intro y0
   unfold impl_JoinWarnings.l0
   repeat' first
   | (with_reducible exact ih0 _)
   | (with_reducible exact impl_IsConsistent.mono _ _)
   | (with_reducible exact impl_firstJoint.mono _ _)
   | (with_reducible exact LeO.refl _)
   | (with_reducible exact LeO.none _)
   | (with_reducible refine LeO.ite ?_ ?_)
   | (with_reducible refine LeO.bind ?_ (fun _ => ?_))
   | exact ih0 _
   | exact impl_IsConsistent.mono _ _
   | exact impl_firstJoint.mono _ _
   | exact LeO.none _
   | refine LeO.ite ?_ ?_
   | refine LeO.bind ?_ (fun _ => ?_)
theorem impl_JoinWarnings.mono : ∀ a0 k, LeO (impl_JoinWarnings.f k a0) (impl_JoinWarnings.f (k + 1) a0) := by
 intro a0 k
 have ih0 := impl_JoinWarnings.mono_l k
 unfold impl_JoinWarnings.f
 repeat' first
   | (with_reducible exact ih0 _)
   | (with_reducible exact impl_IsConsistent.mono _ _)
   | (with_reducible exact impl_firstJoint.mono _ _)
   | (with_reducible exact LeO.refl _)
   | (with_reducible exact LeO.none _)
   | (with_reducible refine LeO.ite ?_ ?_)
   | (with_reducible refine LeO.bind ?_ (fun _ => ?_))
   | exact ih0 _
   | exact impl_IsConsistent.mono _ _
   | exact impl_firstJoint.mono _ _
   | exact LeO.none _
   | refine LeO.ite ?_ ?_
   | refine LeO.bind ?_ (fun _ => ?_)
def impl_JoinWarnings.T7 : Bool × List (List Nat × List Nat) := (true, [([], []), ([], []), ([], []), ([], []), ([], []), ([], []), ([4, 5], [4, 5]), ([6], [6]), ([7], [7]), ([], []), ([], []), ([9, 10], [9, 10]), ([11], [11]), ([12], [12]), ([8, 13], [8, 13]), ([], []), ([], []), ([15, 16], [15, 16]), ([17], [17]), ([18], [18]), ([], []), ([], []), ([20, 21], [20, 21]), ([22], [22]), ([23], [23]), ([19, 24], [19, 24]), ([0, 1, 0, 1, 4, 5, 6, 7, 8, 9, 10, 11, 12, 13, 14, 19, 24], [0, 1]), ([26, 0, 1, 4, 5, 6, 7, 8, 9, 10, 11, 12, 13, 14, 19, 24], [26]), ([27, 14, 0, 1, 4, 5, 6, 7, 8, 9, 10, 11, 12, 13, 14, 19, 24], [14, 27]), ([2, 3, 0, 1, 2, 3, 4, 5, 6, 7, 8, 9, 10, 11, 12, 13, 14, 15, 16, 17, 18, 19, 20, 21, 22, 23, 24, 25, 26, 27, 28], [2, 3]), ([29, 0, 1, 2, 3, 4, 5, 6, 7, 8, 9, 10, 11, 12, 13, 14, 15, 16, 17, 18, 19, 20, 21, 22, 23, 24, 25, 26, 27, 28], [29]), ([30, 25, 28, 0, 1, 2, 3, 4, 5, 6, 7, 8, 9, 10, 11, 12, 13, 14, 15, 16, 17, 18, 19, 20, 21, 22, 23, 24, 25, 26, 27, 28], [25, 30])])
def impl_JoinWarnings.B7 : List Nat := [0, 0, 0, 0, 0, 0, 48, 112, 240, 0, 0, 1536, 3584, 7680, 16368, 0, 0, 98304, 229376, 491520, 0, 0, 3145728, 7340032, 15728640, 33521664, 33554419, 100663283, 234881011, 536870911, 1073741823, 2147483647]
theorem impl_JoinWarnings.tab7 : rtab .any (opsOf Try.f44 7) = impl_JoinWarnings.T7 := by kernel_rfl
theorem impl_JoinWarnings.bits7 : waitsOk impl_JoinWarnings.T7.2 impl_JoinWarnings.B7 = true := by kernel_rfl
set_option maxHeartbeats 8000000 in
set_option maxRecDepth 100000 in
theorem impl_JoinWarnings.calls (k : Nat) (A0 : Option Addr) (c0 : Nat) (l0 : List (S31)) (r1 : List (S31)) (r2 : Bool) (w : World) (hr0 : Kd.C k31 w A0 l0.length l0) (hc0 : l0.length ≤ c0) (h : impl_JoinWarnings.f k l0 = some (r1, r2)) :
  Calls Try.prog 44 #[.slice A0 l0.length c0] w fun e w' => ∃ v0_ : Value, e = .returned (.tuple #[v0_, .bool r2]) ∧ Kd.R k31 31 w' w.heap.size (fun _ => True) v0_ r1 ∧ Below w.heap.size w w' := by
 have HR0 := Aside0.mk hr0
 have HC0 := Aside0.mk hc0
 clear hr0 hc0
 have HB := Aside0.mk (Below.refl w.heap.size w)
 have H : ((impl_IsConsistent.f k l0).bind fun t918 => (if t918 = true then ((impl_Warning_61.f l0).bind fun t919 => (impl_JoinWarnings.l0 k t919)) else (some (([] : List (S31)), false)))) = some (r1, r2) := h
 clear h
 replace H := Option.bind_eq_some_iff.mp H
 obtain ⟨t918, A20, H⟩ := H
 replace H : (if t918 = true then ((impl_Warning_61.f l0).bind fun t919 => (impl_JoinWarnings.l0 k t919)) else (some (([] : List (S31)), false))) = some (r1, r2) := H
 have A2 := Aside0.mk A20
 clear A20
 by_cases c3 : t918 = true
 case neg =>
  replace c3 := Bool.eq_false_iff.mpr c3
  subst c3
  have H1 : (some (([] : List (S31)), false)) = some (r1, r2) := by rw [if_neg (show ¬ (false = true) by decide)] at H; exact H
  clear H
  have H := H1
  clear H1
  simp only [Option.some.injEq, Prod.mk.injEq] at H
  obtain ⟨rfl, rfl⟩ := H
  go_enter Try.func44, Try.ntmps44
  go_wp2_with (first | ((with_reducible refine gate_callee (f := 12) rfl ?_); refine goesL_ (some 9) rfl rfl Try.func12 (by kernel_rfl) rfl #[.slice A0 l0.length c0] rfl zq1 ?_; (with_reducible refine (impl_IsConsistent.calls k _ _ l0 false _ ?side1 ?side2 A2.out).mono ?_); (case side1 => exact zqC HR0.out); (case side2 => exact HC0.out); rintro e w27 ⟨rfl, hb⟩; refine ⟨_, rfl, ?_⟩; have n0_ := Aside0.mk (below_step zq0 hb); clear HB; have HB := n0_; clear n0_; (try clear hb); (try clear hb2); (try clear hk); (try clear hi)))
  go_ret2
  exact ⟨_, by first | rfl | (simp [errW_none, errW_some] <;> rfl) | (simp [*, errW_none, errW_some] <;> rfl), by first | exact Kd.R_nil _ _ _ _ _ | exact Kd.N_nil _ _ _ _ _ | exact Kd.V_nil _ _ _ _ _ | exact Kd.Q_nil _ _ _ _ _ | exact Kd.S_nil _ _ _ _ _, zq0⟩
 subst c3
 have H1 : ((impl_Warning_61.f l0).bind fun t919 => (impl_JoinWarnings.l0 k t919)) = some (r1, r2) := by rw [if_pos rfl] at H; exact H
 clear H
 have H := H1
 clear H1
 replace H := Option.bind_eq_some_iff.mp H
 obtain ⟨t919, A40, H⟩ := H
 replace H : (impl_JoinWarnings.l0 k t919) = some (r1, r2) := H
 have A4 := Aside0.mk A40
 clear A40
 have H' := Aside0.mk H
 clear H
 go_enter Try.func44, Try.ntmps44
 go_wp2_with (first | ((with_reducible refine gate_callee (f := 12) rfl ?_); refine goesL_ (some 9) rfl rfl Try.func12 (by kernel_rfl) rfl #[.slice A0 l0.length c0] rfl zq1 ?_; (with_reducible refine (impl_IsConsistent.calls k _ _ l0 true _ ?side1 ?side2 A2.out).mono ?_); (case side1 => exact zqC HR0.out); (case side2 => exact HC0.out); rintro e w5 ⟨rfl, hb⟩; refine ⟨_, rfl, ?_⟩; have n0_ := Aside0.mk (below_step zq0 hb); clear HB; have HB := n0_; clear n0_; (try clear hb); (try clear hb2); (try clear hk); (try clear hi)) | ((with_reducible refine gate_callee (f := 61) rfl ?_); refine goesL_ (some 12) rfl rfl Try.func61 (by kernel_rfl) rfl #[.slice A0 l0.length c0] rfl zq1 ?_; (with_reducible refine (impl_Warning_61.calls _ _ l0 t919 _ ?side1 ?side2 A4.out).mono ?_); (case side1 => exact zqC (Kd.C_below HR0.out HB.out)); (case side2 => exact HC0.out); rintro e w6 ⟨v920, rfl, ho0, hb⟩; refine ⟨_, rfl, ?_⟩; have n0_ := Aside0.mk (Kd.R_lower ho0 (below_size zq0)); have n1_ := Aside0.mk (below_step zq0 hb); clear HB; have HO921 := n0_; have HB := n1_; clear n0_ n1_; (try clear hb); (try clear hb2); (try clear hk); (try clear hi); (try clear ho0)))
 go_loopg [4] k (fun kq v4 w' => ∃ (x4_1 : List (S31)), Aside0 (impl_JoinWarnings.l0 kq x4_1 = some (r1, r2)) ∧ Aside0 (kq ≤ k) ∧ Aside0 (Kd.R k31 31 w' w.heap.size (fun _ => True) v4 x4_1) ∧ Aside0 (Below w.heap.size w w'))
 case atStart => exact ⟨(t919), H', ⟨Nat.le_refl _⟩, ⟨zqR HO921.out⟩, ⟨zq0⟩⟩
 clear H'
 try clear c1
 try clear p2
 try clear c3
 try clear c4
 try clear c6
 obtain ⟨x4_1, HA, HK1, HO_4, HB⟩ := hrel
 cases gk with
 | zero => exact absurd HA.out (by simp [impl_JoinWarnings.l0])
 | succ k1 =>
  have H := HA.out
  clear HA
  simp only [impl_JoinWarnings.l0] at H
  replace H := Option.bind_eq_some_iff.mp H
  obtain ⟨⟨t922, t923, t924⟩, A70, H⟩ := H
  replace H : (if t924 = true then (if 0 ≤ t922 then (if t922 < (x4_1.length : Int) then (if 0 ≤ t923 then (if t923 < (x4_1.length : Int) then ((some (x4_1.set (t922 : Int).toNat (⟨(rd_T31 x4_1 t922).f0, (rd_T31 x4_1 t922).f1, (rd_T31 x4_1 t922).f2, (rd_T31 x4_1 t922).f3, mn ((rd_T31 x4_1 t922).f4) ((rd_T31 x4_1 t923).f4), (rd_T31 x4_1 t922).f5⟩ : S31) : List (S31))).bind fun y929 => ((impl_Warning_74.f (y929.set (t922 : Int).toNat (⟨(rd_T31 y929 t922).f0, (rd_T31 y929 t922).f1, (rd_T31 y929 t922).f2, (rd_T31 y929 t922).f3, (rd_T31 y929 t922).f4, mx ((rd_T31 x4_1 t922).f5) ((rd_T31 x4_1 t923).f5)⟩ : S31)) t923 (wrap64 (t923 + 1))).bind fun t931 => (impl_JoinWarnings.l0 k1 t931))) else (none)) else (none)) else (none)) else (none)) else (some (x4_1, true))) = some (r1, r2) := H
  have A7 := Aside0.mk A70
  clear A70
  by_cases c8 : t924 = true
  case neg =>
   replace c8 := Bool.eq_false_iff.mpr c8
   subst c8
   have H1 : (some (x4_1, true)) = some (r1, r2) := by rw [if_neg (show ¬ (false = true) by decide)] at H; exact H
   clear H
   have H := H1
   clear H1
   simp only [Option.some.injEq, Prod.mk.injEq] at H
   obtain ⟨rfl, rfl⟩ := H
   obtain ⟨Ao25, co25, eo25⟩ := Kd.R_slice HO_4.out
   subst eo25
   go_wp2_with (first | ((with_reducible refine gate_callee (f := 93) rfl ?_); refine goesL_ (some 15) rfl rfl Try.func93 (by kernel_rfl) rfl #[.slice Ao25 x4_1.length co25] rfl zq1 ?_; (with_reducible refine (impl_firstJoint.calls k1 _ _ x4_1 t922 t923 false _ ?side1 ?side2 A7.out).mono ?_); (case side1 => exact zqC (Kd.R_reads' HO_4.out).2.2); (case side2 => exact (Kd.R_reads' HO_4.out).2.1); rintro e w26 ⟨rfl, hb⟩; refine ⟨_, rfl, ?_⟩; have n0_ := Aside0.mk (Kd.R_below (zqR HO_4.out) hb); have n1_ := Aside0.mk (below_step zq0 hb); clear HO_4; clear HB; have HO_4 := n0_; have HB := n1_; clear n0_ n1_; (try clear hb); (try clear hb2); (try clear hk); (try clear hi)))
   go_ret2
   exact ⟨_, by first | rfl | (simp [errW_none, errW_some] <;> rfl) | (simp [*, errW_none, errW_some] <;> rfl), zqR HO_4.out, zq0⟩
  subst c8
  have H1 : (if 0 ≤ t922 then (if t922 < (x4_1.length : Int) then (if 0 ≤ t923 then (if t923 < (x4_1.length : Int) then ((some (x4_1.set (t922 : Int).toNat (⟨(rd_T31 x4_1 t922).f0, (rd_T31 x4_1 t922).f1, (rd_T31 x4_1 t922).f2, (rd_T31 x4_1 t922).f3, mn ((rd_T31 x4_1 t922).f4) ((rd_T31 x4_1 t923).f4), (rd_T31 x4_1 t922).f5⟩ : S31) : List (S31))).bind fun y929 => ((impl_Warning_74.f (y929.set (t922 : Int).toNat (⟨(rd_T31 y929 t922).f0, (rd_T31 y929 t922).f1, (rd_T31 y929 t922).f2, (rd_T31 y929 t922).f3, (rd_T31 y929 t922).f4, mx ((rd_T31 x4_1 t922).f5) ((rd_T31 x4_1 t923).f5)⟩ : S31)) t923 (wrap64 (t923 + 1))).bind fun t931 => (impl_JoinWarnings.l0 k1 t931))) else (none)) else (none)) else (none)) else (none)) = some (r1, r2) := by rw [if_pos rfl] at H; exact H
  clear H
  have H := H1
  clear H1
  by_cases c9 : 0 ≤ t922
  case neg =>
   rw [if_neg c9] at H
   exact absurd H (by simp)
  rw [if_pos c9] at H
  have c9b0 : decide (0 ≤ t922) = true := decide_eq_true c9
  clear c9
  by_cases c10 : t922 < (x4_1.length : Int)
  case neg =>
   rw [if_neg c10] at H
   exact absurd H (by simp)
  rw [if_pos c10] at H
  have c10b0 : decide (t922 < (x4_1.length : Int)) = true := decide_eq_true c10
  clear c10
  by_cases c11 : 0 ≤ t923
  case neg =>
   rw [if_neg c11] at H
   exact absurd H (by simp)
  rw [if_pos c11] at H
  have c11b0 : decide (0 ≤ t923) = true := decide_eq_true c11
  clear c11
  by_cases c12 : t923 < (x4_1.length : Int)
  case neg =>
   rw [if_neg c12] at H
   exact absurd H (by simp)
  rw [if_pos c12] at H
  have c12b0 : decide (t923 < (x4_1.length : Int)) = true := decide_eq_true c12
  clear c12
  obtain ⟨ji13, hji13⟩ : ∃ j_ : Int, (mn ((rd_T31 x4_1 t922).f4) ((rd_T31 x4_1 t923).f4)) = j_ := ⟨_, rfl⟩
  replace H : ((some (x4_1.set (t922 : Int).toNat (⟨(rd_T31 x4_1 t922).f0, (rd_T31 x4_1 t922).f1, (rd_T31 x4_1 t922).f2, (rd_T31 x4_1 t922).f3, ji13, (rd_T31 x4_1 t922).f5⟩ : S31) : List (S31))).bind fun y929 => ((impl_Warning_74.f (y929.set (t922 : Int).toNat (⟨(rd_T31 y929 t922).f0, (rd_T31 y929 t922).f1, (rd_T31 y929 t922).f2, (rd_T31 y929 t922).f3, (rd_T31 y929 t922).f4, mx ((rd_T31 x4_1 t922).f5) ((rd_T31 x4_1 t923).f5)⟩ : S31)) t923 (wrap64 (t923 + 1))).bind fun t931 => (impl_JoinWarnings.l0 k1 t931))) = some (r1, r2) := by first | (rw [hji13] at H; exact H) | (simp only [hji13] at H ⊢; exact H)
  (try rw [hji13] at A7)
  have hji13_ : (if ((rd_T31 x4_1 t923).f4) < ((rd_T31 x4_1 t922).f4) then ((rd_T31 x4_1 t923).f4) else ((rd_T31 x4_1 t922).f4)) = ji13 := hji13
  obtain ⟨ji14, hji14⟩ : ∃ j_ : Int, (mx ((rd_T31 x4_1 t922).f5) ((rd_T31 x4_1 t923).f5)) = j_ := ⟨_, rfl⟩
  replace H : ((some (x4_1.set (t922 : Int).toNat (⟨(rd_T31 x4_1 t922).f0, (rd_T31 x4_1 t922).f1, (rd_T31 x4_1 t922).f2, (rd_T31 x4_1 t922).f3, ji13, (rd_T31 x4_1 t922).f5⟩ : S31) : List (S31))).bind fun y929 => ((impl_Warning_74.f (y929.set (t922 : Int).toNat (⟨(rd_T31 y929 t922).f0, (rd_T31 y929 t922).f1, (rd_T31 y929 t922).f2, (rd_T31 y929 t922).f3, (rd_T31 y929 t922).f4, ji14⟩ : S31)) t923 (wrap64 (t923 + 1))).bind fun t931 => (impl_JoinWarnings.l0 k1 t931))) = some (r1, r2) := by first | (rw [hji14] at H; exact H) | (simp only [hji14] at H ⊢; exact H)
  (try rw [hji14] at A7)
  have hji14_ : (if ((rd_T31 x4_1 t922).f5) < ((rd_T31 x4_1 t923).f5) then ((rd_T31 x4_1 t923).f5) else ((rd_T31 x4_1 t922).f5)) = ji14 := hji14
  obtain ⟨y929, hy929⟩ : ∃ y_ : List (S31), y_ = (x4_1.set (t922 : Int).toNat (⟨(rd_T31 x4_1 t922).f0, (rd_T31 x4_1 t922).f1, (rd_T31 x4_1 t922).f2, (rd_T31 x4_1 t922).f3, ji13, (rd_T31 x4_1 t922).f5⟩ : S31)) := ⟨_, rfl⟩
  replace H : ((impl_Warning_74.f (y929.set (t922 : Int).toNat (⟨(rd_T31 y929 t922).f0, (rd_T31 y929 t922).f1, (rd_T31 y929 t922).f2, (rd_T31 y929 t922).f3, (rd_T31 y929 t922).f4, ji14⟩ : S31)) t923 (wrap64 (t923 + 1))).bind fun t931 => (impl_JoinWarnings.l0 k1 t931)) = some (r1, r2) := zqH hy929 H
  have Ny929 := Aside0.mk hy929
  clear hy929
  obtain ⟨y930, hy930⟩ : ∃ y_ : List (S31), y_ = (y929.set (t922 : Int).toNat (⟨(rd_T31 y929 t922).f0, (rd_T31 y929 t922).f1, (rd_T31 y929 t922).f2, (rd_T31 y929 t922).f3, (rd_T31 y929 t922).f4, ji14⟩ : S31)) := ⟨_, rfl⟩
  replace H : ((impl_Warning_74.f y930 t923 (wrap64 (t923 + 1))).bind fun t931 => (impl_JoinWarnings.l0 k1 t931)) = some (r1, r2) := zqH hy930 H
  have Ny930 := Aside0.mk hy930
  clear hy930
  replace H := Option.bind_eq_some_iff.mp H
  obtain ⟨t931, A170, H⟩ := H
  replace H : (impl_JoinWarnings.l0 k1 t931) = some (r1, r2) := H
  have A17 := Aside0.mk A170
  clear A170
  have H' := Aside0.mk H
  clear H
  obtain ⟨Ao18, co18, eo18⟩ := Kd.R_slice HO_4.out
  subst eo18
  try go_wp2_with (first | ((with_reducible refine gate_callee (f := 93) rfl ?_); refine goesL_ (some 15) rfl rfl Try.func93 (by kernel_rfl) rfl #[.slice Ao18 x4_1.length co18] rfl zq1 ?_; (with_reducible refine (impl_firstJoint.calls k1 _ _ x4_1 t922 t923 true _ ?side1 ?side2 A7.out).mono ?_); (case side1 => exact zqC (Kd.R_reads' HO_4.out).2.2); (case side2 => exact (Kd.R_reads' HO_4.out).2.1); rintro e w19 ⟨rfl, hb⟩; refine ⟨_, rfl, ?_⟩; have n0_ := Aside0.mk (Kd.R_below (zqR HO_4.out) hb); have n1_ := Aside0.mk (below_step zq0 hb); clear HO_4; clear HB; have HO_4 := n0_; have HB := n1_; clear n0_ n1_; (try clear hb); (try clear hb2); (try clear hk); (try clear hi)))
  have n0_ := Aside0.mk (Kd.R_drew HO_4.out)
  have n1_ := Aside0.mk (below_drew1 HB.out)
  clear HO_4
  clear HB
  have HO_4 := n0_
  have HB := n1_
  clear n0_ n1_
  have p925 : 0 ≤ (t922 : Int) := of_decide_eq_true zq5
  have q925 : t922 < (x4_1.length : Int) := of_decide_eq_true zq5
  obtain ⟨ad925, e925, hx925_0, hx925_1, hx925_2, hx925_3, hx925_4, hx925_5⟩ := at_T31 (Kd.R_reads' HO_4.out).2.2 t922 p925 q925
  cases e925
  replace p925 := eq_true p925
  replace q925 := eq_true q925
  have p926 : 0 ≤ (t923 : Int) := of_decide_eq_true zq5
  have q926 : t923 < (x4_1.length : Int) := of_decide_eq_true zq5
  obtain ⟨ad926, e926, hx926_0, hx926_1, hx926_2, hx926_3, hx926_4, hx926_5⟩ := at_T31 (Kd.R_reads' HO_4.out).2.2 t923 p926 q926
  obtain rfl : ad925 = ad926 := (by injection e926)
  replace p926 := eq_true p926
  replace q926 := eq_true q926
  have p927 : 0 ≤ (t922 : Int) := of_decide_eq_true zq5
  have q927 : t922 < (x4_1.length : Int) := of_decide_eq_true zq5
  obtain ⟨ad927, e927, hx927_0, hx927_1, hx927_2, hx927_3, hx927_4, hx927_5⟩ := at_T31 (Kd.R_reads' HO_4.out).2.2 t922 p927 q927
  obtain rfl : ad925 = ad927 := (by injection e927)
  replace p927 := eq_true p927
  replace q927 := eq_true q927
  have p928 : 0 ≤ (t923 : Int) := of_decide_eq_true zq5
  have q928 : t923 < (x4_1.length : Int) := of_decide_eq_true zq5
  obtain ⟨ad928, e928, hx928_0, hx928_1, hx928_2, hx928_3, hx928_4, hx928_5⟩ := at_T31 (Kd.R_reads' HO_4.out).2.2 t923 p928 q928
  obtain rfl : ad925 = ad928 := (by injection e928)
  replace p928 := eq_true p928
  replace q928 := eq_true q928
  have p15 : 0 ≤ (t922 : Int) := of_decide_eq_true zq5
  have q15 : (t922 : Int) < ((x4_1.length : Int) : Int) := of_decide_eq_true zq5
  obtain ⟨go15, co15, eo15, gb15, gl15, cl15, HG15⟩ := Kd.R_form HO_4.out (by omega)
  (first | cases eo15 | (injection eo15 with ea_ en_ ec_; (first | subst ea_ | (injection ea_ with ea_; subst ea_)); subst ec_; clear en_))
  have GB15 := Aside0.mk gb15
  have GG15 := Aside0.mk HG15
  clear gb15 gl15 HG15
  (first | simp only [add_plain] at hx925_0 | skip)
  (first | simp only [add_plain] at hx925_1 | skip)
  (first | simp only [add_plain] at hx925_2 | skip)
  (first | simp only [add_plain] at hx925_3 | skip)
  (first | simp only [add_plain] at hx925_4 | skip)
  (first | simp only [add_plain] at hx925_5 | skip)
  (first | simp only [add_plain] at hx926_0 | skip)
  (first | simp only [add_plain] at hx926_1 | skip)
  (first | simp only [add_plain] at hx926_2 | skip)
  (first | simp only [add_plain] at hx926_3 | skip)
  (first | simp only [add_plain] at hx926_4 | skip)
  (first | simp only [add_plain] at hx926_5 | skip)
  (first | simp only [add_plain] at hx927_0 | skip)
  (first | simp only [add_plain] at hx927_1 | skip)
  (first | simp only [add_plain] at hx927_2 | skip)
  (first | simp only [add_plain] at hx927_3 | skip)
  (first | simp only [add_plain] at hx927_4 | skip)
  (first | simp only [add_plain] at hx927_5 | skip)
  (first | simp only [add_plain] at hx928_0 | skip)
  (first | simp only [add_plain] at hx928_1 | skip)
  (first | simp only [add_plain] at hx928_2 | skip)
  (first | simp only [add_plain] at hx928_3 | skip)
  (first | simp only [add_plain] at hx928_4 | skip)
  (first | simp only [add_plain] at hx928_5 | skip)
  obtain ⟨ce15, hcl15, hM15, hcc15, hfr15⟩ := Kd.R_elem HO_4.out z31 (t922 : Int) p15 q15
  obtain rfl := k31_openM hM15
  have hx15_0 : World.cell? _ ⟨go15, (t922 : Int).toNat * 6, none⟩ = some (.int .i64 ((rd_T31 x4_1 t922).f0)) := hcc15 0 _ rfl
  have hx15_1 : World.cell? _ ⟨go15, (t922 : Int).toNat * 6 + 1, none⟩ = some (.int .i64 ((rd_T31 x4_1 t922).f1)) := hcc15 1 _ rfl
  have hx15_2 : World.cell? _ ⟨go15, (t922 : Int).toNat * 6 + 2, none⟩ = some (.int .i64 ((rd_T31 x4_1 t922).f2)) := hcc15 2 _ rfl
  have hx15_3 : World.cell? _ ⟨go15, (t922 : Int).toNat * 6 + 3, none⟩ = some (.int .i64 ((rd_T31 x4_1 t922).f3)) := hcc15 3 _ rfl
  have hx15_4 : World.cell? _ ⟨go15, (t922 : Int).toNat * 6 + 4, none⟩ = some (.int .i64 ((rd_T31 x4_1 t922).f4)) := hcc15 4 _ rfl
  have hx15_5 : World.cell? _ ⟨go15, (t922 : Int).toNat * 6 + 5, none⟩ = some (.int .i64 ((rd_T31 x4_1 t922).f5)) := hcc15 5 _ rfl
  have hf15_0 : World.frozen? _ ⟨go15, (t922 : Int).toNat * 6, none⟩ = false := hfr15 0
  have hf15_1 : World.frozen? _ ⟨go15, (t922 : Int).toNat * 6 + 1, none⟩ = false := hfr15 1
  have hf15_2 : World.frozen? _ ⟨go15, (t922 : Int).toNat * 6 + 2, none⟩ = false := hfr15 2
  have hf15_3 : World.frozen? _ ⟨go15, (t922 : Int).toNat * 6 + 3, none⟩ = false := hfr15 3
  have hf15_4 : World.frozen? _ ⟨go15, (t922 : Int).toNat * 6 + 4, none⟩ = false := hfr15 4
  have hf15_5 : World.frozen? _ ⟨go15, (t922 : Int).toNat * 6 + 5, none⟩ = false := hfr15 5
  clear hcl15 hcc15 hfr15 hM15
  replace p15 := eq_true p15
  replace q15 := eq_true q15
  obtain ⟨ce21, hcl21, hM21, hcc21, hfr21⟩ := Kd.R_elem HO_4.out z31 (t922 : Int) (of_decide_eq_true zq5) (by have h_ : (t922 : Int) < ((x4_1.length : Int) : Int) := of_decide_eq_true zq5; first | exact h_ | (have e_ := (Kd.R_reads' HO_4.out).1; omega) | simpa using h_)
  obtain rfl := k31_openM hM21
  have HP21 := (Kd.R_seg HO_4.out (t922 : Int) (of_decide_eq_true zq5) (by have h_ : (t922 : Int) < ((x4_1.length : Int) : Int) := of_decide_eq_true zq5; first | exact h_ | (have e_ := (Kd.R_reads' HO_4.out).1; omega) | simpa using h_) (seg := [.int .i64 ji13]) (j := 4) hcl21 hcc21 (show 5 ≤ 6 from by decide) (x' := (⟨(rd_T31 x4_1 t922).f0, (rd_T31 x4_1 t922).f1, (rd_T31 x4_1 t922).f2, (rd_T31 x4_1 t922).f3, ji13, (rd_T31 x4_1 t922).f5⟩ : S31)) (k31_mkM _ _ _ (⟨(rd_T31 x4_1 t922).f0, (rd_T31 x4_1 t922).f1, (rd_T31 x4_1 t922).f2, (rd_T31 x4_1 t922).f3, ji13, (rd_T31 x4_1 t922).f5⟩ : S31) ) (fun _ hk => hk)).1
  rw [← Ny929.out] at HP21
  have HQ21 := Aside0.mk HP21
  clear hcl21 hcc21 hfr21 hM21 HP21
  have p16 : 0 ≤ (t922 : Int) := of_decide_eq_true zq5
  have q16 : (t922 : Int) < ((x4_1.length : Int) : Int) := of_decide_eq_true zq5
  replace p16 := eq_true p16
  replace q16 := eq_true q16
  obtain ⟨ce22, hcl22, hM22, hcc22, hfr22⟩ := Kd.R_elem HQ21.out z31 (t922 : Int) (of_decide_eq_true zq5) (by have h_ : (t922 : Int) < ((x4_1.length : Int) : Int) := of_decide_eq_true zq5; first | exact h_ | (have e_ := (Kd.R_reads' HO_4.out).1; omega) | simpa using h_)
  obtain rfl := k31_openM hM22
  have HP22 := (Kd.R_seg HQ21.out (t922 : Int) (of_decide_eq_true zq5) (by have h_ : (t922 : Int) < ((x4_1.length : Int) : Int) := of_decide_eq_true zq5; first | exact h_ | (have e_ := (Kd.R_reads' HO_4.out).1; omega) | simpa using h_) (seg := [.int .i64 ji14]) (j := 5) hcl22 hcc22 (show 6 ≤ 6 from by decide) (x' := (⟨(rd_T31 y929 t922).f0, (rd_T31 y929 t922).f1, (rd_T31 y929 t922).f2, (rd_T31 y929 t922).f3, (rd_T31 y929 t922).f4, ji14⟩ : S31)) (k31_mkM _ _ _ (⟨(rd_T31 y929 t922).f0, (rd_T31 y929 t922).f1, (rd_T31 y929 t922).f2, (rd_T31 y929 t922).f3, (rd_T31 y929 t922).f4, ji14⟩ : S31) ) (fun _ hk => hk)).1
  rw [← Ny930.out] at HP22
  have HQ22 := Aside0.mk HP22
  clear hcl22 hcc22 hfr22 hM22 HP22
  refine start_ (n := 32) (S := fun w' => w'.cell? ⟨go15, ((t922).toNat * 6), none⟩ = some (.int .i64 ((rd_T31 x4_1 t922).f0)) ∧ w'.cell? ⟨go15, ((t922).toNat * 6) + 1, none⟩ = some (.int .i64 ((rd_T31 x4_1 t922).f1)) ∧ w'.cell? ⟨go15, ((t922).toNat * 6) + 2, none⟩ = some (.int .i64 ((rd_T31 x4_1 t922).f2)) ∧ w'.cell? ⟨go15, ((t922).toNat * 6) + 3, none⟩ = some (.int .i64 ((rd_T31 x4_1 t922).f3)) ∧ w'.cell? ⟨go15, ((t922).toNat * 6) + 4, none⟩ = some (.int .i64 ((rd_T31 x4_1 t922).f4)) ∧ w'.cell? ⟨go15, ((t922).toNat * 6) + 5, none⟩ = some (.int .i64 ((rd_T31 x4_1 t922).f5)) ∧ w'.cell? ⟨go15, ((t923).toNat * 6), none⟩ = some (.int .i64 ((rd_T31 x4_1 t923).f0)) ∧ w'.cell? ⟨go15, ((t923).toNat * 6) + 1, none⟩ = some (.int .i64 ((rd_T31 x4_1 t923).f1)) ∧ w'.cell? ⟨go15, ((t923).toNat * 6) + 2, none⟩ = some (.int .i64 ((rd_T31 x4_1 t923).f2)) ∧ w'.cell? ⟨go15, ((t923).toNat * 6) + 3, none⟩ = some (.int .i64 ((rd_T31 x4_1 t923).f3)) ∧ w'.cell? ⟨go15, ((t923).toNat * 6) + 4, none⟩ = some (.int .i64 ((rd_T31 x4_1 t923).f4)) ∧ w'.cell? ⟨go15, ((t923).toNat * 6) + 5, none⟩ = some (.int .i64 ((rd_T31 x4_1 t923).f5)) ∧ w'.cell? ⟨go15, ((t922).toNat * 6), none⟩ = some (.int .i64 ((rd_T31 x4_1 t922).f0)) ∧ w'.cell? ⟨go15, ((t922).toNat * 6) + 1, none⟩ = some (.int .i64 ((rd_T31 x4_1 t922).f1)) ∧ w'.cell? ⟨go15, ((t922).toNat * 6) + 2, none⟩ = some (.int .i64 ((rd_T31 x4_1 t922).f2)) ∧ w'.cell? ⟨go15, ((t922).toNat * 6) + 3, none⟩ = some (.int .i64 ((rd_T31 x4_1 t922).f3)) ∧ w'.cell? ⟨go15, ((t922).toNat * 6) + 4, none⟩ = some (.int .i64 ((rd_T31 x4_1 t922).f4)) ∧ w'.cell? ⟨go15, ((t922).toNat * 6) + 5, none⟩ = some (.int .i64 ((rd_T31 x4_1 t922).f5)) ∧ w'.cell? ⟨go15, ((t923).toNat * 6), none⟩ = some (.int .i64 ((rd_T31 x4_1 t923).f0)) ∧ w'.cell? ⟨go15, ((t923).toNat * 6) + 1, none⟩ = some (.int .i64 ((rd_T31 x4_1 t923).f1)) ∧ w'.cell? ⟨go15, ((t923).toNat * 6) + 2, none⟩ = some (.int .i64 ((rd_T31 x4_1 t923).f2)) ∧ w'.cell? ⟨go15, ((t923).toNat * 6) + 3, none⟩ = some (.int .i64 ((rd_T31 x4_1 t923).f3)) ∧ w'.cell? ⟨go15, ((t923).toNat * 6) + 4, none⟩ = some (.int .i64 ((rd_T31 x4_1 t923).f4)) ∧ w'.cell? ⟨go15, ((t923).toNat * 6) + 5, none⟩ = some (.int .i64 ((rd_T31 x4_1 t923).f5))) (ds := [28, 31]) #[false, false, false, false, false, false, false, false, false, false, false, false, false, false, false, false, false, false, false, false, false, false, false, false, false, false, false, false, false, false, false, false] (by kernel_rfl) rfl rfl ⟨hx925_0, hx925_1, hx925_2, hx925_3, hx925_4, hx925_5, hx926_0, hx926_1, hx926_2, hx926_3, hx926_4, hx926_5, hx927_0, hx927_1, hx927_2, hx927_3, hx927_4, hx927_5, hx928_0, hx928_1, hx928_2, hx928_3, hx928_4, hx928_5⟩ (fun hHeld => ?_); refine with_tabW impl_JoinWarnings.tab7 impl_JoinWarnings.bits7 (fun HT_ HW_ => ?_)
  generalize w19.drew = w20 at HO_4 HB GG15 HQ21 HQ22 hf15_0 hf15_1 hf15_2 hf15_3 hf15_4 hf15_5 hx15_0 hx15_1 hx15_2 hx15_3 hx15_4 hx15_5 hx925_0 hx925_1 hx925_2 hx925_3 hx925_4 hx925_5 hx926_0 hx926_1 hx926_2 hx926_3 hx926_4 hx926_5 hx927_0 hx927_1 hx927_2 hx927_3 hx927_4 hx927_5 hx928_0 hx928_1 hx928_2 hx928_3 hx928_4 hx928_5 hHeld ⊢
  refine pure_ (i := 0) (N := some 22) (v := ?_) (a' := ?_) #[true, false, false, false, false, false, false, false, false, false, false, false, false, false, false, false, false, false, false, false, false, false, false, false, false, false, false, false, false, false, false, false] rfl rfl (any_of HT_.out (by kernel_rfl)) (fun _ _ _ h => h) (Or.inl ⟨by rfl, ?_⟩) ?_ ?_
  rotate_left; · exact zqB
  rotate_left; · exact zqA
  refine pure_ (i := 1) (N := some 23) (v := ?_) (a' := ?_) #[true, true, false, false, false, false, false, false, false, false, false, false, false, false, false, false, false, false, false, false, false, false, false, false, false, false, false, false, false, false, false, false] rfl rfl (any_of HT_.out (by kernel_rfl)) (fun _ _ _ h => h) (Or.inl ⟨by rfl, ?_⟩) ?_ ?_
  rotate_left; · exact zqB
  rotate_left; · exact zqA
  refine pure_ (i := 2) (N := some 24) (v := ?_) (a' := ?_) #[true, true, true, false, false, false, false, false, false, false, false, false, false, false, false, false, false, false, false, false, false, false, false, false, false, false, false, false, false, false, false, false] rfl rfl (any_of HT_.out (by kernel_rfl)) (fun _ _ _ h => h) (Or.inl ⟨by rfl, ?_⟩) ?_ ?_
  rotate_left; · exact zqB
  rotate_left; · exact zqA
  refine pure_ (i := 3) (N := some 25) (v := ?_) (a' := ?_) #[true, true, true, true, false, false, false, false, false, false, false, false, false, false, false, false, false, false, false, false, false, false, false, false, false, false, false, false, false, false, false, false] rfl rfl (any_of HT_.out (by kernel_rfl)) (fun _ _ _ h => h) (Or.inl ⟨by rfl, ?_⟩) ?_ ?_
  rotate_left; · exact zqB
  rotate_left; · exact zqA
  refine pure_ (i := 4) (N := some 26) (v := ?_) (a' := ?_) #[true, true, true, true, true, false, false, false, false, false, false, false, false, false, false, false, false, false, false, false, false, false, false, false, false, false, false, false, false, false, false, false] rfl rfl (any_of HT_.out (by kernel_rfl)) (fun _ _ _ h => h) (Or.inl ⟨by rfl, ?_⟩) ?_ ?_
  rotate_left; · exact zqB
  rotate_left; · exact zqA
  refine pure_ (i := 5) (N := some 27) (v := ?_) (a' := ?_) #[true, true, true, true, true, true, false, false, false, false, false, false, false, false, false, false, false, false, false, false, false, false, false, false, false, false, false, false, false, false, false, false] rfl rfl (any_of HT_.out (by kernel_rfl)) (fun _ _ _ h => h) (Or.inl ⟨by rfl, ?_⟩) ?_ ?_
  rotate_left; · exact zqB
  rotate_left; · exact zqA
  refine pure_ (i := 6) (N := some 28) (v := ?_) (a' := ?_) #[true, true, true, true, true, true, true, false, false, false, false, false, false, false, false, false, false, false, false, false, false, false, false, false, false, false, false, false, false, false, false, false] rfl rfl (any_of HT_.out (by kernel_rfl)) (fun _ _ _ h => h) (Or.inl ⟨by rfl, ?_⟩) ?_ ?_
  rotate_left; · exact zqB
  rotate_left; · exact zqA
  refine pure_ (i := 7) (N := some 29) (v := ?_) (a' := ?_) #[true, true, true, true, true, true, true, true, false, false, false, false, false, false, false, false, false, false, false, false, false, false, false, false, false, false, false, false, false, false, false, false] rfl rfl (any_of HT_.out (by kernel_rfl)) (fun _ _ _ h => h) (Or.inl ⟨by rfl, ?_⟩) ?_ ?_
  rotate_left; · exact zqB
  rotate_left; · exact zqA
  refine pure_ (i := 9) (N := some 31) (v := ?_) (a' := ?_) #[true, true, true, true, true, true, true, true, false, true, false, false, false, false, false, false, false, false, false, false, false, false, false, false, false, false, false, false, false, false, false, false] rfl rfl (any_of HT_.out (by kernel_rfl)) (fun _ _ _ h => h) (Or.inl ⟨by rfl, ?_⟩) ?_ ?_
  rotate_left; · exact zqB
  rotate_left; · exact zqA
  refine pure_ (i := 10) (N := some 32) (v := ?_) (a' := ?_) #[true, true, true, true, true, true, true, true, false, true, true, false, false, false, false, false, false, false, false, false, false, false, false, false, false, false, false, false, false, false, false, false] rfl rfl (any_of HT_.out (by kernel_rfl)) (fun _ _ _ h => h) (Or.inl ⟨by rfl, ?_⟩) ?_ ?_
  rotate_left; · exact zqB
  rotate_left; · exact zqA
  refine pure_ (i := 11) (N := some 33) (v := ?_) (a' := ?_) #[true, true, true, true, true, true, true, true, false, true, true, true, false, false, false, false, false, false, false, false, false, false, false, false, false, false, false, false, false, false, false, false] rfl rfl (any_of HT_.out (by kernel_rfl)) (fun _ _ _ h => h) (Or.inl ⟨by rfl, ?_⟩) ?_ ?_
  rotate_left; · exact zqB
  rotate_left; · exact zqA
  refine pure_ (i := 12) (N := some 34) (v := ?_) (a' := ?_) #[true, true, true, true, true, true, true, true, false, true, true, true, true, false, false, false, false, false, false, false, false, false, false, false, false, false, false, false, false, false, false, false] rfl rfl (any_of HT_.out (by kernel_rfl)) (fun _ _ _ h => h) (Or.inl ⟨by rfl, ?_⟩) ?_ ?_
  rotate_left; · exact zqB
  rotate_left; · exact zqA
  refine pure_ (i := 15) (N := some 37) (v := ?_) (a' := ?_) #[true, true, true, true, true, true, true, true, false, true, true, true, true, false, false, true, false, false, false, false, false, false, false, false, false, false, false, false, false, false, false, false] rfl rfl (any_of HT_.out (by kernel_rfl)) (fun _ _ _ h => h) (Or.inl ⟨by rfl, ?_⟩) ?_ ?_
  rotate_left; · exact zqB
  rotate_left; · exact zqA
  refine pure_ (i := 16) (N := some 38) (v := ?_) (a' := ?_) #[true, true, true, true, true, true, true, true, false, true, true, true, true, false, false, true, true, false, false, false, false, false, false, false, false, false, false, false, false, false, false, false] rfl rfl (any_of HT_.out (by kernel_rfl)) (fun _ _ _ h => h) (Or.inl ⟨by rfl, ?_⟩) ?_ ?_
  rotate_left; · exact zqB
  rotate_left; · exact zqA
  refine pure_ (i := 17) (N := some 39) (v := ?_) (a' := ?_) #[true, true, true, true, true, true, true, true, false, true, true, true, true, false, false, true, true, true, false, false, false, false, false, false, false, false, false, false, false, false, false, false] rfl rfl (any_of HT_.out (by kernel_rfl)) (fun _ _ _ h => h) (Or.inl ⟨by rfl, ?_⟩) ?_ ?_
  rotate_left; · exact zqB
  rotate_left; · exact zqA
  refine pure_ (i := 18) (N := some 40) (v := ?_) (a' := ?_) #[true, true, true, true, true, true, true, true, false, true, true, true, true, false, false, true, true, true, true, false, false, false, false, false, false, false, false, false, false, false, false, false] rfl rfl (any_of HT_.out (by kernel_rfl)) (fun _ _ _ h => h) (Or.inl ⟨by rfl, ?_⟩) ?_ ?_
  rotate_left; · exact zqB
  rotate_left; · exact zqA
  refine pure_ (i := 20) (N := some 42) (v := ?_) (a' := ?_) #[true, true, true, true, true, true, true, true, false, true, true, true, true, false, false, true, true, true, true, false, true, false, false, false, false, false, false, false, false, false, false, false] rfl rfl (any_of HT_.out (by kernel_rfl)) (fun _ _ _ h => h) (Or.inl ⟨by rfl, ?_⟩) ?_ ?_
  rotate_left; · exact zqB
  rotate_left; · exact zqA
  refine pure_ (i := 21) (N := some 43) (v := ?_) (a' := ?_) #[true, true, true, true, true, true, true, true, false, true, true, true, true, false, false, true, true, true, true, false, true, true, false, false, false, false, false, false, false, false, false, false] rfl rfl (any_of HT_.out (by kernel_rfl)) (fun _ _ _ h => h) (Or.inl ⟨by rfl, ?_⟩) ?_ ?_
  rotate_left; · exact zqB
  rotate_left; · exact zqA
  refine pure_ (i := 22) (N := some 44) (v := ?_) (a' := ?_) #[true, true, true, true, true, true, true, true, false, true, true, true, true, false, false, true, true, true, true, false, true, true, true, false, false, false, false, false, false, false, false, false] rfl rfl (any_of HT_.out (by kernel_rfl)) (fun _ _ _ h => h) (Or.inl ⟨by rfl, ?_⟩) ?_ ?_
  rotate_left; · exact zqB
  rotate_left; · exact zqA
  refine pure_ (i := 23) (N := some 45) (v := ?_) (a' := ?_) #[true, true, true, true, true, true, true, true, false, true, true, true, true, false, false, true, true, true, true, false, true, true, true, true, false, false, false, false, false, false, false, false] rfl rfl (any_of HT_.out (by kernel_rfl)) (fun _ _ _ h => h) (Or.inl ⟨by rfl, ?_⟩) ?_ ?_
  rotate_left; · exact zqB
  rotate_left; · exact zqA
  refine take_ (i := 8) (N := some 30) (v := ?_) (a' := ?_) #[true, true, true, true, true, true, true, true, true, true, true, true, true, false, false, true, true, true, true, false, true, true, true, true, false, false, false, false, false, false, false, false] rfl rfl (take_ofW HT_.out HW_.out (by kernel_rfl)) (fun _ _ _ h => h) (Or.inl ⟨by rfl, ?_⟩) hHeld ?_ ?_
  rotate_left
  ·
   rintro w' ⟨s0, s1, s2, s3, s4, s5, s6, s7, s8, s9, s10, s11, s12, s13, s14, s15, s16, s17, s18, s19, s20, s21, s22, s23⟩
   go_simp
   with_reducible rfl
  rotate_left; · exact zqA
  refine take_ (i := 13) (N := some 35) (v := ?_) (a' := ?_) #[true, true, true, true, true, true, true, true, true, true, true, true, true, true, false, true, true, true, true, false, true, true, true, true, false, false, false, false, false, false, false, false] rfl rfl (take_ofW HT_.out HW_.out (by kernel_rfl)) (fun _ _ _ h => h) (Or.inl ⟨by rfl, ?_⟩) hHeld ?_ ?_
  rotate_left
  ·
   rintro w' ⟨s0, s1, s2, s3, s4, s5, s6, s7, s8, s9, s10, s11, s12, s13, s14, s15, s16, s17, s18, s19, s20, s21, s22, s23⟩
   go_simp
   with_reducible rfl
  rotate_left; · exact zqA
  refine pure_ (i := 14) (N := some 36) (v := ?_) (a' := ?_) #[true, true, true, true, true, true, true, true, true, true, true, true, true, true, true, true, true, true, true, false, true, true, true, true, false, false, false, false, false, false, false, false] rfl rfl (any_of HT_.out (by kernel_rfl)) (fun _ _ _ h => h) (Or.inl ⟨by rfl, ?_⟩) ?_ ?_
  rotate_left; · exact zqB
  rotate_left; · exact zqA
  refine take_ (i := 19) (N := some 41) (v := ?_) (a' := ?_) #[true, true, true, true, true, true, true, true, true, true, true, true, true, true, true, true, true, true, true, true, true, true, true, true, false, false, false, false, false, false, false, false] rfl rfl (take_ofW HT_.out HW_.out (by kernel_rfl)) (fun _ _ _ h => h) (Or.inl ⟨by rfl, ?_⟩) hHeld ?_ ?_
  rotate_left
  ·
   rintro w' ⟨s0, s1, s2, s3, s4, s5, s6, s7, s8, s9, s10, s11, s12, s13, s14, s15, s16, s17, s18, s19, s20, s21, s22, s23⟩
   go_simp
   with_reducible rfl
  rotate_left; · exact zqA
  refine take_ (i := 24) (N := some 46) (v := ?_) (a' := ?_) #[true, true, true, true, true, true, true, true, true, true, true, true, true, true, true, true, true, true, true, true, true, true, true, true, true, false, false, false, false, false, false, false] rfl rfl (take_ofW HT_.out HW_.out (by kernel_rfl)) (fun _ _ _ h => h) (Or.inl ⟨by rfl, ?_⟩) hHeld ?_ ?_
  rotate_left
  ·
   rintro w' ⟨s0, s1, s2, s3, s4, s5, s6, s7, s8, s9, s10, s11, s12, s13, s14, s15, s16, s17, s18, s19, s20, s21, s22, s23⟩
   go_simp
   with_reducible rfl
  rotate_left; · exact zqA
  refine pure_ (i := 25) (N := some 47) (v := ?_) (a' := ?_) #[true, true, true, true, true, true, true, true, true, true, true, true, true, true, true, true, true, true, true, true, true, true, true, true, true, true, false, false, false, false, false, false] rfl rfl (any_of HT_.out (by kernel_rfl)) (fun _ _ _ h => h) (Or.inl ⟨by rfl, ?_⟩) ?_ ?_
  rotate_left; · exact zqB
  rotate_left; · exact zqA
  refine pure_ (i := 26) (N := some 48) (v := ?_) (a' := ?_) #[true, true, true, true, true, true, true, true, true, true, true, true, true, true, true, true, true, true, true, true, true, true, true, true, true, true, true, false, false, false, false, false] rfl rfl (any_of HT_.out (by kernel_rfl)) (fun _ _ _ h => h) (Or.inl ⟨by rfl, ?_⟩) ?_ ?_
  rotate_left; · exact zqB
  rotate_left; · exact zqA
  refine pure_ (i := 27) (N := some 49) (v := ?_) (a' := ?_) #[true, true, true, true, true, true, true, true, true, true, true, true, true, true, true, true, true, true, true, true, true, true, true, true, true, true, true, true, false, false, false, false] rfl rfl (any_of HT_.out (by kernel_rfl)) (fun _ _ _ h => h) (Or.inl ⟨by rfl, ?_⟩) ?_ ?_
  rotate_left; · exact zqB
  rotate_left; · exact zqA
  refine last_ (i := 28) (N := none) #[true, true, true, true, true, true, true, true, true, true, true, true, true, true, true, true, true, true, true, true, true, true, true, true, true, true, true, true, true, false, false, false] rfl rfl (one_of HT_.out (by kernel_rfl)) (by decide) (fun K hK => ?_)
  refine skip_ (w1 := ?_) (by rfl) rfl ?_ ?_
  rotate_left
  ·
   go_simp
   rfl
  refine hK.out _ _ ?_
  clear hK K
  refine pure_ (i := 29) (N := some 50) (v := ?_) (a' := ?_) #[true, true, true, true, true, true, true, true, true, true, true, true, true, true, true, true, true, true, true, true, true, true, true, true, true, true, true, true, true, true, false, false] rfl rfl (any_of HT_.out (by kernel_rfl)) (fun _ _ _ h => h) (Or.inl ⟨by rfl, ?_⟩) ?_ ?_
  rotate_left; · exact zqB
  rotate_left; · exact zqA
  refine pure_ (i := 30) (N := some 51) (v := ?_) (a' := ?_) #[true, true, true, true, true, true, true, true, true, true, true, true, true, true, true, true, true, true, true, true, true, true, true, true, true, true, true, true, true, true, true, false] rfl rfl (any_of HT_.out (by kernel_rfl)) (fun _ _ _ h => h) (Or.inl ⟨by rfl, ?_⟩) ?_ ?_
  rotate_left; · exact zqB
  rotate_left; · exact zqA
  refine last_ (i := 31) (N := none) #[true, true, true, true, true, true, true, true, true, true, true, true, true, true, true, true, true, true, true, true, true, true, true, true, true, true, true, true, true, true, true, true] rfl rfl (one_of HT_.out (by kernel_rfl)) (by decide) (fun K hK => ?_)
  refine skip_ (w1 := ?_) (by rfl) rfl ?_ ?_
  rotate_left
  ·
   go_simp
   rfl
  refine hK.out _ _ ?_
  clear hK K
  refine done_ (done_of HT_.out (by kernel_rfl)) ?_
  have n0_ : Aside0 (Kd.R k31 31 ((w20.setCell ⟨go15, (t922 : Int).toNat * 6 + 4, none⟩ (.int .i64 ji13)).setCell ⟨go15, (t922 : Int).toNat * 6 + 5, none⟩ (.int .i64 ji14)) w.heap.size (fun _ => True) (.slice (some ⟨go15, 0, none⟩) x4_1.length co18) y930) := ⟨zqR HQ22.out⟩
  have n1_ : Aside0 (Below w.heap.size w ((w20.setCell ⟨go15, (t922 : Int).toNat * 6 + 4, none⟩ (.int .i64 ji13)).setCell ⟨go15, (t922 : Int).toNat * 6 + 5, none⟩ (.int .i64 ji14))) := ⟨(by repeat (first | (with_reducible first | exact HB.out | apply below_alloc | apply pw_below_drewN | apply below_drew1 | refine below_set ?_ GB15.out | refine below_set ?_ GB15.out) | exact HB.out))⟩
  (try clear HO_4)
  (try clear HB)
  generalize ((w20.setCell ⟨go15, (t922 : Int).toNat * 6 + 4, none⟩ (.int .i64 ji13)).setCell ⟨go15, (t922 : Int).toNat * 6 + 5, none⟩ (.int .i64 ji14)) = w23 at n0_ n1_ ⊢
  have HO_4 := n0_
  have HB := n1_
  clear n0_ n1_
  try go_wp2_with (first | ((with_reducible refine gate_callee (f := 74) rfl ?_); refine goesL_ (some 56) rfl rfl Try.func74 (by kernel_rfl) rfl #[.slice (some ⟨go15, 0, none⟩) x4_1.length co18, .int .i64 t923, .int .i64 (wrap64 (t923 + 1))] rfl zq1 ?_; (with_reducible refine (impl_Warning_74.calls (fun k_ => some k_ = (.slice (some ⟨go15, 0, none⟩) x4_1.length co18 : Value).ownBlock) (.slice (some ⟨go15, 0, none⟩) x4_1.length co18) y930 t923 (wrap64 (t923 + 1)) t931 w _ ?side1 ?side2 A17.out).mono ?_); (case side1 => exact zq0); (case side2 => exact Kd.R_tight rfl HO_4.out); rintro e w24 ⟨v932, rfl, ho0, hb, hkp⟩; refine ⟨_, rfl, ?_⟩; have n0_ := Aside0.mk (Kd.R_mono (ok' := fun k_ => True) ho0 (fun k_ hk_ => trivial)); have n1_ := Aside0.mk (hb); clear HB; clear HO_4; have HO933 := n0_; have HB := n1_; clear n0_ n1_; (try clear hb); (try clear hkp); (try clear ho0)))
  go_roundg k1
  case measure => have := HK1.out; omega
  case rel => exact ⟨(t931), H', ⟨by have := HK1.out; omega⟩, ⟨zqR HO933.out⟩, ⟨zq0⟩⟩

/-! ### spec_l1Most: function 96 -/
def spec_l1Most.f (a0 a1 : Int) : Option Int := if a0 > a1 then (some a0) else (some a1)
theorem spec_l1Most.calls (a0 a1 : Int) (r : Int) (w : World) (h : spec_l1Most.f a0 a1 = some r) :
  Calls Try.prog 96 #[.int .i64 a0, .int .i64 a1] w fun e w' => e = .returned (.int .i64 r) ∧ Below w.heap.size w w' := by
 unfold spec_l1Most.f at h
 by_cases hc : a0 > a1
 case neg =>
  rw [if_neg hc] at h
  obtain rfl := Option.some.inj h
  have hc' : ¬ a1 < a0 := hc
  clear h hc
  go_enter Try.func96, Try.ntmps96
  go_wp2
  go_ret
  exact ⟨rfl, by first | exact Below.refl _ _ | exact pw_below_drewN (Below.refl _ _) _⟩
 rw [if_pos hc] at h
 obtain rfl := Option.some.inj h
 have hc' : a1 < a0 := hc
 clear h hc
 go_enter Try.func96, Try.ntmps96
 go_wp2
 go_ret
 exact ⟨rfl, by first | exact Below.refl _ _ | exact pw_below_drewN (Below.refl _ _) _⟩

/-! ### spec_l15Joins: function 94 -/
def spec_l15Joins.f (a0_0 : Int) (a0_1 : Int) (a0_2 : Int) (a0_3 : Int) (a0_4 : Int) (a0_5 : Int) (a1_0 : Int) (a1_1 : Int) (a1_2 : Int) (a1_3 : Int) (a1_4 : Int) (a1_5 : Int) : Option (Bool) := if a0_1 = a1_1 then (if a0_3 = a1_3 then (if a0_2 = a1_2 then (if a0_5 = a1_4 then (some true) else (some (a1_5 == a0_4))) else (some false)) else (some false)) else (some false)
set_option maxHeartbeats 8000000 in
set_option maxRecDepth 100000 in
theorem spec_l15Joins.calls (a0_0 : Int) (a0_1 : Int) (a0_2 : Int) (a0_3 : Int) (a0_4 : Int) (a0_5 : Int) (a1_0 : Int) (a1_1 : Int) (a1_2 : Int) (a1_3 : Int) (a1_4 : Int) (a1_5 : Int) (r : Bool) (w : World) (h : spec_l15Joins.f a0_0 a0_1 a0_2 a0_3 a0_4 a0_5 a1_0 a1_1 a1_2 a1_3 a1_4 a1_5 = some r) :
  Calls Try.prog 94 #[.agg #[.int .i64 a0_0, .int .i64 a0_1, .int .i64 a0_2, .int .i64 a0_3, .int .i64 a0_4, .int .i64 a0_5], .agg #[.int .i64 a1_0, .int .i64 a1_1, .int .i64 a1_2, .int .i64 a1_3, .int .i64 a1_4, .int .i64 a1_5]] w fun e w' => e = .returned (.bool r) ∧ Below w.heap.size w w' := by
 have hu31 := Try.underlying31
 have HB := Aside0.mk (Below.refl w.heap.size w)
 have H : (if a0_1 = a1_1 then (if a0_3 = a1_3 then (if a0_2 = a1_2 then (if a0_5 = a1_4 then (some true) else (some (a1_5 == a0_4))) else (some false)) else (some false)) else (some false)) = some r := h
 clear h
 by_cases c3 : a0_1 = a1_1
 case neg =>
  rw [if_neg c3] at H
  have c3b0 : (a0_1 == a1_1) = false := beq_eq_false_iff_ne.mpr c3
  have c3b1 : (a0_1 != a1_1) = true := bne_iff_ne.mpr c3
  obtain rfl := Option.some.inj H
  go_enter Try.func94, Try.ntmps94
  go_wp2_with (first | ((with_reducible refine gate_dst (N := 2) rfl ?_); refine box_event ?hg (N := 2) ?hd (cs := #[.int .i64 a0_0, .int .i64 a0_1, .int .i64 a0_2, .int .i64 a0_3, .int .i64 a0_4, .int .i64 a0_5]) (t := 31) ?hr ?_; (case hd => rfl); (case hg => rfl); (case hr => exact zqS); intro gb934 hg w27 hbox hb; have n0_ := Aside0.mk (below_step zq0 hb); have n1_ := Aside0.mk (hbox); have n2_ := Aside0.mk ((by rw [hg]; exact (below_size zq0) : w.heap.size ≤ gb934)); have n3_ := n2_; clear HB; have HB := n0_; have BK934 := n1_; have GW934 := n2_; have GE934 := n3_; clear n0_ n1_ n2_ n3_; clear hb hbox hg) | ((with_reducible refine gate_dst (N := 3) rfl ?_); refine box_event ?hg (N := 3) ?hd (cs := #[.int .i64 a1_0, .int .i64 a1_1, .int .i64 a1_2, .int .i64 a1_3, .int .i64 a1_4, .int .i64 a1_5]) (t := 31) ?hr ?_; (case hd => rfl); (case hg => rfl); (case hr => exact zqS); intro gb935 hg w28 hbox hb; have n0_ := Aside0.mk (blk_below (g := gb934) (o := .cells #[.int .i64 a0_0, .int .i64 a0_1, .int .i64 a0_2, .int .i64 a0_3, .int .i64 a0_4, .int .i64 a0_5] 31 (0, 0)) (zqK BK934.out) hb); have n1_ := Aside0.mk (below_step zq18 hb); have n2_ := Aside0.mk (hbox); have n3_ := Aside0.mk ((by rw [hg]; exact (below_size zq18) : w.heap.size ≤ gb935)); have n4_ := n3_; have n5_ := Aside0.mk ((by rw [hg]; exact Nat.ne_of_lt (blk_lt (g := gb934) (o := .cells #[.int .i64 a0_0, .int .i64 a0_1, .int .i64 a0_2, .int .i64 a0_3, .int .i64 a0_4, .int .i64 a0_5] 31 (0, 0)) (zqK BK934.out)) : gb934 ≠ gb935)); have n6_ := Aside0.mk ((by rw [hg]; exact Nat.ne_of_gt (blk_lt (g := gb934) (o := .cells #[.int .i64 a0_0, .int .i64 a0_1, .int .i64 a0_2, .int .i64 a0_3, .int .i64 a0_4, .int .i64 a0_5] 31 (0, 0)) (zqK BK934.out)) : gb935 ≠ gb934)); clear BK934; clear HB; have BK934 := n0_; have HB := n1_; have BK935 := n2_; have GW935 := n3_; have GE935 := n4_; have NB934_935 := n5_; have NB935_934 := n6_; clear n0_ n1_ n2_ n3_ n4_ n5_ n6_; clear hb hbox hg; have hnb29 := NB934_935.out; have hnc29 := NB935_934.out; obtain ⟨hcz30_0, hcz30_1, hcz30_2, hcz30_3, hcz30_4, hcz30_5, hfz30_0, hfz30_1, hfz30_2, hfz30_3, hfz30_4, hfz30_5⟩ := bz6 BK934.out; obtain ⟨hcz31_0, hcz31_1, hcz31_2, hcz31_3, hcz31_4, hcz31_5, hfz31_0, hfz31_1, hfz31_2, hfz31_3, hfz31_4, hfz31_5⟩ := bz6 BK935.out))
  go_ret
  exact ⟨zqE, zq31⟩
 rw [if_pos c3] at H
 have c3b0 : (a0_1 == a1_1) = true := beq_iff_eq.mpr c3
 have c3b1 : (a0_1 != a1_1) = false := bne_eq_false_iff_eq.mpr c3
 clear c3
 by_cases c4 : a0_3 = a1_3
 case neg =>
  rw [if_neg c4] at H
  have c4b0 : (a0_3 == a1_3) = false := beq_eq_false_iff_ne.mpr c4
  have c4b1 : (a0_3 != a1_3) = true := bne_iff_ne.mpr c4
  obtain rfl := Option.some.inj H
  go_enter Try.func94, Try.ntmps94
  go_wp2_with (first | ((with_reducible refine gate_dst (N := 2) rfl ?_); refine box_event ?hg (N := 2) ?hd (cs := #[.int .i64 a0_0, .int .i64 a0_1, .int .i64 a0_2, .int .i64 a0_3, .int .i64 a0_4, .int .i64 a0_5]) (t := 31) ?hr ?_; (case hd => rfl); (case hg => rfl); (case hr => exact zqS); intro gb934 hg w22 hbox hb; have n0_ := Aside0.mk (below_step zq0 hb); have n1_ := Aside0.mk (hbox); have n2_ := Aside0.mk ((by rw [hg]; exact (below_size zq0) : w.heap.size ≤ gb934)); have n3_ := n2_; clear HB; have HB := n0_; have BK934 := n1_; have GW934 := n2_; have GE934 := n3_; clear n0_ n1_ n2_ n3_; clear hb hbox hg) | ((with_reducible refine gate_dst (N := 3) rfl ?_); refine box_event ?hg (N := 3) ?hd (cs := #[.int .i64 a1_0, .int .i64 a1_1, .int .i64 a1_2, .int .i64 a1_3, .int .i64 a1_4, .int .i64 a1_5]) (t := 31) ?hr ?_; (case hd => rfl); (case hg => rfl); (case hr => exact zqS); intro gb935 hg w23 hbox hb; have n0_ := Aside0.mk (blk_below (g := gb934) (o := .cells #[.int .i64 a0_0, .int .i64 a0_1, .int .i64 a0_2, .int .i64 a0_3, .int .i64 a0_4, .int .i64 a0_5] 31 (0, 0)) (zqK BK934.out) hb); have n1_ := Aside0.mk (below_step zq18 hb); have n2_ := Aside0.mk (hbox); have n3_ := Aside0.mk ((by rw [hg]; exact (below_size zq18) : w.heap.size ≤ gb935)); have n4_ := n3_; have n5_ := Aside0.mk ((by rw [hg]; exact Nat.ne_of_lt (blk_lt (g := gb934) (o := .cells #[.int .i64 a0_0, .int .i64 a0_1, .int .i64 a0_2, .int .i64 a0_3, .int .i64 a0_4, .int .i64 a0_5] 31 (0, 0)) (zqK BK934.out)) : gb934 ≠ gb935)); have n6_ := Aside0.mk ((by rw [hg]; exact Nat.ne_of_gt (blk_lt (g := gb934) (o := .cells #[.int .i64 a0_0, .int .i64 a0_1, .int .i64 a0_2, .int .i64 a0_3, .int .i64 a0_4, .int .i64 a0_5] 31 (0, 0)) (zqK BK934.out)) : gb935 ≠ gb934)); clear BK934; clear HB; have BK934 := n0_; have HB := n1_; have BK935 := n2_; have GW935 := n3_; have GE935 := n4_; have NB934_935 := n5_; have NB935_934 := n6_; clear n0_ n1_ n2_ n3_ n4_ n5_ n6_; clear hb hbox hg; have hnb24 := NB934_935.out; have hnc24 := NB935_934.out; obtain ⟨hcz25_0, hcz25_1, hcz25_2, hcz25_3, hcz25_4, hcz25_5, hfz25_0, hfz25_1, hfz25_2, hfz25_3, hfz25_4, hfz25_5⟩ := bz6 BK934.out; obtain ⟨hcz26_0, hcz26_1, hcz26_2, hcz26_3, hcz26_4, hcz26_5, hfz26_0, hfz26_1, hfz26_2, hfz26_3, hfz26_4, hfz26_5⟩ := bz6 BK935.out))
  go_ret
  exact ⟨zqE, zq31⟩
 rw [if_pos c4] at H
 have c4b0 : (a0_3 == a1_3) = true := beq_iff_eq.mpr c4
 have c4b1 : (a0_3 != a1_3) = false := bne_eq_false_iff_eq.mpr c4
 clear c4
 by_cases c5 : a0_2 = a1_2
 case neg =>
  rw [if_neg c5] at H
  have c5b0 : (a0_2 == a1_2) = false := beq_eq_false_iff_ne.mpr c5
  have c5b1 : (a0_2 != a1_2) = true := bne_iff_ne.mpr c5
  obtain rfl := Option.some.inj H
  go_enter Try.func94, Try.ntmps94
  go_wp2_with (first | ((with_reducible refine gate_dst (N := 2) rfl ?_); refine box_event ?hg (N := 2) ?hd (cs := #[.int .i64 a0_0, .int .i64 a0_1, .int .i64 a0_2, .int .i64 a0_3, .int .i64 a0_4, .int .i64 a0_5]) (t := 31) ?hr ?_; (case hd => rfl); (case hg => rfl); (case hr => exact zqS); intro gb934 hg w17 hbox hb; have n0_ := Aside0.mk (below_step zq0 hb); have n1_ := Aside0.mk (hbox); have n2_ := Aside0.mk ((by rw [hg]; exact (below_size zq0) : w.heap.size ≤ gb934)); have n3_ := n2_; clear HB; have HB := n0_; have BK934 := n1_; have GW934 := n2_; have GE934 := n3_; clear n0_ n1_ n2_ n3_; clear hb hbox hg) | ((with_reducible refine gate_dst (N := 3) rfl ?_); refine box_event ?hg (N := 3) ?hd (cs := #[.int .i64 a1_0, .int .i64 a1_1, .int .i64 a1_2, .int .i64 a1_3, .int .i64 a1_4, .int .i64 a1_5]) (t := 31) ?hr ?_; (case hd => rfl); (case hg => rfl); (case hr => exact zqS); intro gb935 hg w18 hbox hb; have n0_ := Aside0.mk (blk_below (g := gb934) (o := .cells #[.int .i64 a0_0, .int .i64 a0_1, .int .i64 a0_2, .int .i64 a0_3, .int .i64 a0_4, .int .i64 a0_5] 31 (0, 0)) (zqK BK934.out) hb); have n1_ := Aside0.mk (below_step zq18 hb); have n2_ := Aside0.mk (hbox); have n3_ := Aside0.mk ((by rw [hg]; exact (below_size zq18) : w.heap.size ≤ gb935)); have n4_ := n3_; have n5_ := Aside0.mk ((by rw [hg]; exact Nat.ne_of_lt (blk_lt (g := gb934) (o := .cells #[.int .i64 a0_0, .int .i64 a0_1, .int .i64 a0_2, .int .i64 a0_3, .int .i64 a0_4, .int .i64 a0_5] 31 (0, 0)) (zqK BK934.out)) : gb934 ≠ gb935)); have n6_ := Aside0.mk ((by rw [hg]; exact Nat.ne_of_gt (blk_lt (g := gb934) (o := .cells #[.int .i64 a0_0, .int .i64 a0_1, .int .i64 a0_2, .int .i64 a0_3, .int .i64 a0_4, .int .i64 a0_5] 31 (0, 0)) (zqK BK934.out)) : gb935 ≠ gb934)); clear BK934; clear HB; have BK934 := n0_; have HB := n1_; have BK935 := n2_; have GW935 := n3_; have GE935 := n4_; have NB934_935 := n5_; have NB935_934 := n6_; clear n0_ n1_ n2_ n3_ n4_ n5_ n6_; clear hb hbox hg; have hnb19 := NB934_935.out; have hnc19 := NB935_934.out; obtain ⟨hcz20_0, hcz20_1, hcz20_2, hcz20_3, hcz20_4, hcz20_5, hfz20_0, hfz20_1, hfz20_2, hfz20_3, hfz20_4, hfz20_5⟩ := bz6 BK934.out; obtain ⟨hcz21_0, hcz21_1, hcz21_2, hcz21_3, hcz21_4, hcz21_5, hfz21_0, hfz21_1, hfz21_2, hfz21_3, hfz21_4, hfz21_5⟩ := bz6 BK935.out))
  go_ret
  exact ⟨zqE, zq31⟩
 rw [if_pos c5] at H
 have c5b0 : (a0_2 == a1_2) = true := beq_iff_eq.mpr c5
 have c5b1 : (a0_2 != a1_2) = false := bne_eq_false_iff_eq.mpr c5
 clear c5
 by_cases c6 : a0_5 = a1_4
 case neg =>
  rw [if_neg c6] at H
  have c6b0 : (a0_5 == a1_4) = false := beq_eq_false_iff_ne.mpr c6
  have c6b1 : (a0_5 != a1_4) = true := bne_iff_ne.mpr c6
  obtain rfl := Option.some.inj H
  go_enter Try.func94, Try.ntmps94
  go_wp2_with (first | ((with_reducible refine gate_dst (N := 2) rfl ?_); refine box_event ?hg (N := 2) ?hd (cs := #[.int .i64 a0_0, .int .i64 a0_1, .int .i64 a0_2, .int .i64 a0_3, .int .i64 a0_4, .int .i64 a0_5]) (t := 31) ?hr ?_; (case hd => rfl); (case hg => rfl); (case hr => exact zqS); intro gb934 hg w12 hbox hb; have n0_ := Aside0.mk (below_step zq0 hb); have n1_ := Aside0.mk (hbox); have n2_ := Aside0.mk ((by rw [hg]; exact (below_size zq0) : w.heap.size ≤ gb934)); have n3_ := n2_; clear HB; have HB := n0_; have BK934 := n1_; have GW934 := n2_; have GE934 := n3_; clear n0_ n1_ n2_ n3_; clear hb hbox hg) | ((with_reducible refine gate_dst (N := 3) rfl ?_); refine box_event ?hg (N := 3) ?hd (cs := #[.int .i64 a1_0, .int .i64 a1_1, .int .i64 a1_2, .int .i64 a1_3, .int .i64 a1_4, .int .i64 a1_5]) (t := 31) ?hr ?_; (case hd => rfl); (case hg => rfl); (case hr => exact zqS); intro gb935 hg w13 hbox hb; have n0_ := Aside0.mk (blk_below (g := gb934) (o := .cells #[.int .i64 a0_0, .int .i64 a0_1, .int .i64 a0_2, .int .i64 a0_3, .int .i64 a0_4, .int .i64 a0_5] 31 (0, 0)) (zqK BK934.out) hb); have n1_ := Aside0.mk (below_step zq18 hb); have n2_ := Aside0.mk (hbox); have n3_ := Aside0.mk ((by rw [hg]; exact (below_size zq18) : w.heap.size ≤ gb935)); have n4_ := n3_; have n5_ := Aside0.mk ((by rw [hg]; exact Nat.ne_of_lt (blk_lt (g := gb934) (o := .cells #[.int .i64 a0_0, .int .i64 a0_1, .int .i64 a0_2, .int .i64 a0_3, .int .i64 a0_4, .int .i64 a0_5] 31 (0, 0)) (zqK BK934.out)) : gb934 ≠ gb935)); have n6_ := Aside0.mk ((by rw [hg]; exact Nat.ne_of_gt (blk_lt (g := gb934) (o := .cells #[.int .i64 a0_0, .int .i64 a0_1, .int .i64 a0_2, .int .i64 a0_3, .int .i64 a0_4, .int .i64 a0_5] 31 (0, 0)) (zqK BK934.out)) : gb935 ≠ gb934)); clear BK934; clear HB; have BK934 := n0_; have HB := n1_; have BK935 := n2_; have GW935 := n3_; have GE935 := n4_; have NB934_935 := n5_; have NB935_934 := n6_; clear n0_ n1_ n2_ n3_ n4_ n5_ n6_; clear hb hbox hg; have hnb14 := NB934_935.out; have hnc14 := NB935_934.out; obtain ⟨hcz15_0, hcz15_1, hcz15_2, hcz15_3, hcz15_4, hcz15_5, hfz15_0, hfz15_1, hfz15_2, hfz15_3, hfz15_4, hfz15_5⟩ := bz6 BK934.out; obtain ⟨hcz16_0, hcz16_1, hcz16_2, hcz16_3, hcz16_4, hcz16_5, hfz16_0, hfz16_1, hfz16_2, hfz16_3, hfz16_4, hfz16_5⟩ := bz6 BK935.out))
  go_ret
  exact ⟨zqE, zq31⟩
 rw [if_pos c6] at H
 have c6b0 : (a0_5 == a1_4) = true := beq_iff_eq.mpr c6
 have c6b1 : (a0_5 != a1_4) = false := bne_eq_false_iff_eq.mpr c6
 clear c6
 obtain rfl := Option.some.inj H
 go_enter Try.func94, Try.ntmps94
 go_wp2_with (first | ((with_reducible refine gate_dst (N := 2) rfl ?_); refine box_event ?hg (N := 2) ?hd (cs := #[.int .i64 a0_0, .int .i64 a0_1, .int .i64 a0_2, .int .i64 a0_3, .int .i64 a0_4, .int .i64 a0_5]) (t := 31) ?hr ?_; (case hd => rfl); (case hg => rfl); (case hr => exact zqS); intro gb934 hg w7 hbox hb; have n0_ := Aside0.mk (below_step zq0 hb); have n1_ := Aside0.mk (hbox); have n2_ := Aside0.mk ((by rw [hg]; exact (below_size zq0) : w.heap.size ≤ gb934)); have n3_ := n2_; clear HB; have HB := n0_; have BK934 := n1_; have GW934 := n2_; have GE934 := n3_; clear n0_ n1_ n2_ n3_; clear hb hbox hg) | ((with_reducible refine gate_dst (N := 3) rfl ?_); refine box_event ?hg (N := 3) ?hd (cs := #[.int .i64 a1_0, .int .i64 a1_1, .int .i64 a1_2, .int .i64 a1_3, .int .i64 a1_4, .int .i64 a1_5]) (t := 31) ?hr ?_; (case hd => rfl); (case hg => rfl); (case hr => exact zqS); intro gb935 hg w8 hbox hb; have n0_ := Aside0.mk (blk_below (g := gb934) (o := .cells #[.int .i64 a0_0, .int .i64 a0_1, .int .i64 a0_2, .int .i64 a0_3, .int .i64 a0_4, .int .i64 a0_5] 31 (0, 0)) (zqK BK934.out) hb); have n1_ := Aside0.mk (below_step zq18 hb); have n2_ := Aside0.mk (hbox); have n3_ := Aside0.mk ((by rw [hg]; exact (below_size zq18) : w.heap.size ≤ gb935)); have n4_ := n3_; have n5_ := Aside0.mk ((by rw [hg]; exact Nat.ne_of_lt (blk_lt (g := gb934) (o := .cells #[.int .i64 a0_0, .int .i64 a0_1, .int .i64 a0_2, .int .i64 a0_3, .int .i64 a0_4, .int .i64 a0_5] 31 (0, 0)) (zqK BK934.out)) : gb934 ≠ gb935)); have n6_ := Aside0.mk ((by rw [hg]; exact Nat.ne_of_gt (blk_lt (g := gb934) (o := .cells #[.int .i64 a0_0, .int .i64 a0_1, .int .i64 a0_2, .int .i64 a0_3, .int .i64 a0_4, .int .i64 a0_5] 31 (0, 0)) (zqK BK934.out)) : gb935 ≠ gb934)); clear BK934; clear HB; have BK934 := n0_; have HB := n1_; have BK935 := n2_; have GW935 := n3_; have GE935 := n4_; have NB934_935 := n5_; have NB935_934 := n6_; clear n0_ n1_ n2_ n3_ n4_ n5_ n6_; clear hb hbox hg; have hnb9 := NB934_935.out; have hnc9 := NB935_934.out; obtain ⟨hcz10_0, hcz10_1, hcz10_2, hcz10_3, hcz10_4, hcz10_5, hfz10_0, hfz10_1, hfz10_2, hfz10_3, hfz10_4, hfz10_5⟩ := bz6 BK934.out; obtain ⟨hcz11_0, hcz11_1, hcz11_2, hcz11_3, hcz11_4, hcz11_5, hfz11_0, hfz11_1, hfz11_2, hfz11_3, hfz11_4, hfz11_5⟩ := bz6 BK935.out))
 go_ret
 exact ⟨zqE, zq31⟩

/-! ### spec_l1Least: function 95 -/
def spec_l1Least.f (a0 a1 : Int) : Option Int := if a0 < a1 then (some a0) else (some a1)
theorem spec_l1Least.calls (a0 a1 : Int) (r : Int) (w : World) (h : spec_l1Least.f a0 a1 = some r) :
  Calls Try.prog 95 #[.int .i64 a0, .int .i64 a1] w fun e w' => e = .returned (.int .i64 r) ∧ Below w.heap.size w w' := by
 unfold spec_l1Least.f at h
 by_cases hc : a0 < a1
 case neg =>
  rw [if_neg hc] at h
  obtain rfl := Option.some.inj h
  clear h
  go_enter Try.func95, Try.ntmps95
  go_wp2
  go_ret
  exact ⟨rfl, by first | exact Below.refl _ _ | exact pw_below_drewN (Below.refl _ _) _⟩
 rw [if_pos hc] at h
 obtain rfl := Option.some.inj h
 clear h
 go_enter Try.func95, Try.ntmps95
 go_wp2
 go_ret
 exact ⟨rfl, by first | exact Below.refl _ _ | exact pw_below_drewN (Below.refl _ _) _⟩
end Go.Proofs.Ytklepiechbnenaa.Q
