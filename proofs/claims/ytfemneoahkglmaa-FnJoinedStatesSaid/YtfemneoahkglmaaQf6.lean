-- Printed by a program of this session (wip/tools/seatprint.py) that runs over the kit's print.
import Derived.Test.YtfemneoahkglmaaQ0
import Derived.Test.YtfemneoahkglmaaQf9
import Derived.Test.YtfemneoahkglmaaQf26
import Derived.Test.YtfemneoahkglmaaQf27
namespace Go.Proofs.Ytfemneoahkglmaa.Q
open Go.RowKit Go.Proofs.YtfemneoahkglmaaW.PrintWords Go.Proofs.YtfemneoahkglmaaW.PrintLast Go.Proofs.YtfemneoahkglmaaW.PrintMore
attribute [local go_sem] max2_int min2_int max_two min_two max_three min_three max_four min_four   -- for this text's walks alone
set_option linter.unusedVariables false
set_option linter.unusedSimpArgs false

/-! ### impl_JoinWarnings: function 6 -/
def impl_JoinWarnings.l0 : Nat → List (S37) → Option ((List (S37)) × Bool)
 | 0, _ => none
 | k + 1, x4 => (impl_firstJoint.f k x4).bind fun bt120 => (if bt120.2.2 = true then (if 0 ≤ bt120.1 then (if bt120.1 < (x4.length : Int) then (if 0 ≤ bt120.2.1 then (if bt120.2.1 < (x4.length : Int) then ((some (x4.set (bt120.1 : Int).toNat (⟨(rd_T37 x4 bt120.1).f0, (rd_T37 x4 bt120.1).f1, (rd_T37 x4 bt120.1).f2, (rd_T37 x4 bt120.1).f3, mn ((rd_T37 x4 bt120.1).f4) ((rd_T37 x4 bt120.2.1).f4), (rd_T37 x4 bt120.1).f5⟩ : S37) : List (S37))).bind fun y127 => ((impl_Warning_27.f (y127.set (bt120.1 : Int).toNat (⟨(rd_T37 y127 bt120.1).f0, (rd_T37 y127 bt120.1).f1, (rd_T37 y127 bt120.1).f2, (rd_T37 y127 bt120.1).f3, (rd_T37 y127 bt120.1).f4, mx ((rd_T37 x4 bt120.1).f5) ((rd_T37 x4 bt120.2.1).f5)⟩ : S37)) bt120.2.1 (wrap64 (bt120.2.1 + 1))).bind fun t129 => (impl_JoinWarnings.l0 k t129))) else (none)) else (none)) else (none)) else (none)) else (some (x4, true)))
def impl_JoinWarnings.f (k : Nat) (l0 : List (S37)) : Option ((List (S37)) × Bool) := (impl_IsConsistent.f k l0).bind fun t116 => (if t116 = true then ((impl_Warning_25.f l0).bind fun t117 => (impl_JoinWarnings.l0 k t117)) else (some (([] : List (S37)), false)))
theorem impl_JoinWarnings.mono_l : ∀ k, (∀ y0, LeO (impl_JoinWarnings.l0 k y0) (impl_JoinWarnings.l0 (k + 1) y0))
 | 0 => fun _ r h => by simp [impl_JoinWarnings.l0] at h
 | k + 1 => by
  have ih0 := impl_JoinWarnings.mono_l k
  ·
   intro y0
   unfold impl_JoinWarnings.l0
   repeat' first
   | (with_reducible exact ih0 _)
   | (with_reducible exact impl_IsConsistent.mono _ _)
   | (with_reducible exact impl_firstJoint.mono _ _)
   | (with_reducible exact LeO.refl _)
   | (with_reducible exact LeO.none _)
   | (with_reducible refine LeO.ite ?_ ?_)
   | (with_reducible refine LeO.bind ?_ (fun _ => ?_))
   | exact ih0 _
   | exact impl_IsConsistent.mono _ _
   | exact impl_firstJoint.mono _ _
   | exact LeO.none _
   | refine LeO.ite ?_ ?_
   | refine LeO.bind ?_ (fun _ => ?_)
theorem impl_JoinWarnings.mono : ∀ a0 k, LeO (impl_JoinWarnings.f k a0) (impl_JoinWarnings.f (k + 1) a0) := by
 intro a0 k
 have ih0 := impl_JoinWarnings.mono_l k
 unfold impl_JoinWarnings.f
 repeat' first
   | (with_reducible exact ih0 _)
   | (with_reducible exact impl_IsConsistent.mono _ _)
   | (with_reducible exact impl_firstJoint.mono _ _)
   | (with_reducible exact LeO.refl _)
   | (with_reducible exact LeO.none _)
   | (with_reducible refine LeO.ite ?_ ?_)
   | (with_reducible refine LeO.bind ?_ (fun _ => ?_))
   | exact ih0 _
   | exact impl_IsConsistent.mono _ _
   | exact impl_firstJoint.mono _ _
   | exact LeO.none _
   | refine LeO.ite ?_ ?_
   | refine LeO.bind ?_ (fun _ => ?_)
def impl_JoinWarnings.T7 : Bool × List (List Nat × List Nat) := (true, [([], []), ([], []), ([], []), ([], []), ([], []), ([], []), ([4, 5], [4, 5]), ([6], [6]), ([7], [7]), ([], []), ([], []), ([9, 10], [9, 10]), ([11], [11]), ([12], [12]), ([8, 13], [8, 13]), ([], []), ([], []), ([15, 16], [15, 16]), ([17], [17]), ([18], [18]), ([], []), ([], []), ([20, 21], [20, 21]), ([22], [22]), ([23], [23]), ([19, 24], [19, 24]), ([0, 1, 0, 1, 4, 5, 6, 7, 8, 9, 10, 11, 12, 13, 14, 19, 24], [0, 1]), ([26, 0, 1, 4, 5, 6, 7, 8, 9, 10, 11, 12, 13, 14, 19, 24], [26]), ([27, 14, 0, 1, 4, 5, 6, 7, 8, 9, 10, 11, 12, 13, 14, 19, 24], [14, 27]), ([2, 3, 0, 1, 2, 3, 4, 5, 6, 7, 8, 9, 10, 11, 12, 13, 14, 15, 16, 17, 18, 19, 20, 21, 22, 23, 24, 25, 26, 27, 28], [2, 3]), ([29, 0, 1, 2, 3, 4, 5, 6, 7, 8, 9, 10, 11, 12, 13, 14, 15, 16, 17, 18, 19, 20, 21, 22, 23, 24, 25, 26, 27, 28], [29]), ([30, 25, 28, 0, 1, 2, 3, 4, 5, 6, 7, 8, 9, 10, 11, 12, 13, 14, 15, 16, 17, 18, 19, 20, 21, 22, 23, 24, 25, 26, 27, 28], [25, 30])])
def impl_JoinWarnings.B7 : List Nat := [0, 0, 0, 0, 0, 0, 48, 112, 240, 0, 0, 1536, 3584, 7680, 16368, 0, 0, 98304, 229376, 491520, 0, 0, 3145728, 7340032, 15728640, 33521664, 33554419, 100663283, 234881011, 536870911, 1073741823, 2147483647]
theorem impl_JoinWarnings.tab7 : rtab .any (opsOf Try.f6 7) = impl_JoinWarnings.T7 := by kernel_rfl
theorem impl_JoinWarnings.bits7 : waitsOk impl_JoinWarnings.T7.2 impl_JoinWarnings.B7 = true := by kernel_rfl
set_option maxHeartbeats 8000000 in
set_option maxRecDepth 100000 in
theorem impl_JoinWarnings.calls (k : Nat) (A0 : Option Addr) (c0 : Nat) (l0 : List (S37)) (r1 : List (S37)) (r2 : Bool) (w : World) (hr0 : Kd.C k37 w A0 l0.length l0) (hc0 : l0.length ≤ c0) (h : impl_JoinWarnings.f k l0 = some (r1, r2)) :
  Calls Try.prog 6 #[.slice A0 l0.length c0] w fun e w' => ∃ v0_ : Value, e = .returned (.tuple #[v0_, .bool r2]) ∧ Kd.R k37 37 w' w.heap.size (fun _ => True) v0_ r1 ∧ Below w.heap.size w w' := by
 have HR0 := Aside0.mk hr0
 have HC0 := Aside0.mk hc0
 clear hr0 hc0
 have HB := Aside0.mk (Below.refl w.heap.size w)
 have H : ((impl_IsConsistent.f k l0).bind fun t116 => (if t116 = true then ((impl_Warning_25.f l0).bind fun t117 => (impl_JoinWarnings.l0 k t117)) else (some (([] : List (S37)), false)))) = some (r1, r2) := h
 clear h
 replace H := Option.bind_eq_some_iff.mp H
 obtain ⟨t116, A20, H⟩ := H
 replace H : (if t116 = true then ((impl_Warning_25.f l0).bind fun t117 => (impl_JoinWarnings.l0 k t117)) else (some (([] : List (S37)), false))) = some (r1, r2) := H
 have A2 := Aside0.mk A20
 clear A20
 by_cases c3 : t116 = true
 ·
  subst c3
  have H1 : ((impl_Warning_25.f l0).bind fun t117 => (impl_JoinWarnings.l0 k t117)) = some (r1, r2) := by rw [if_pos rfl] at H; exact H
  clear H
  have H := H1
  clear H1
  replace H := Option.bind_eq_some_iff.mp H
  obtain ⟨t117, A40, H⟩ := H
  replace H : (impl_JoinWarnings.l0 k t117) = some (r1, r2) := H
  have A4 := Aside0.mk A40
  clear A40
  have H' := Aside0.mk H
  clear H
  go_enter Try.func6, Try.ntmps6
  go_wp2_with (first | ((with_reducible refine gate_callee (f := 9) rfl ?_); refine goesL_ (some 9) rfl rfl Try.func9 (by kernel_rfl) rfl #[.slice A0 l0.length c0] rfl (by (try simp only [List.map_toArray, List.map_cons, List.map_nil]); first | done | rfl | (simp only [List.length_drop, List.length_take]; rfl)) ?_; (with_reducible refine (impl_IsConsistent.calls k _ _ l0 true _ ?side1 ?side2 A2.out).mono ?_); (case side1 => repeat (first | exact HR0.out | (with_reducible refine Kd.C_alloc ?_ _) | (with_reducible refine Kd.C_drewN ?_ _) | (with_reducible refine Kd.C_drew ?_))); (case side2 => exact HC0.out); rintro e w5 ⟨rfl, hb⟩; refine ⟨_, rfl, ?_⟩; have n0_ := Aside0.mk (below_step (by repeat (first | (with_reducible first | exact HB.out | apply below_alloc | apply pw_below_drewN | apply below_drew1) | exact HB.out)) hb); clear HB; have HB := n0_; clear n0_; (try clear hb); (try clear hb2); (try clear hk); (try clear hi)) | ((with_reducible refine gate_callee (f := 25) rfl ?_); refine goesL_ (some 12) rfl rfl Try.func25 (by kernel_rfl) rfl #[.slice A0 l0.length c0] rfl (by (try simp only [List.map_toArray, List.map_cons, List.map_nil]); first | done | rfl | (simp only [List.length_drop, List.length_take]; rfl)) ?_; (with_reducible refine (impl_Warning_25.calls _ _ l0 t117 _ ?side1 ?side2 A4.out).mono ?_); (case side1 => repeat (first | exact (Kd.C_below HR0.out HB.out) | (with_reducible refine Kd.C_alloc ?_ _) | (with_reducible refine Kd.C_drewN ?_ _) | (with_reducible refine Kd.C_drew ?_))); (case side2 => exact HC0.out); rintro e w6 ⟨v118, rfl, ho0, hb⟩; refine ⟨_, rfl, ?_⟩; have n0_ := Aside0.mk (Kd.R_lower ho0 (below_size (by repeat (first | (with_reducible first | exact HB.out | apply below_alloc | apply pw_below_drewN | apply below_drew1) | exact HB.out)))); have n1_ := Aside0.mk (below_step (by repeat (first | (with_reducible first | exact HB.out | apply below_alloc | apply pw_below_drewN | apply below_drew1) | exact HB.out)) hb); clear HB; have HO119 := n0_; have HB := n1_; clear n0_ n1_; (try clear hb); (try clear hb2); (try clear hk); (try clear hi); (try clear ho0)))
  go_loopg [4] k (fun kq v4 w' => ∃ (x4_1 : List (S37)), Aside0 (impl_JoinWarnings.l0 kq x4_1 = some (r1, r2)) ∧ Aside0 (kq ≤ k) ∧ Aside0 (Kd.R k37 37 w' w.heap.size (fun _ => True) v4 x4_1) ∧ Aside0 (Below w.heap.size w w'))
  case atStart => exact ⟨(t117), H', ⟨Nat.le_refl _⟩, ⟨by (with_reducible repeat (first | apply Kd.R_alloc | apply Kd.R_drewN | apply Kd.R_drew)); exact HO119.out⟩, ⟨by repeat (first | (with_reducible first | exact HB.out | apply below_alloc | apply pw_below_drewN | apply below_drew1) | exact HB.out)⟩⟩
  case round =>
   clear H'
   try clear c2
   try clear p2
   try clear c3
   try clear c6
   obtain ⟨x4_1, HA, HK1, HO_4, HB⟩ := hrel
   cases gk with
   | zero => exact absurd HA.out (by simp [impl_JoinWarnings.l0])
   | succ k1 =>
    have H := HA.out
    clear HA
    simp only [impl_JoinWarnings.l0] at H
    replace H := Option.bind_eq_some_iff.mp H
    obtain ⟨⟨t120, t121, t122⟩, A70, H⟩ := H
    replace H : (if t122 = true then (if 0 ≤ t120 then (if t120 < (x4_1.length : Int) then (if 0 ≤ t121 then (if t121 < (x4_1.length : Int) then ((some (x4_1.set (t120 : Int).toNat (⟨(rd_T37 x4_1 t120).f0, (rd_T37 x4_1 t120).f1, (rd_T37 x4_1 t120).f2, (rd_T37 x4_1 t120).f3, mn ((rd_T37 x4_1 t120).f4) ((rd_T37 x4_1 t121).f4), (rd_T37 x4_1 t120).f5⟩ : S37) : List (S37))).bind fun y127 => ((impl_Warning_27.f (y127.set (t120 : Int).toNat (⟨(rd_T37 y127 t120).f0, (rd_T37 y127 t120).f1, (rd_T37 y127 t120).f2, (rd_T37 y127 t120).f3, (rd_T37 y127 t120).f4, mx ((rd_T37 x4_1 t120).f5) ((rd_T37 x4_1 t121).f5)⟩ : S37)) t121 (wrap64 (t121 + 1))).bind fun t129 => (impl_JoinWarnings.l0 k1 t129))) else (none)) else (none)) else (none)) else (none)) else (some (x4_1, true))) = some (r1, r2) := H
    have A7 := Aside0.mk A70
    clear A70
    by_cases c8 : t122 = true
    ·
     subst c8
     have H1 : (if 0 ≤ t120 then (if t120 < (x4_1.length : Int) then (if 0 ≤ t121 then (if t121 < (x4_1.length : Int) then ((some (x4_1.set (t120 : Int).toNat (⟨(rd_T37 x4_1 t120).f0, (rd_T37 x4_1 t120).f1, (rd_T37 x4_1 t120).f2, (rd_T37 x4_1 t120).f3, mn ((rd_T37 x4_1 t120).f4) ((rd_T37 x4_1 t121).f4), (rd_T37 x4_1 t120).f5⟩ : S37) : List (S37))).bind fun y127 => ((impl_Warning_27.f (y127.set (t120 : Int).toNat (⟨(rd_T37 y127 t120).f0, (rd_T37 y127 t120).f1, (rd_T37 y127 t120).f2, (rd_T37 y127 t120).f3, (rd_T37 y127 t120).f4, mx ((rd_T37 x4_1 t120).f5) ((rd_T37 x4_1 t121).f5)⟩ : S37)) t121 (wrap64 (t121 + 1))).bind fun t129 => (impl_JoinWarnings.l0 k1 t129))) else (none)) else (none)) else (none)) else (none)) = some (r1, r2) := by rw [if_pos rfl] at H; exact H
     clear H
     have H := H1
     clear H1
     by_cases c9 : 0 ≤ t120
     ·
      rw [if_pos c9] at H
      have c9b0 : decide (0 ≤ t120) = true := decide_eq_true c9
      clear c9
      by_cases c10 : t120 < (x4_1.length : Int)
      ·
       rw [if_pos c10] at H
       have c10b0 : decide (t120 < (x4_1.length : Int)) = true := decide_eq_true c10
       clear c10
       by_cases c11 : 0 ≤ t121
       ·
        rw [if_pos c11] at H
        have c11b0 : decide (0 ≤ t121) = true := decide_eq_true c11
        clear c11
        by_cases c12 : t121 < (x4_1.length : Int)
        ·
         rw [if_pos c12] at H
         have c12b0 : decide (t121 < (x4_1.length : Int)) = true := decide_eq_true c12
         clear c12
         obtain ⟨ji13, hji13⟩ : ∃ j_ : Int, (mn ((rd_T37 x4_1 t120).f4) ((rd_T37 x4_1 t121).f4)) = j_ := ⟨_, rfl⟩
         replace H : ((some (x4_1.set (t120 : Int).toNat (⟨(rd_T37 x4_1 t120).f0, (rd_T37 x4_1 t120).f1, (rd_T37 x4_1 t120).f2, (rd_T37 x4_1 t120).f3, ji13, (rd_T37 x4_1 t120).f5⟩ : S37) : List (S37))).bind fun y127 => ((impl_Warning_27.f (y127.set (t120 : Int).toNat (⟨(rd_T37 y127 t120).f0, (rd_T37 y127 t120).f1, (rd_T37 y127 t120).f2, (rd_T37 y127 t120).f3, (rd_T37 y127 t120).f4, mx ((rd_T37 x4_1 t120).f5) ((rd_T37 x4_1 t121).f5)⟩ : S37)) t121 (wrap64 (t121 + 1))).bind fun t129 => (impl_JoinWarnings.l0 k1 t129))) = some (r1, r2) := by first | (rw [hji13] at H; exact H) | (simp only [hji13] at H ⊢; exact H)
         (try rw [hji13] at A7)
         have hji13_ : (if ((rd_T37 x4_1 t121).f4) < ((rd_T37 x4_1 t120).f4) then ((rd_T37 x4_1 t121).f4) else ((rd_T37 x4_1 t120).f4)) = ji13 := hji13
         obtain ⟨ji14, hji14⟩ : ∃ j_ : Int, (mx ((rd_T37 x4_1 t120).f5) ((rd_T37 x4_1 t121).f5)) = j_ := ⟨_, rfl⟩
         replace H : ((some (x4_1.set (t120 : Int).toNat (⟨(rd_T37 x4_1 t120).f0, (rd_T37 x4_1 t120).f1, (rd_T37 x4_1 t120).f2, (rd_T37 x4_1 t120).f3, ji13, (rd_T37 x4_1 t120).f5⟩ : S37) : List (S37))).bind fun y127 => ((impl_Warning_27.f (y127.set (t120 : Int).toNat (⟨(rd_T37 y127 t120).f0, (rd_T37 y127 t120).f1, (rd_T37 y127 t120).f2, (rd_T37 y127 t120).f3, (rd_T37 y127 t120).f4, ji14⟩ : S37)) t121 (wrap64 (t121 + 1))).bind fun t129 => (impl_JoinWarnings.l0 k1 t129))) = some (r1, r2) := by first | (rw [hji14] at H; exact H) | (simp only [hji14] at H ⊢; exact H)
         (try rw [hji14] at A7)
         have hji14_ : (if ((rd_T37 x4_1 t120).f5) < ((rd_T37 x4_1 t121).f5) then ((rd_T37 x4_1 t121).f5) else ((rd_T37 x4_1 t120).f5)) = ji14 := hji14
         obtain ⟨y127, hy127⟩ : ∃ y_ : List (S37), y_ = (x4_1.set (t120 : Int).toNat (⟨(rd_T37 x4_1 t120).f0, (rd_T37 x4_1 t120).f1, (rd_T37 x4_1 t120).f2, (rd_T37 x4_1 t120).f3, ji13, (rd_T37 x4_1 t120).f5⟩ : S37)) := ⟨_, rfl⟩
         replace H : ((impl_Warning_27.f (y127.set (t120 : Int).toNat (⟨(rd_T37 y127 t120).f0, (rd_T37 y127 t120).f1, (rd_T37 y127 t120).f2, (rd_T37 y127 t120).f3, (rd_T37 y127 t120).f4, ji14⟩ : S37)) t121 (wrap64 (t121 + 1))).bind fun t129 => (impl_JoinWarnings.l0 k1 t129)) = some (r1, r2) := by first | (rw [hy127]; with_reducible exact H) | (have H2_ := (Option.bind_some _ _).symm.trans H; rw [hy127]; with_reducible exact H2_) | (have H2_ := (Option.bind_some _ _).symm.trans H; with_reducible exact H2_) | with_reducible exact H | (rw [hy127]; exact H) | exact H
         have Ny127 := Aside0.mk hy127
         clear hy127
         obtain ⟨y128, hy128⟩ : ∃ y_ : List (S37), y_ = (y127.set (t120 : Int).toNat (⟨(rd_T37 y127 t120).f0, (rd_T37 y127 t120).f1, (rd_T37 y127 t120).f2, (rd_T37 y127 t120).f3, (rd_T37 y127 t120).f4, ji14⟩ : S37)) := ⟨_, rfl⟩
         replace H : ((impl_Warning_27.f y128 t121 (wrap64 (t121 + 1))).bind fun t129 => (impl_JoinWarnings.l0 k1 t129)) = some (r1, r2) := by first | (rw [hy128]; with_reducible exact H) | (have H2_ := (Option.bind_some _ _).symm.trans H; rw [hy128]; with_reducible exact H2_) | (have H2_ := (Option.bind_some _ _).symm.trans H; with_reducible exact H2_) | with_reducible exact H | (rw [hy128]; exact H) | exact H
         have Ny128 := Aside0.mk hy128
         clear hy128
         replace H := Option.bind_eq_some_iff.mp H
         obtain ⟨t129, A170, H⟩ := H
         replace H : (impl_JoinWarnings.l0 k1 t129) = some (r1, r2) := H
         have A17 := Aside0.mk A170
         clear A170
         have H' := Aside0.mk H
         clear H
         obtain ⟨Ao18, co18, eo18⟩ := Kd.R_slice HO_4.out
         subst eo18
         try go_wp2_with (first | ((with_reducible refine gate_callee (f := 26) rfl ?_); refine goesL_ (some 15) rfl rfl Try.func26 (by kernel_rfl) rfl #[.slice Ao18 x4_1.length co18] rfl (by (try simp only [List.map_toArray, List.map_cons, List.map_nil]); first | done | rfl | (simp only [List.length_drop, List.length_take]; rfl)) ?_; (with_reducible refine (impl_firstJoint.calls k1 _ _ x4_1 t120 t121 true _ ?side1 ?side2 A7.out).mono ?_); (case side1 => repeat (first | exact (Kd.R_reads' HO_4.out).2.2 | (with_reducible refine Kd.C_alloc ?_ _) | (with_reducible refine Kd.C_drewN ?_ _) | (with_reducible refine Kd.C_drew ?_))); (case side2 => exact (Kd.R_reads' HO_4.out).2.1); rintro e w19 ⟨rfl, hb⟩; refine ⟨_, rfl, ?_⟩; have n0_ := Aside0.mk (Kd.R_below (by (with_reducible repeat (first | apply Kd.R_alloc | apply Kd.R_drewN | apply Kd.R_drew)); exact HO_4.out) hb); have n1_ := Aside0.mk (below_step (by repeat (first | (with_reducible first | exact HB.out | apply below_alloc | apply pw_below_drewN | apply below_drew1) | exact HB.out)) hb); clear HO_4; clear HB; have HO_4 := n0_; have HB := n1_; clear n0_ n1_; (try clear hb); (try clear hb2); (try clear hk); (try clear hi)))
         have n0_ := Aside0.mk (Kd.R_drew HO_4.out)
         have n1_ := Aside0.mk (below_drew1 HB.out)
         clear HO_4
         clear HB
         have HO_4 := n0_
         have HB := n1_
         clear n0_ n1_
         have p123 : 0 ≤ (t120 : Int) := of_decide_eq_true (by first | (with_reducible assumption) | assumption)
         have q123 : t120 < (x4_1.length : Int) := of_decide_eq_true (by first | (with_reducible assumption) | assumption)
         obtain ⟨ad123, e123, hx123_0, hx123_1, hx123_2, hx123_3, hx123_4, hx123_5⟩ := at_T37 (Kd.R_reads' HO_4.out).2.2 t120 p123 q123
         cases e123
         replace p123 := eq_true p123
         replace q123 := eq_true q123
         have p124 : 0 ≤ (t121 : Int) := of_decide_eq_true (by first | (with_reducible assumption) | assumption)
         have q124 : t121 < (x4_1.length : Int) := of_decide_eq_true (by first | (with_reducible assumption) | assumption)
         obtain ⟨ad124, e124, hx124_0, hx124_1, hx124_2, hx124_3, hx124_4, hx124_5⟩ := at_T37 (Kd.R_reads' HO_4.out).2.2 t121 p124 q124
         obtain rfl : ad123 = ad124 := (by injection e124)
         replace p124 := eq_true p124
         replace q124 := eq_true q124
         have p125 : 0 ≤ (t120 : Int) := of_decide_eq_true (by first | (with_reducible assumption) | assumption)
         have q125 : t120 < (x4_1.length : Int) := of_decide_eq_true (by first | (with_reducible assumption) | assumption)
         obtain ⟨ad125, e125, hx125_0, hx125_1, hx125_2, hx125_3, hx125_4, hx125_5⟩ := at_T37 (Kd.R_reads' HO_4.out).2.2 t120 p125 q125
         obtain rfl : ad123 = ad125 := (by injection e125)
         replace p125 := eq_true p125
         replace q125 := eq_true q125
         have p126 : 0 ≤ (t121 : Int) := of_decide_eq_true (by first | (with_reducible assumption) | assumption)
         have q126 : t121 < (x4_1.length : Int) := of_decide_eq_true (by first | (with_reducible assumption) | assumption)
         obtain ⟨ad126, e126, hx126_0, hx126_1, hx126_2, hx126_3, hx126_4, hx126_5⟩ := at_T37 (Kd.R_reads' HO_4.out).2.2 t121 p126 q126
         obtain rfl : ad123 = ad126 := (by injection e126)
         replace p126 := eq_true p126
         replace q126 := eq_true q126
         have p15 : 0 ≤ (t120 : Int) := of_decide_eq_true (by first | (with_reducible assumption) | assumption)
         have q15 : (t120 : Int) < ((x4_1.length : Int) : Int) := of_decide_eq_true (by first | (with_reducible assumption) | assumption)
         obtain ⟨go15, co15, eo15, gb15, gl15, cl15, HG15⟩ := Kd.R_form HO_4.out (by omega)
         (first | cases eo15 | (injection eo15 with ea_ en_ ec_; (first | subst ea_ | (injection ea_ with ea_; subst ea_)); subst ec_; clear en_))
         have GB15 := Aside0.mk gb15
         have GG15 := Aside0.mk HG15
         clear gb15 gl15 HG15
         (first | simp only [add_plain] at hx123_0 | skip)
         (first | simp only [add_plain] at hx123_1 | skip)
         (first | simp only [add_plain] at hx123_2 | skip)
         (first | simp only [add_plain] at hx123_3 | skip)
         (first | simp only [add_plain] at hx123_4 | skip)
         (first | simp only [add_plain] at hx123_5 | skip)
         (first | simp only [add_plain] at hx124_0 | skip)
         (first | simp only [add_plain] at hx124_1 | skip)
         (first | simp only [add_plain] at hx124_2 | skip)
         (first | simp only [add_plain] at hx124_3 | skip)
         (first | simp only [add_plain] at hx124_4 | skip)
         (first | simp only [add_plain] at hx124_5 | skip)
         (first | simp only [add_plain] at hx125_0 | skip)
         (first | simp only [add_plain] at hx125_1 | skip)
         (first | simp only [add_plain] at hx125_2 | skip)
         (first | simp only [add_plain] at hx125_3 | skip)
         (first | simp only [add_plain] at hx125_4 | skip)
         (first | simp only [add_plain] at hx125_5 | skip)
         (first | simp only [add_plain] at hx126_0 | skip)
         (first | simp only [add_plain] at hx126_1 | skip)
         (first | simp only [add_plain] at hx126_2 | skip)
         (first | simp only [add_plain] at hx126_3 | skip)
         (first | simp only [add_plain] at hx126_4 | skip)
         (first | simp only [add_plain] at hx126_5 | skip)
         obtain ⟨ce15, hcl15, hM15, hcc15, hfr15⟩ := Kd.R_elem HO_4.out z37 (t120 : Int) p15 q15
         obtain rfl := k37_openM hM15
         have hx15_0 : World.cell? _ ⟨go15, (t120 : Int).toNat * 6, none⟩ = some (.int .i64 ((rd_T37 x4_1 t120).f0)) := hcc15 0 _ rfl
         have hx15_1 : World.cell? _ ⟨go15, (t120 : Int).toNat * 6 + 1, none⟩ = some (.int .i64 ((rd_T37 x4_1 t120).f1)) := hcc15 1 _ rfl
         have hx15_2 : World.cell? _ ⟨go15, (t120 : Int).toNat * 6 + 2, none⟩ = some (.int .i64 ((rd_T37 x4_1 t120).f2)) := hcc15 2 _ rfl
         have hx15_3 : World.cell? _ ⟨go15, (t120 : Int).toNat * 6 + 3, none⟩ = some (.int .i64 ((rd_T37 x4_1 t120).f3)) := hcc15 3 _ rfl
         have hx15_4 : World.cell? _ ⟨go15, (t120 : Int).toNat * 6 + 4, none⟩ = some (.int .i64 ((rd_T37 x4_1 t120).f4)) := hcc15 4 _ rfl
         have hx15_5 : World.cell? _ ⟨go15, (t120 : Int).toNat * 6 + 5, none⟩ = some (.int .i64 ((rd_T37 x4_1 t120).f5)) := hcc15 5 _ rfl
         have hf15_0 : World.frozen? _ ⟨go15, (t120 : Int).toNat * 6, none⟩ = false := hfr15 0
         have hf15_1 : World.frozen? _ ⟨go15, (t120 : Int).toNat * 6 + 1, none⟩ = false := hfr15 1
         have hf15_2 : World.frozen? _ ⟨go15, (t120 : Int).toNat * 6 + 2, none⟩ = false := hfr15 2
         have hf15_3 : World.frozen? _ ⟨go15, (t120 : Int).toNat * 6 + 3, none⟩ = false := hfr15 3
         have hf15_4 : World.frozen? _ ⟨go15, (t120 : Int).toNat * 6 + 4, none⟩ = false := hfr15 4
         have hf15_5 : World.frozen? _ ⟨go15, (t120 : Int).toNat * 6 + 5, none⟩ = false := hfr15 5
         clear hcl15 hcc15 hfr15 hM15
         replace p15 := eq_true p15
         replace q15 := eq_true q15
         obtain ⟨ce21, hcl21, hM21, hcc21, hfr21⟩ := Kd.R_elem HO_4.out z37 (t120 : Int) (of_decide_eq_true (by first | (with_reducible assumption) | assumption)) (by have h_ : (t120 : Int) < ((x4_1.length : Int) : Int) := of_decide_eq_true (by first | (with_reducible assumption) | assumption); first | exact h_ | (have e_ := (Kd.R_reads' HO_4.out).1; omega) | simpa using h_)
         obtain rfl := k37_openM hM21
         have HP21 := (Kd.R_seg HO_4.out (t120 : Int) (of_decide_eq_true (by first | (with_reducible assumption) | assumption)) (by have h_ : (t120 : Int) < ((x4_1.length : Int) : Int) := of_decide_eq_true (by first | (with_reducible assumption) | assumption); first | exact h_ | (have e_ := (Kd.R_reads' HO_4.out).1; omega) | simpa using h_) (seg := [.int .i64 ji13]) (j := 4) hcl21 hcc21 (show 5 ≤ 6 from by decide) (x' := (⟨(rd_T37 x4_1 t120).f0, (rd_T37 x4_1 t120).f1, (rd_T37 x4_1 t120).f2, (rd_T37 x4_1 t120).f3, ji13, (rd_T37 x4_1 t120).f5⟩ : S37)) (k37_mkM _ _ _ (⟨(rd_T37 x4_1 t120).f0, (rd_T37 x4_1 t120).f1, (rd_T37 x4_1 t120).f2, (rd_T37 x4_1 t120).f3, ji13, (rd_T37 x4_1 t120).f5⟩ : S37) ) (fun _ hk => hk)).1
         rw [← Ny127.out] at HP21
         have HQ21 := Aside0.mk HP21
         clear hcl21 hcc21 hfr21 hM21 HP21
         have p16 : 0 ≤ (t120 : Int) := of_decide_eq_true (by first | (with_reducible assumption) | assumption)
         have q16 : (t120 : Int) < ((x4_1.length : Int) : Int) := of_decide_eq_true (by first | (with_reducible assumption) | assumption)
         replace p16 := eq_true p16
         replace q16 := eq_true q16
         obtain ⟨ce22, hcl22, hM22, hcc22, hfr22⟩ := Kd.R_elem HQ21.out z37 (t120 : Int) (of_decide_eq_true (by first | (with_reducible assumption) | assumption)) (by have h_ : (t120 : Int) < ((x4_1.length : Int) : Int) := of_decide_eq_true (by first | (with_reducible assumption) | assumption); first | exact h_ | (have e_ := (Kd.R_reads' HO_4.out).1; omega) | simpa using h_)
         obtain rfl := k37_openM hM22
         have HP22 := (Kd.R_seg HQ21.out (t120 : Int) (of_decide_eq_true (by first | (with_reducible assumption) | assumption)) (by have h_ : (t120 : Int) < ((x4_1.length : Int) : Int) := of_decide_eq_true (by first | (with_reducible assumption) | assumption); first | exact h_ | (have e_ := (Kd.R_reads' HO_4.out).1; omega) | simpa using h_) (seg := [.int .i64 ji14]) (j := 5) hcl22 hcc22 (show 6 ≤ 6 from by decide) (x' := (⟨(rd_T37 y127 t120).f0, (rd_T37 y127 t120).f1, (rd_T37 y127 t120).f2, (rd_T37 y127 t120).f3, (rd_T37 y127 t120).f4, ji14⟩ : S37)) (k37_mkM _ _ _ (⟨(rd_T37 y127 t120).f0, (rd_T37 y127 t120).f1, (rd_T37 y127 t120).f2, (rd_T37 y127 t120).f3, (rd_T37 y127 t120).f4, ji14⟩ : S37) ) (fun _ hk => hk)).1
         rw [← Ny128.out] at HP22
         have HQ22 := Aside0.mk HP22
         clear hcl22 hcc22 hfr22 hM22 HP22
         refine start_ (n := 32) (S := fun w' => w'.cell? ⟨go15, ((t120).toNat * 6), none⟩ = some (.int .i64 ((rd_T37 x4_1 t120).f0)) ∧ w'.cell? ⟨go15, ((t120).toNat * 6) + 1, none⟩ = some (.int .i64 ((rd_T37 x4_1 t120).f1)) ∧ w'.cell? ⟨go15, ((t120).toNat * 6) + 2, none⟩ = some (.int .i64 ((rd_T37 x4_1 t120).f2)) ∧ w'.cell? ⟨go15, ((t120).toNat * 6) + 3, none⟩ = some (.int .i64 ((rd_T37 x4_1 t120).f3)) ∧ w'.cell? ⟨go15, ((t120).toNat * 6) + 4, none⟩ = some (.int .i64 ((rd_T37 x4_1 t120).f4)) ∧ w'.cell? ⟨go15, ((t120).toNat * 6) + 5, none⟩ = some (.int .i64 ((rd_T37 x4_1 t120).f5)) ∧ w'.cell? ⟨go15, ((t121).toNat * 6), none⟩ = some (.int .i64 ((rd_T37 x4_1 t121).f0)) ∧ w'.cell? ⟨go15, ((t121).toNat * 6) + 1, none⟩ = some (.int .i64 ((rd_T37 x4_1 t121).f1)) ∧ w'.cell? ⟨go15, ((t121).toNat * 6) + 2, none⟩ = some (.int .i64 ((rd_T37 x4_1 t121).f2)) ∧ w'.cell? ⟨go15, ((t121).toNat * 6) + 3, none⟩ = some (.int .i64 ((rd_T37 x4_1 t121).f3)) ∧ w'.cell? ⟨go15, ((t121).toNat * 6) + 4, none⟩ = some (.int .i64 ((rd_T37 x4_1 t121).f4)) ∧ w'.cell? ⟨go15, ((t121).toNat * 6) + 5, none⟩ = some (.int .i64 ((rd_T37 x4_1 t121).f5)) ∧ w'.cell? ⟨go15, ((t120).toNat * 6), none⟩ = some (.int .i64 ((rd_T37 x4_1 t120).f0)) ∧ w'.cell? ⟨go15, ((t120).toNat * 6) + 1, none⟩ = some (.int .i64 ((rd_T37 x4_1 t120).f1)) ∧ w'.cell? ⟨go15, ((t120).toNat * 6) + 2, none⟩ = some (.int .i64 ((rd_T37 x4_1 t120).f2)) ∧ w'.cell? ⟨go15, ((t120).toNat * 6) + 3, none⟩ = some (.int .i64 ((rd_T37 x4_1 t120).f3)) ∧ w'.cell? ⟨go15, ((t120).toNat * 6) + 4, none⟩ = some (.int .i64 ((rd_T37 x4_1 t120).f4)) ∧ w'.cell? ⟨go15, ((t120).toNat * 6) + 5, none⟩ = some (.int .i64 ((rd_T37 x4_1 t120).f5)) ∧ w'.cell? ⟨go15, ((t121).toNat * 6), none⟩ = some (.int .i64 ((rd_T37 x4_1 t121).f0)) ∧ w'.cell? ⟨go15, ((t121).toNat * 6) + 1, none⟩ = some (.int .i64 ((rd_T37 x4_1 t121).f1)) ∧ w'.cell? ⟨go15, ((t121).toNat * 6) + 2, none⟩ = some (.int .i64 ((rd_T37 x4_1 t121).f2)) ∧ w'.cell? ⟨go15, ((t121).toNat * 6) + 3, none⟩ = some (.int .i64 ((rd_T37 x4_1 t121).f3)) ∧ w'.cell? ⟨go15, ((t121).toNat * 6) + 4, none⟩ = some (.int .i64 ((rd_T37 x4_1 t121).f4)) ∧ w'.cell? ⟨go15, ((t121).toNat * 6) + 5, none⟩ = some (.int .i64 ((rd_T37 x4_1 t121).f5))) (ds := [28, 31]) #[false, false, false, false, false, false, false, false, false, false, false, false, false, false, false, false, false, false, false, false, false, false, false, false, false, false, false, false, false, false, false, false] (by kernel_rfl) rfl rfl ⟨hx123_0, hx123_1, hx123_2, hx123_3, hx123_4, hx123_5, hx124_0, hx124_1, hx124_2, hx124_3, hx124_4, hx124_5, hx125_0, hx125_1, hx125_2, hx125_3, hx125_4, hx125_5, hx126_0, hx126_1, hx126_2, hx126_3, hx126_4, hx126_5⟩ (fun hHeld => ?_); refine with_tabW impl_JoinWarnings.tab7 impl_JoinWarnings.bits7 (fun HT_ HW_ => ?_)
         generalize w19.drew = w20 at HO_4 HB GG15 HQ21 HQ22 hf15_0 hf15_1 hf15_2 hf15_3 hf15_4 hf15_5 hx123_0 hx123_1 hx123_2 hx123_3 hx123_4 hx123_5 hx124_0 hx124_1 hx124_2 hx124_3 hx124_4 hx124_5 hx125_0 hx125_1 hx125_2 hx125_3 hx125_4 hx125_5 hx126_0 hx126_1 hx126_2 hx126_3 hx126_4 hx126_5 hx15_0 hx15_1 hx15_2 hx15_3 hx15_4 hx15_5 hHeld ⊢
         refine pure_ (i := 0) (N := some 22) (v := ?_) (a' := ?_) #[true, false, false, false, false, false, false, false, false, false, false, false, false, false, false, false, false, false, false, false, false, false, false, false, false, false, false, false, false, false, false, false] rfl rfl (any_of HT_.out (by kernel_rfl)) (fun _ _ _ h => h) (Or.inl ⟨by rfl, ?_⟩) ?_ ?_
         rotate_left
         ·
          intro w'
          go_simp
          with_reducible rfl
         rotate_left
         ·
          simp only [Act.put, List.setIfInBounds_toArray, List.set_cons_zero, List.set_cons_succ, i64_w, i32_w]
          rfl
         refine pure_ (i := 1) (N := some 23) (v := ?_) (a' := ?_) #[true, true, false, false, false, false, false, false, false, false, false, false, false, false, false, false, false, false, false, false, false, false, false, false, false, false, false, false, false, false, false, false] rfl rfl (any_of HT_.out (by kernel_rfl)) (fun _ _ _ h => h) (Or.inl ⟨by rfl, ?_⟩) ?_ ?_
         rotate_left
         ·
          intro w'
          go_simp
          with_reducible rfl
         rotate_left
         ·
          simp only [Act.put, List.setIfInBounds_toArray, List.set_cons_zero, List.set_cons_succ, i64_w, i32_w]
          rfl
         refine pure_ (i := 2) (N := some 24) (v := ?_) (a' := ?_) #[true, true, true, false, false, false, false, false, false, false, false, false, false, false, false, false, false, false, false, false, false, false, false, false, false, false, false, false, false, false, false, false] rfl rfl (any_of HT_.out (by kernel_rfl)) (fun _ _ _ h => h) (Or.inl ⟨by rfl, ?_⟩) ?_ ?_
         rotate_left
         ·
          intro w'
          go_simp
          with_reducible rfl
         rotate_left
         ·
          simp only [Act.put, List.setIfInBounds_toArray, List.set_cons_zero, List.set_cons_succ, i64_w, i32_w]
          rfl
         refine pure_ (i := 3) (N := some 25) (v := ?_) (a' := ?_) #[true, true, true, true, false, false, false, false, false, false, false, false, false, false, false, false, false, false, false, false, false, false, false, false, false, false, false, false, false, false, false, false] rfl rfl (any_of HT_.out (by kernel_rfl)) (fun _ _ _ h => h) (Or.inl ⟨by rfl, ?_⟩) ?_ ?_
         rotate_left
         ·
          intro w'
          go_simp
          with_reducible rfl
         rotate_left
         ·
          simp only [Act.put, List.setIfInBounds_toArray, List.set_cons_zero, List.set_cons_succ, i64_w, i32_w]
          rfl
         refine pure_ (i := 4) (N := some 26) (v := ?_) (a' := ?_) #[true, true, true, true, true, false, false, false, false, false, false, false, false, false, false, false, false, false, false, false, false, false, false, false, false, false, false, false, false, false, false, false] rfl rfl (any_of HT_.out (by kernel_rfl)) (fun _ _ _ h => h) (Or.inl ⟨by rfl, ?_⟩) ?_ ?_
         rotate_left
         ·
          intro w'
          go_simp
          with_reducible rfl
         rotate_left
         ·
          simp only [Act.put, List.setIfInBounds_toArray, List.set_cons_zero, List.set_cons_succ, i64_w, i32_w]
          rfl
         refine pure_ (i := 5) (N := some 27) (v := ?_) (a' := ?_) #[true, true, true, true, true, true, false, false, false, false, false, false, false, false, false, false, false, false, false, false, false, false, false, false, false, false, false, false, false, false, false, false] rfl rfl (any_of HT_.out (by kernel_rfl)) (fun _ _ _ h => h) (Or.inl ⟨by rfl, ?_⟩) ?_ ?_
         rotate_left
         ·
          intro w'
          go_simp
          with_reducible rfl
         rotate_left
         ·
          simp only [Act.put, List.setIfInBounds_toArray, List.set_cons_zero, List.set_cons_succ, i64_w, i32_w]
          rfl
         refine pure_ (i := 6) (N := some 28) (v := ?_) (a' := ?_) #[true, true, true, true, true, true, true, false, false, false, false, false, false, false, false, false, false, false, false, false, false, false, false, false, false, false, false, false, false, false, false, false] rfl rfl (any_of HT_.out (by kernel_rfl)) (fun _ _ _ h => h) (Or.inl ⟨by rfl, ?_⟩) ?_ ?_
         rotate_left
         ·
          intro w'
          go_simp
          with_reducible rfl
         rotate_left
         ·
          simp only [Act.put, List.setIfInBounds_toArray, List.set_cons_zero, List.set_cons_succ, i64_w, i32_w]
          rfl
         refine pure_ (i := 7) (N := some 29) (v := ?_) (a' := ?_) #[true, true, true, true, true, true, true, true, false, false, false, false, false, false, false, false, false, false, false, false, false, false, false, false, false, false, false, false, false, false, false, false] rfl rfl (any_of HT_.out (by kernel_rfl)) (fun _ _ _ h => h) (Or.inl ⟨by rfl, ?_⟩) ?_ ?_
         rotate_left
         ·
          intro w'
          go_simp
          with_reducible rfl
         rotate_left
         ·
          simp only [Act.put, List.setIfInBounds_toArray, List.set_cons_zero, List.set_cons_succ, i64_w, i32_w]
          rfl
         refine pure_ (i := 9) (N := some 31) (v := ?_) (a' := ?_) #[true, true, true, true, true, true, true, true, false, true, false, false, false, false, false, false, false, false, false, false, false, false, false, false, false, false, false, false, false, false, false, false] rfl rfl (any_of HT_.out (by kernel_rfl)) (fun _ _ _ h => h) (Or.inl ⟨by rfl, ?_⟩) ?_ ?_
         rotate_left
         ·
          intro w'
          go_simp
          with_reducible rfl
         rotate_left
         ·
          simp only [Act.put, List.setIfInBounds_toArray, List.set_cons_zero, List.set_cons_succ, i64_w, i32_w]
          rfl
         refine pure_ (i := 10) (N := some 32) (v := ?_) (a' := ?_) #[true, true, true, true, true, true, true, true, false, true, true, false, false, false, false, false, false, false, false, false, false, false, false, false, false, false, false, false, false, false, false, false] rfl rfl (any_of HT_.out (by kernel_rfl)) (fun _ _ _ h => h) (Or.inl ⟨by rfl, ?_⟩) ?_ ?_
         rotate_left
         ·
          intro w'
          go_simp
          with_reducible rfl
         rotate_left
         ·
          simp only [Act.put, List.setIfInBounds_toArray, List.set_cons_zero, List.set_cons_succ, i64_w, i32_w]
          rfl
         refine pure_ (i := 11) (N := some 33) (v := ?_) (a' := ?_) #[true, true, true, true, true, true, true, true, false, true, true, true, false, false, false, false, false, false, false, false, false, false, false, false, false, false, false, false, false, false, false, false] rfl rfl (any_of HT_.out (by kernel_rfl)) (fun _ _ _ h => h) (Or.inl ⟨by rfl, ?_⟩) ?_ ?_
         rotate_left
         ·
          intro w'
          go_simp
          with_reducible rfl
         rotate_left
         ·
          simp only [Act.put, List.setIfInBounds_toArray, List.set_cons_zero, List.set_cons_succ, i64_w, i32_w]
          rfl
         refine pure_ (i := 12) (N := some 34) (v := ?_) (a' := ?_) #[true, true, true, true, true, true, true, true, false, true, true, true, true, false, false, false, false, false, false, false, false, false, false, false, false, false, false, false, false, false, false, false] rfl rfl (any_of HT_.out (by kernel_rfl)) (fun _ _ _ h => h) (Or.inl ⟨by rfl, ?_⟩) ?_ ?_
         rotate_left
         ·
          intro w'
          go_simp
          with_reducible rfl
         rotate_left
         ·
          simp only [Act.put, List.setIfInBounds_toArray, List.set_cons_zero, List.set_cons_succ, i64_w, i32_w]
          rfl
         refine pure_ (i := 15) (N := some 37) (v := ?_) (a' := ?_) #[true, true, true, true, true, true, true, true, false, true, true, true, true, false, false, true, false, false, false, false, false, false, false, false, false, false, false, false, false, false, false, false] rfl rfl (any_of HT_.out (by kernel_rfl)) (fun _ _ _ h => h) (Or.inl ⟨by rfl, ?_⟩) ?_ ?_
         rotate_left
         ·
          intro w'
          go_simp
          with_reducible rfl
         rotate_left
         ·
          simp only [Act.put, List.setIfInBounds_toArray, List.set_cons_zero, List.set_cons_succ, i64_w, i32_w]
          rfl
         refine pure_ (i := 16) (N := some 38) (v := ?_) (a' := ?_) #[true, true, true, true, true, true, true, true, false, true, true, true, true, false, false, true, true, false, false, false, false, false, false, false, false, false, false, false, false, false, false, false] rfl rfl (any_of HT_.out (by kernel_rfl)) (fun _ _ _ h => h) (Or.inl ⟨by rfl, ?_⟩) ?_ ?_
         rotate_left
         ·
          intro w'
          go_simp
          with_reducible rfl
         rotate_left
         ·
          simp only [Act.put, List.setIfInBounds_toArray, List.set_cons_zero, List.set_cons_succ, i64_w, i32_w]
          rfl
         refine pure_ (i := 17) (N := some 39) (v := ?_) (a' := ?_) #[true, true, true, true, true, true, true, true, false, true, true, true, true, false, false, true, true, true, false, false, false, false, false, false, false, false, false, false, false, false, false, false] rfl rfl (any_of HT_.out (by kernel_rfl)) (fun _ _ _ h => h) (Or.inl ⟨by rfl, ?_⟩) ?_ ?_
         rotate_left
         ·
          intro w'
          go_simp
          with_reducible rfl
         rotate_left
         ·
          simp only [Act.put, List.setIfInBounds_toArray, List.set_cons_zero, List.set_cons_succ, i64_w, i32_w]
          rfl
         refine pure_ (i := 18) (N := some 40) (v := ?_) (a' := ?_) #[true, true, true, true, true, true, true, true, false, true, true, true, true, false, false, true, true, true, true, false, false, false, false, false, false, false, false, false, false, false, false, false] rfl rfl (any_of HT_.out (by kernel_rfl)) (fun _ _ _ h => h) (Or.inl ⟨by rfl, ?_⟩) ?_ ?_
         rotate_left
         ·
          intro w'
          go_simp
          with_reducible rfl
         rotate_left
         ·
          simp only [Act.put, List.setIfInBounds_toArray, List.set_cons_zero, List.set_cons_succ, i64_w, i32_w]
          rfl
         refine pure_ (i := 20) (N := some 42) (v := ?_) (a' := ?_) #[true, true, true, true, true, true, true, true, false, true, true, true, true, false, false, true, true, true, true, false, true, false, false, false, false, false, false, false, false, false, false, false] rfl rfl (any_of HT_.out (by kernel_rfl)) (fun _ _ _ h => h) (Or.inl ⟨by rfl, ?_⟩) ?_ ?_
         rotate_left
         ·
          intro w'
          go_simp
          with_reducible rfl
         rotate_left
         ·
          simp only [Act.put, List.setIfInBounds_toArray, List.set_cons_zero, List.set_cons_succ, i64_w, i32_w]
          rfl
         refine pure_ (i := 21) (N := some 43) (v := ?_) (a' := ?_) #[true, true, true, true, true, true, true, true, false, true, true, true, true, false, false, true, true, true, true, false, true, true, false, false, false, false, false, false, false, false, false, false] rfl rfl (any_of HT_.out (by kernel_rfl)) (fun _ _ _ h => h) (Or.inl ⟨by rfl, ?_⟩) ?_ ?_
         rotate_left
         ·
          intro w'
          go_simp
          with_reducible rfl
         rotate_left
         ·
          simp only [Act.put, List.setIfInBounds_toArray, List.set_cons_zero, List.set_cons_succ, i64_w, i32_w]
          rfl
         refine pure_ (i := 22) (N := some 44) (v := ?_) (a' := ?_) #[true, true, true, true, true, true, true, true, false, true, true, true, true, false, false, true, true, true, true, false, true, true, true, false, false, false, false, false, false, false, false, false] rfl rfl (any_of HT_.out (by kernel_rfl)) (fun _ _ _ h => h) (Or.inl ⟨by rfl, ?_⟩) ?_ ?_
         rotate_left
         ·
          intro w'
          go_simp
          with_reducible rfl
         rotate_left
         ·
          simp only [Act.put, List.setIfInBounds_toArray, List.set_cons_zero, List.set_cons_succ, i64_w, i32_w]
          rfl
         refine pure_ (i := 23) (N := some 45) (v := ?_) (a' := ?_) #[true, true, true, true, true, true, true, true, false, true, true, true, true, false, false, true, true, true, true, false, true, true, true, true, false, false, false, false, false, false, false, false] rfl rfl (any_of HT_.out (by kernel_rfl)) (fun _ _ _ h => h) (Or.inl ⟨by rfl, ?_⟩) ?_ ?_
         rotate_left
         ·
          intro w'
          go_simp
          with_reducible rfl
         rotate_left
         ·
          simp only [Act.put, List.setIfInBounds_toArray, List.set_cons_zero, List.set_cons_succ, i64_w, i32_w]
          rfl
         refine take_ (i := 8) (N := some 30) (v := ?_) (a' := ?_) #[true, true, true, true, true, true, true, true, true, true, true, true, true, false, false, true, true, true, true, false, true, true, true, true, false, false, false, false, false, false, false, false] rfl rfl (take_ofW HT_.out HW_.out (by kernel_rfl)) (fun _ _ _ h => h) (Or.inl ⟨by rfl, ?_⟩) hHeld ?_ ?_
         rotate_left
         ·
          rintro w' ⟨s0, s1, s2, s3, s4, s5, s6, s7, s8, s9, s10, s11, s12, s13, s14, s15, s16, s17, s18, s19, s20, s21, s22, s23⟩
          go_simp
          with_reducible rfl
         rotate_left
         ·
          simp only [Act.put, List.setIfInBounds_toArray, List.set_cons_zero, List.set_cons_succ, i64_w, i32_w]
          rfl
         refine take_ (i := 13) (N := some 35) (v := ?_) (a' := ?_) #[true, true, true, true, true, true, true, true, true, true, true, true, true, true, false, true, true, true, true, false, true, true, true, true, false, false, false, false, false, false, false, false] rfl rfl (take_ofW HT_.out HW_.out (by kernel_rfl)) (fun _ _ _ h => h) (Or.inl ⟨by rfl, ?_⟩) hHeld ?_ ?_
         rotate_left
         ·
          rintro w' ⟨s0, s1, s2, s3, s4, s5, s6, s7, s8, s9, s10, s11, s12, s13, s14, s15, s16, s17, s18, s19, s20, s21, s22, s23⟩
          go_simp
          with_reducible rfl
         rotate_left
         ·
          simp only [Act.put, List.setIfInBounds_toArray, List.set_cons_zero, List.set_cons_succ, i64_w, i32_w]
          rfl
         refine pure_ (i := 14) (N := some 36) (v := ?_) (a' := ?_) #[true, true, true, true, true, true, true, true, true, true, true, true, true, true, true, true, true, true, true, false, true, true, true, true, false, false, false, false, false, false, false, false] rfl rfl (any_of HT_.out (by kernel_rfl)) (fun _ _ _ h => h) (Or.inl ⟨by rfl, ?_⟩) ?_ ?_
         rotate_left
         ·
          intro w'
          go_simp
          with_reducible rfl
         rotate_left
         ·
          simp only [Act.put, List.setIfInBounds_toArray, List.set_cons_zero, List.set_cons_succ, i64_w, i32_w]
          rfl
         refine take_ (i := 19) (N := some 41) (v := ?_) (a' := ?_) #[true, true, true, true, true, true, true, true, true, true, true, true, true, true, true, true, true, true, true, true, true, true, true, true, false, false, false, false, false, false, false, false] rfl rfl (take_ofW HT_.out HW_.out (by kernel_rfl)) (fun _ _ _ h => h) (Or.inl ⟨by rfl, ?_⟩) hHeld ?_ ?_
         rotate_left
         ·
          rintro w' ⟨s0, s1, s2, s3, s4, s5, s6, s7, s8, s9, s10, s11, s12, s13, s14, s15, s16, s17, s18, s19, s20, s21, s22, s23⟩
          go_simp
          with_reducible rfl
         rotate_left
         ·
          simp only [Act.put, List.setIfInBounds_toArray, List.set_cons_zero, List.set_cons_succ, i64_w, i32_w]
          rfl
         refine take_ (i := 24) (N := some 46) (v := ?_) (a' := ?_) #[true, true, true, true, true, true, true, true, true, true, true, true, true, true, true, true, true, true, true, true, true, true, true, true, true, false, false, false, false, false, false, false] rfl rfl (take_ofW HT_.out HW_.out (by kernel_rfl)) (fun _ _ _ h => h) (Or.inl ⟨by rfl, ?_⟩) hHeld ?_ ?_
         rotate_left
         ·
          rintro w' ⟨s0, s1, s2, s3, s4, s5, s6, s7, s8, s9, s10, s11, s12, s13, s14, s15, s16, s17, s18, s19, s20, s21, s22, s23⟩
          go_simp
          with_reducible rfl
         rotate_left
         ·
          simp only [Act.put, List.setIfInBounds_toArray, List.set_cons_zero, List.set_cons_succ, i64_w, i32_w]
          rfl
         refine pure_ (i := 25) (N := some 47) (v := ?_) (a' := ?_) #[true, true, true, true, true, true, true, true, true, true, true, true, true, true, true, true, true, true, true, true, true, true, true, true, true, true, false, false, false, false, false, false] rfl rfl (any_of HT_.out (by kernel_rfl)) (fun _ _ _ h => h) (Or.inl ⟨by rfl, ?_⟩) ?_ ?_
         rotate_left
         ·
          intro w'
          go_simp
          with_reducible rfl
         rotate_left
         ·
          simp only [Act.put, List.setIfInBounds_toArray, List.set_cons_zero, List.set_cons_succ, i64_w, i32_w]
          rfl
         refine pure_ (i := 26) (N := some 48) (v := ?_) (a' := ?_) #[true, true, true, true, true, true, true, true, true, true, true, true, true, true, true, true, true, true, true, true, true, true, true, true, true, true, true, false, false, false, false, false] rfl rfl (any_of HT_.out (by kernel_rfl)) (fun _ _ _ h => h) (Or.inl ⟨by rfl, ?_⟩) ?_ ?_
         rotate_left
         ·
          intro w'
          go_simp
          with_reducible rfl
         rotate_left
         ·
          simp only [Act.put, List.setIfInBounds_toArray, List.set_cons_zero, List.set_cons_succ, i64_w, i32_w]
          rfl
         refine pure_ (i := 27) (N := some 49) (v := ?_) (a' := ?_) #[true, true, true, true, true, true, true, true, true, true, true, true, true, true, true, true, true, true, true, true, true, true, true, true, true, true, true, true, false, false, false, false] rfl rfl (any_of HT_.out (by kernel_rfl)) (fun _ _ _ h => h) (Or.inl ⟨by rfl, ?_⟩) ?_ ?_
         rotate_left
         ·
          intro w'
          go_simp
          with_reducible rfl
         rotate_left
         ·
          simp only [Act.put, List.setIfInBounds_toArray, List.set_cons_zero, List.set_cons_succ, i64_w, i32_w]
          rfl
         refine last_ (i := 28) (N := none) #[true, true, true, true, true, true, true, true, true, true, true, true, true, true, true, true, true, true, true, true, true, true, true, true, true, true, true, true, true, false, false, false] rfl rfl (one_of HT_.out (by kernel_rfl)) (by decide) (fun K hK => ?_)
         refine skip_ (w1 := ?_) (by rfl) rfl ?_ ?_
         rotate_left
         ·
          go_simp
          rfl
         refine hK.out _ _ ?_
         clear hK K
         refine pure_ (i := 29) (N := some 50) (v := ?_) (a' := ?_) #[true, true, true, true, true, true, true, true, true, true, true, true, true, true, true, true, true, true, true, true, true, true, true, true, true, true, true, true, true, true, false, false] rfl rfl (any_of HT_.out (by kernel_rfl)) (fun _ _ _ h => h) (Or.inl ⟨by rfl, ?_⟩) ?_ ?_
         rotate_left
         ·
          intro w'
          go_simp
          with_reducible rfl
         rotate_left
         ·
          simp only [Act.put, List.setIfInBounds_toArray, List.set_cons_zero, List.set_cons_succ, i64_w, i32_w]
          rfl
         refine pure_ (i := 30) (N := some 51) (v := ?_) (a' := ?_) #[true, true, true, true, true, true, true, true, true, true, true, true, true, true, true, true, true, true, true, true, true, true, true, true, true, true, true, true, true, true, true, false] rfl rfl (any_of HT_.out (by kernel_rfl)) (fun _ _ _ h => h) (Or.inl ⟨by rfl, ?_⟩) ?_ ?_
         rotate_left
         ·
          intro w'
          go_simp
          with_reducible rfl
         rotate_left
         ·
          simp only [Act.put, List.setIfInBounds_toArray, List.set_cons_zero, List.set_cons_succ, i64_w, i32_w]
          rfl
         refine last_ (i := 31) (N := none) #[true, true, true, true, true, true, true, true, true, true, true, true, true, true, true, true, true, true, true, true, true, true, true, true, true, true, true, true, true, true, true, true] rfl rfl (one_of HT_.out (by kernel_rfl)) (by decide) (fun K hK => ?_)
         refine skip_ (w1 := ?_) (by rfl) rfl ?_ ?_
         rotate_left
         ·
          go_simp
          rfl
         refine hK.out _ _ ?_
         clear hK K
         refine done_ (done_of HT_.out (by kernel_rfl)) ?_
         have n0_ : Aside0 (Kd.R k37 37 ((w20.setCell ⟨go15, (t120 : Int).toNat * 6 + 4, none⟩ (.int .i64 ji13)).setCell ⟨go15, (t120 : Int).toNat * 6 + 5, none⟩ (.int .i64 ji14)) w.heap.size (fun _ => True) (.slice (some ⟨go15, 0, none⟩) x4_1.length co18) y128) := ⟨by (with_reducible repeat (first | apply Kd.R_alloc | apply Kd.R_drewN | apply Kd.R_drew)); exact HQ22.out⟩
         have n1_ : Aside0 (Below w.heap.size w ((w20.setCell ⟨go15, (t120 : Int).toNat * 6 + 4, none⟩ (.int .i64 ji13)).setCell ⟨go15, (t120 : Int).toNat * 6 + 5, none⟩ (.int .i64 ji14))) := ⟨by repeat (first | (with_reducible first | exact HB.out | apply below_alloc | apply pw_below_drewN | apply below_drew1 | refine below_set ?_ GB15.out | refine below_set ?_ GB15.out) | exact HB.out)⟩
         (try clear HO_4)
         (try clear HB)
         generalize ((w20.setCell ⟨go15, (t120 : Int).toNat * 6 + 4, none⟩ (.int .i64 ji13)).setCell ⟨go15, (t120 : Int).toNat * 6 + 5, none⟩ (.int .i64 ji14)) = w23 at n0_ n1_ ⊢
         have HO_4 := n0_
         have HB := n1_
         clear n0_ n1_
         try go_wp2_with (first | ((with_reducible refine gate_callee (f := 27) rfl ?_); refine goesL_ (some 56) rfl rfl Try.func27 (by kernel_rfl) rfl #[.slice (some ⟨go15, 0, none⟩) x4_1.length co18, .int .i64 t121, .int .i64 (wrap64 (t121 + 1))] rfl (by (try simp only [List.map_toArray, List.map_cons, List.map_nil]); first | done | rfl | (simp only [List.length_drop, List.length_take]; rfl)) ?_; (with_reducible refine (impl_Warning_27.calls (fun k_ => some k_ = (.slice (some ⟨go15, 0, none⟩) x4_1.length co18 : Value).ownBlock) (.slice (some ⟨go15, 0, none⟩) x4_1.length co18) y128 t121 (wrap64 (t121 + 1)) t129 w _ ?side1 ?side2 A17.out).mono ?_); (case side1 => repeat (first | (with_reducible first | exact HB.out | apply below_alloc | apply pw_below_drewN | apply below_drew1) | exact HB.out)); (case side2 => exact Kd.R_tight rfl HO_4.out); rintro e w24 ⟨v130, rfl, ho0, hb, hkp⟩; refine ⟨_, rfl, ?_⟩; have n0_ := Aside0.mk (Kd.R_mono (ok' := fun k_ => True) ho0 (fun k_ hk_ => trivial)); have n1_ := Aside0.mk (hb); clear HB; clear HO_4; have HO131 := n0_; have HB := n1_; clear n0_ n1_; (try clear hb); (try clear hkp); (try clear ho0)))
         go_roundg k1
         case measure => have := HK1.out; omega
         case rel => exact ⟨(t129), H', ⟨by have := HK1.out; omega⟩, ⟨by (with_reducible repeat (first | apply Kd.R_alloc | apply Kd.R_drewN | apply Kd.R_drew)); exact HO131.out⟩, ⟨by repeat (first | (with_reducible first | exact HB.out | apply below_alloc | apply pw_below_drewN | apply below_drew1) | exact HB.out)⟩⟩
        ·
         rw [if_neg c12] at H
         exact absurd H (by simp)
       ·
        rw [if_neg c11] at H
        exact absurd H (by simp)
      ·
       rw [if_neg c10] at H
       exact absurd H (by simp)
     ·
      rw [if_neg c9] at H
      exact absurd H (by simp)
    ·
     replace c8 := Bool.eq_false_iff.mpr c8
     subst c8
     have H1 : (some (x4_1, true)) = some (r1, r2) := by rw [if_neg (show ¬ (false = true) by decide)] at H; exact H
     clear H
     have H := H1
     clear H1
     simp only [Option.some.injEq, Prod.mk.injEq] at H
     obtain ⟨rfl, rfl⟩ := H
     obtain ⟨Ao25, co25, eo25⟩ := Kd.R_slice HO_4.out
     subst eo25
     go_wp2_with (first | ((with_reducible refine gate_callee (f := 26) rfl ?_); refine goesL_ (some 15) rfl rfl Try.func26 (by kernel_rfl) rfl #[.slice Ao25 x4_1.length co25] rfl (by (try simp only [List.map_toArray, List.map_cons, List.map_nil]); first | done | rfl | (simp only [List.length_drop, List.length_take]; rfl)) ?_; (with_reducible refine (impl_firstJoint.calls k1 _ _ x4_1 t120 t121 false _ ?side1 ?side2 A7.out).mono ?_); (case side1 => repeat (first | exact (Kd.R_reads' HO_4.out).2.2 | (with_reducible refine Kd.C_alloc ?_ _) | (with_reducible refine Kd.C_drewN ?_ _) | (with_reducible refine Kd.C_drew ?_))); (case side2 => exact (Kd.R_reads' HO_4.out).2.1); rintro e w26 ⟨rfl, hb⟩; refine ⟨_, rfl, ?_⟩; have n0_ := Aside0.mk (Kd.R_below (by (with_reducible repeat (first | apply Kd.R_alloc | apply Kd.R_drewN | apply Kd.R_drew)); exact HO_4.out) hb); have n1_ := Aside0.mk (below_step (by repeat (first | (with_reducible first | exact HB.out | apply below_alloc | apply pw_below_drewN | apply below_drew1) | exact HB.out)) hb); clear HO_4; clear HB; have HO_4 := n0_; have HB := n1_; clear n0_ n1_; (try clear hb); (try clear hb2); (try clear hk); (try clear hi)))
     go_ret2
     exact ⟨_, by first | rfl | (simp [errW_none, errW_some] <;> rfl) | (simp [*, errW_none, errW_some] <;> rfl), by (with_reducible repeat (first | apply Kd.R_alloc | apply Kd.R_drewN | apply Kd.R_drew)); exact HO_4.out, by repeat (first | (with_reducible first | exact HB.out | apply below_alloc | apply pw_below_drewN | apply below_drew1) | exact HB.out)⟩
 ·
  replace c3 := Bool.eq_false_iff.mpr c3
  subst c3
  have H1 : (some (([] : List (S37)), false)) = some (r1, r2) := by rw [if_neg (show ¬ (false = true) by decide)] at H; exact H
  clear H
  have H := H1
  clear H1
  simp only [Option.some.injEq, Prod.mk.injEq] at H
  obtain ⟨rfl, rfl⟩ := H
  go_enter Try.func6, Try.ntmps6
  go_wp2_with (first | ((with_reducible refine gate_callee (f := 9) rfl ?_); refine goesL_ (some 9) rfl rfl Try.func9 (by kernel_rfl) rfl #[.slice A0 l0.length c0] rfl (by (try simp only [List.map_toArray, List.map_cons, List.map_nil]); first | done | rfl | (simp only [List.length_drop, List.length_take]; rfl)) ?_; (with_reducible refine (impl_IsConsistent.calls k _ _ l0 false _ ?side1 ?side2 A2.out).mono ?_); (case side1 => repeat (first | exact HR0.out | (with_reducible refine Kd.C_alloc ?_ _) | (with_reducible refine Kd.C_drewN ?_ _) | (with_reducible refine Kd.C_drew ?_))); (case side2 => exact HC0.out); rintro e w27 ⟨rfl, hb⟩; refine ⟨_, rfl, ?_⟩; have n0_ := Aside0.mk (below_step (by repeat (first | (with_reducible first | exact HB.out | apply below_alloc | apply pw_below_drewN | apply below_drew1) | exact HB.out)) hb); clear HB; have HB := n0_; clear n0_; (try clear hb); (try clear hb2); (try clear hk); (try clear hi)))
  go_ret2
  exact ⟨_, by first | rfl | (simp [errW_none, errW_some] <;> rfl) | (simp [*, errW_none, errW_some] <;> rfl), by first | exact Kd.R_nil _ _ _ _ _ | exact Kd.N_nil _ _ _ _ _ | exact Kd.V_nil _ _ _ _ _ | exact Kd.Q_nil _ _ _ _ _ | exact Kd.S_nil _ _ _ _ _, by repeat (first | (with_reducible first | exact HB.out | apply below_alloc | apply pw_below_drewN | apply below_drew1) | exact HB.out)⟩

end Go.Proofs.Ytfemneoahkglmaa.Q
