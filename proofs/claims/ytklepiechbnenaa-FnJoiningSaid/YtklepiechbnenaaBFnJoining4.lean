/- Texts of this seat, put together: Qf76, Qf43, Qf60. -/
import Derived.Test.YtklepiechbnenaaZFnJoining
import Derived.Test.YtklepiechbnenaaBFnJoining0
import Derived.Test.YtklepiechbnenaaBFnJoining1
import Derived.Test.YtklepiechbnenaaBFnJoining3
namespace Go.Proofs.Ytklepiechbnenaa.Q
open Go.RowKit Go.Proofs.YtklepiechbnenaaW.PrintWords Go.Proofs.YtklepiechbnenaaW.PrintLast Go.Proofs.YtklepiechbnenaaW.PrintMore
attribute [local go_sem] max2_int min2_int max_two min_two max_three min_three max_four min_four   -- for this text's walks alone
set_option linter.unusedVariables false
set_option linter.unusedSimpArgs false

/-! ### spec_l1Cur_touching: function 76 -/
mutual
def spec_l1Cur_touching.j0 : Nat → List (S31) → Int → Bool → List Int → Int → Int → Option ((List (S31)) × Int × Int)
 | 0, _, _, _, _, _, _ => none
 | k + 1, x3, x4, x20, x1000, x1001, x1002 => if x20 = true then ((spec_l1Cur_pick.f x1000 x1001 x1002 x4).bind fun bt495 => (if 0 ≤ bt495.1 then (if bt495.1 < (x3.length : Int) then (if 0 ≤ (wrap64 (x4 - 1)) then (if (wrap64 (x4 - 1)) < (x3.length : Int) then (spec_l1Cur_touching.j1 k x3 x1000 bt495.2.1 bt495.2.2 (wrap64 (((rd_T31 x3 (wrap64 (x4 - 1))).f0) + 1)) ((rd_T31 x3 bt495.1).f1) ((rd_T31 x3 bt495.1).f2) ((rd_T31 x3 bt495.1).f3) ((rd_T31 x3 bt495.1).f5) ((rd_T31 x3 bt495.1).f5)) else (none)) else (none)) else (none)) else (none))) else (some (x3, x1001, x1002))
def spec_l1Cur_touching.j1 : Nat → List (S31) → List Int → Int → Int → Int → Int → Int → Int → Int → Int → Option ((List (S31)) × Int × Int)
 | 0, _, _, _, _, _, _, _, _, _, _ => none
 | k + 1, x3, x1000, x1001, x1002, x500000, x500001, x500002, x500003, x500004, x500005 => (spec_l1Cur_pick.f x1000 x1001 x1002 4).bind fun bt501 => ((some (([] : List (S31)) : List (S31))).bind fun y504 => (if y504.length + x3.length < 2932031007402 then ((some (y504 ++ x3 : List (S31))).bind fun y507 => ((some (([(⟨x500000, x500001, x500002, x500003, x500004, wrap64 ((wrap64 (x500005 + 1)) + bt501.1)⟩ : S31)] : List (S31)) : List (S31))).bind fun y510 => (if y507.length + y510.length < 2932031007402 then ((some (y507 ++ y510 : List (S31))).bind fun y513 => ((spec_l14List.f k y513).bind fun t516 => (spec_l1Cur_touching.j2 k x3 y513 t516 x1000 bt501.2.1 bt501.2.2))) else (none)))) else (none)))
def spec_l1Cur_touching.j2 : Nat → List (S31) → List (S31) → Bool → List Int → Int → Int → Option ((List (S31)) × Int × Int)
 | 0, _, _, _, _, _, _ => none
 | k + 1, x3, x6, x52, x1000, x1001, x1002 => if x52 = true then (some (x6, x1001, x1002)) else (some (x3, x1001, x1002))
end
def spec_l1Cur_touching.f (k : Nat) (s0_0 : List Int) (s0_1 : Int) (s0_2 : Int) : Option ((List (S31)) × Int × Int) := (spec_l1Cur_warnings.f k s0_0 s0_1 s0_2).bind fun bt486 => (if (bt486.1.length : Int) > 0 then ((spec_l14List.f k bt486.1).bind fun t491 => (if t491 = true then ((spec_l1Cur_one.f s0_0 bt486.2.1 bt486.2.2 2).bind fun bt492 => (spec_l1Cur_touching.j0 k bt486.1 (bt486.1.length : Int) bt492.1 s0_0 bt492.2.1 bt492.2.2)) else (spec_l1Cur_touching.j0 k bt486.1 (bt486.1.length : Int) false s0_0 bt486.2.1 bt486.2.2))) else (spec_l1Cur_touching.j0 k bt486.1 (bt486.1.length : Int) false s0_0 bt486.2.1 bt486.2.2))
theorem spec_l1Cur_touching.mono_l : ∀ k, (∀ y0 y1 y2 y3 y4 y5, LeO (spec_l1Cur_touching.j0 k y0 y1 y2 y3 y4 y5) (spec_l1Cur_touching.j0 (k + 1) y0 y1 y2 y3 y4 y5)) ∧ (∀ y0 y1 y2 y3 y4 y5 y6 y7 y8 y9, LeO (spec_l1Cur_touching.j1 k y0 y1 y2 y3 y4 y5 y6 y7 y8 y9) (spec_l1Cur_touching.j1 (k + 1) y0 y1 y2 y3 y4 y5 y6 y7 y8 y9)) ∧ (∀ y0 y1 y2 y3 y4 y5, LeO (spec_l1Cur_touching.j2 k y0 y1 y2 y3 y4 y5) (spec_l1Cur_touching.j2 (k + 1) y0 y1 y2 y3 y4 y5))
 | 0 => ⟨fun _ _ _ _ _ _ r h => by simp [spec_l1Cur_touching.j0] at h, fun _ _ _ _ _ _ _ _ _ _ r h => by simp [spec_l1Cur_touching.j1] at h, fun _ _ _ _ _ _ r h => by simp [spec_l1Cur_touching.j2] at h⟩
 | k + 1 => by
  obtain ⟨ih0, ih1, ih2⟩ := spec_l1Cur_touching.mono_l k
  refine ⟨?_, ?_, ?_⟩
  ·
   intro y0 y1 y2 y3 y4 y5
   unfold spec_l1Cur_touching.j0
   repeat' first
   | (with_reducible exact ih0 _ _ _ _ _ _)
   | (with_reducible exact ih1 _ _ _ _ _ _ _ _ _ _)
   | (with_reducible exact ih2 _ _ _ _ _ _)
   | (with_reducible exact spec_l14List.mono _ _)
   | (with_reducible exact spec_l1Cur_warnings.mono _ _ _ _)
   | (with_reducible exact LeO.refl _)
   | (with_reducible exact LeO.none _)
   | (with_reducible refine LeO.ite ?_ ?_)
   | (with_reducible refine LeO.bind ?_ (fun _ => ?_))
   | exact ih0 _ _ _ _ _ _
   | exact ih1 _ _ _ _ _ _ _ _ _ _
   | exact ih2 _ _ _ _ _ _
   | exact spec_l14List.mono _ _
   | exact spec_l1Cur_warnings.mono _ _ _ _
   | exact LeO.none _
   | refine LeO.ite ?_ ?_
   | refine LeO.bind ?_ (fun _ => ?_)
  ·
   intro y0 y1 y2 y3 y4 y5 y6 y7 y8 y9
   unfold spec_l1Cur_touching.j1
   repeat' first
   | (with_reducible exact ih0 _ _ _ _ _ _)
   | (with_reducible exact ih1 _ _ _ _ _ _ _ _ _ _)
   | (with_reducible exact ih2 _ _ _ _ _ _)
   | (with_reducible exact spec_l14List.mono _ _)
   | (with_reducible exact spec_l1Cur_warnings.mono _ _ _ _)
   | (with_reducible exact LeO.refl _)
   | (with_reducible exact LeO.none _)
   | (with_reducible refine LeO.ite ?_ ?_)
   | (with_reducible refine LeO.bind ?_ (fun _ => ?_))
   | exact ih0 _ _ _ _ _ _
   | exact ih1 _ _ _ _ _ _ _ _ _ _
   | exact ih2 _ _ _ _ _ _
   | exact spec_l14List.mono _ _
   | exact spec_l1Cur_warnings.mono _ _ _ _
   | exact LeO.none _
   | refine LeO.ite ?_ ?_
   | refine LeO.bind ?_ (fun _ => ?_)
  ·
   intro y0 y1 y2 y3 y4 y5
   unfold spec_l1Cur_touching.j2
   repeat' first
   | (with_reducible exact ih0 _ _ _ _ _ _)
   | (with_reducible exact ih1 _ _ _ _ _ _ _ _ _ _)
   | (with_reducible exact ih2 _ _ _ _ _ _)
   | (with_reducible exact spec_l14List.mono _ _)
   | (with_reducible exact spec_l1Cur_warnings.mono _ _ _ _)
   | (with_reducible exact LeO.refl _)
   | (with_reducible exact LeO.none _)
   | (with_reducible refine LeO.ite ?_ ?_)
   | (with_reducible refine LeO.bind ?_ (fun _ => ?_))
   | exact ih0 _ _ _ _ _ _
   | exact ih1 _ _ _ _ _ _ _ _ _ _
   | exact ih2 _ _ _ _ _ _
   | exact spec_l14List.mono _ _
   | exact spec_l1Cur_warnings.mono _ _ _ _
   | exact LeO.none _
   | refine LeO.ite ?_ ?_
   | refine LeO.bind ?_ (fun _ => ?_)
theorem spec_l1Cur_touching.mono : ∀ a0 a1 a2 k, LeO (spec_l1Cur_touching.f k a0 a1 a2) (spec_l1Cur_touching.f (k + 1) a0 a1 a2) := by
 intro a0 a1 a2 k
 obtain ⟨ih0, ih1, ih2⟩ := spec_l1Cur_touching.mono_l k
 unfold spec_l1Cur_touching.f
 repeat' first
   | (with_reducible exact ih0 _ _ _ _ _ _)
   | (with_reducible exact ih1 _ _ _ _ _ _ _ _ _ _)
   | (with_reducible exact ih2 _ _ _ _ _ _)
   | (with_reducible exact spec_l14List.mono _ _)
   | (with_reducible exact spec_l1Cur_warnings.mono _ _ _ _)
   | (with_reducible exact LeO.refl _)
   | (with_reducible exact LeO.none _)
   | (with_reducible refine LeO.ite ?_ ?_)
   | (with_reducible refine LeO.bind ?_ (fun _ => ?_))
   | exact ih0 _ _ _ _ _ _
   | exact ih1 _ _ _ _ _ _ _ _ _ _
   | exact ih2 _ _ _ _ _ _
   | exact spec_l14List.mono _ _
   | exact spec_l1Cur_warnings.mono _ _ _ _
   | exact LeO.none _
   | refine LeO.ite ?_ ?_
   | refine LeO.bind ?_ (fun _ => ?_)
def spec_l1Cur_touching.T7 : Bool × List (List Nat × List Nat) := (true, [([], []), ([0], [0]), ([1], [1]), ([], []), ([3], [3]), ([2, 4], [2, 4]), ([0, 1, 2, 3, 4, 5], []), ([6, 5, 4, 0, 1, 2, 3, 4, 5], [5, 6])])
def spec_l1Cur_touching.B7 : List Nat := [0, 1, 3, 0, 8, 31, 63, 127]
theorem spec_l1Cur_touching.tab7 : rtab .any (opsOf Try.f76 7) = spec_l1Cur_touching.T7 := by kernel_rfl
theorem spec_l1Cur_touching.bits7 : waitsOk spec_l1Cur_touching.T7.2 spec_l1Cur_touching.B7 = true := by kernel_rfl
set_option maxHeartbeats 8000000 in
set_option maxRecDepth 100000 in
theorem spec_l1Cur_touching.calls (k : Nat) (g : Nat) (s0_0 : List Int) (s0_1 : Int) (s0_2 : Int) (r1 : List (S31)) (r2 : Int) (r3 : Int) (w0 w : World) (hI : IsS72 w0 w g s0_0 s0_1 s0_2) (hB : Below w0.heap.size w0 w) (h : spec_l1Cur_touching.f k s0_0 s0_1 s0_2 = some (r1, r2, r3)) :
  Calls Try.prog 76 #[.pointer (some ⟨g, 0, none⟩)] w fun e w' => ∃ v0_ : Value, e = .returned (v0_) ∧ Kd.R k31 31 w' w.heap.size (fun _ => True) v0_ r1 ∧ IsS72 w0 w' g s0_0 r2 r3 ∧ Below w0.heap.size w0 w' ∧ KeepBut w w' g none := by
 have hu31 := Try.underlying31
 have HI0 := Aside0.mk hI
 have HK := Aside0.mk (KeepBut.refl w g none)
 have HL := Aside0.mk hB.size
 clear hI
 have HW0 := Aside0.mk hB.size
 have HB := Aside0.mk hB
 clear hB
 have H : ((spec_l1Cur_warnings.f k s0_0 s0_1 s0_2).bind fun bt486 => (if (bt486.1.length : Int) > 0 then ((spec_l14List.f k bt486.1).bind fun t491 => (if t491 = true then ((spec_l1Cur_one.f s0_0 bt486.2.1 bt486.2.2 2).bind fun bt492 => (spec_l1Cur_touching.j0 k bt486.1 (bt486.1.length : Int) bt492.1 s0_0 bt492.2.1 bt492.2.2)) else (spec_l1Cur_touching.j0 k bt486.1 (bt486.1.length : Int) false s0_0 bt486.2.1 bt486.2.2))) else (spec_l1Cur_touching.j0 k bt486.1 (bt486.1.length : Int) false s0_0 bt486.2.1 bt486.2.2))) = some (r1, r2, r3) := h
 clear h
 replace H := Option.bind_eq_some_iff.mp H
 obtain ⟨⟨t486, t489, t490⟩, A20, H⟩ := H
 replace H : (if (t486.length : Int) > 0 then ((spec_l14List.f k t486).bind fun t491 => (if t491 = true then ((spec_l1Cur_one.f s0_0 t489 t490 2).bind fun bt492 => (spec_l1Cur_touching.j0 k t486 (t486.length : Int) bt492.1 s0_0 bt492.2.1 bt492.2.2)) else (spec_l1Cur_touching.j0 k t486 (t486.length : Int) false s0_0 t489 t490))) else (spec_l1Cur_touching.j0 k t486 (t486.length : Int) false s0_0 t489 t490)) = some (r1, r2, r3) := H
 have A2 := Aside0.mk A20
 clear A20
 have HC3 := Aside0.mk H
 clear H
 go_enter Try.func76, Try.ntmps76
 go_upto_region 3 with (first | ((with_reducible refine gate_callee (f := 54) rfl ?_); refine goesL_ (some 8) rfl rfl Try.func54 (by kernel_rfl) rfl #[.pointer (some ⟨g, 0, none⟩)] rfl zq1 ?_; (with_reducible refine (spec_l1Cur_warnings.calls k g s0_0 s0_1 s0_2 t486 t489 t490 w0 _ ?side1 ?side2 A2.out).mono ?_); (case side1 => exact zq4); (case side2 => exact zq3); rintro e w4 ⟨v487, rfl, ho0, hi, hb, hk⟩; refine ⟨_, rfl, ?_⟩; have n0_ := Aside0.mk (Kd.R_lower ho0 (keep_size (w := w) (g := g) (row := none) zq2)); have n1_ := Aside0.mk (KeepBut.trans zq2 hk (.inl rfl)); have n2_ := Aside0.mk (hb); have n3_ := Aside0.mk (hi); clear HK; clear HB; clear HI0; have HO488 := n0_; have HK := n1_; have HB := n2_; have HI0 := n3_; clear n0_ n1_ n2_ n3_; (try clear hb); (try clear hb2); (try clear hk); (try clear hi); (try clear ho0); obtain ⟨Ao5, co5, eo5⟩ := Kd.R_slice HO488.out; subst eo5))
 (try simp only [Act.put, List.setIfInBounds_toArray, List.set_cons_zero, List.set_cons_succ])
 go_cut [20] (fun v20 wc => ∃ (kq : Nat) (x20_2 : Bool) (x1001_2 : Int) (x1002_2 : Int), v20 = .bool x20_2 ∧ Aside0 (spec_l1Cur_touching.j0 kq t486 (t486.length : Int) x20_2 s0_0 x1001_2 x1002_2 = some (r1, r2, r3)) ∧ Aside0 (kq ≤ k) ∧ Aside0 (Kd.R k31 31 wc w.heap.size (fun _ => True) (.slice Ao5 t486.length co5) t486) ∧ Aside0 (IsS72 w0 wc g s0_0 x1001_2 x1002_2) ∧ Aside0 (KeepBut w wc g none) ∧ Aside0 (Below w0.heap.size w0 wc))
 case first =>
  have H := HC3.out
  clear HC3
  by_cases c6 : (t486.length : Int) > 0
  case neg =>
   rw [if_neg c6] at H
   have c6b0 : decide (0 < (t486.length : Int)) = false := decide_eq_false c6
   have c6b1 : decide (0 < t486.length) = false := decide_eq_false (by omega)
   clear c6
   (first | rw [c6b0] | (simp only [i64_w, i32_w]; rw [c6b0]) | rw [c6b1] | skip)
   have H' := Aside0.mk H
   clear H
   go_wp2
   go_meet
   case rel => exact ⟨_, (false), (t489), (t490), (by first | rfl | (simp; done) | (simp [*]; done)), H', ⟨by first | omega | exact Nat.le_refl _⟩, ⟨zqR HO488.out⟩, ⟨zq4⟩, ⟨zq2⟩, ⟨zq3⟩⟩
  rw [if_pos c6] at H
  have c6b0 : decide (0 < (t486.length : Int)) = true := decide_eq_true c6
  have c6b1 : decide (0 < t486.length) = true := decide_eq_true (by omega)
  clear c6
  (first | rw [c6b0] | (simp only [i64_w, i32_w]; rw [c6b0]) | rw [c6b1] | skip)
  replace H := Option.bind_eq_some_iff.mp H
  obtain ⟨t491, A70, H⟩ := H
  replace H : (if t491 = true then ((spec_l1Cur_one.f s0_0 t489 t490 2).bind fun bt492 => (spec_l1Cur_touching.j0 k t486 (t486.length : Int) bt492.1 s0_0 bt492.2.1 bt492.2.2)) else (spec_l1Cur_touching.j0 k t486 (t486.length : Int) false s0_0 t489 t490)) = some (r1, r2, r3) := H
  have A7 := Aside0.mk A70
  clear A70
  by_cases c8 : t491 = true
  case neg =>
   replace c8 := Bool.eq_false_iff.mpr c8
   subst c8
   have H1 : (spec_l1Cur_touching.j0 k t486 (t486.length : Int) false s0_0 t489 t490) = some (r1, r2, r3) := by rw [if_neg (show ¬ (false = true) by decide)] at H; exact H
   clear H
   have H := H1
   clear H1
   have H' := Aside0.mk H
   clear H
   go_wp2_with (first | (go_at_call 63; (with_reducible refine (spec_l14List.calls k _ _ t486 false _ ?side1 ?side2 A7.out).mono ?_); (case side1 => exact zqC (Kd.R_reads' HO488.out).2.2); (case side2 => exact (Kd.R_reads' HO488.out).2.1); rintro e w12 ⟨rfl, hb⟩; have n0_ := Aside0.mk (Kd.R_below (zqR HO488.out) hb); have n1_ := Aside0.mk (IsS72.below zq4 hb); have n2_ := Aside0.mk (KeepBut.trans zq2 (KeepBut.of_below hb g none) (.inl rfl)); have n3_ := Aside0.mk (below_step zq3 hb); clear HO488; clear HI0; clear HK; clear HB; have HO488 := n0_; have HI0 := n1_; have HK := n2_; have HB := n3_; clear n0_ n1_ n2_ n3_; (try clear hb); (try clear hb2); (try clear hk); (try clear hi)))
   go_meet
   case rel => exact ⟨_, (false), (t489), (t490), (by first | rfl | (simp; done) | (simp [*]; done)), H', ⟨by first | omega | exact Nat.le_refl _⟩, ⟨zqR HO488.out⟩, ⟨zq4⟩, ⟨zq2⟩, ⟨zq3⟩⟩
  subst c8
  have H1 : ((spec_l1Cur_one.f s0_0 t489 t490 2).bind fun bt492 => (spec_l1Cur_touching.j0 k t486 (t486.length : Int) bt492.1 s0_0 bt492.2.1 bt492.2.2)) = some (r1, r2, r3) := by rw [if_pos rfl] at H; exact H
  clear H
  have H := H1
  clear H1
  replace H := Option.bind_eq_some_iff.mp H
  obtain ⟨⟨t492, t493, t494⟩, A90, H⟩ := H
  replace H : (spec_l1Cur_touching.j0 k t486 (t486.length : Int) t492 s0_0 t493 t494) = some (r1, r2, r3) := H
  have A9 := Aside0.mk A90
  clear A90
  have H' := Aside0.mk H
  clear H
  go_wp2_with (first | (go_at_call 63; (with_reducible refine (spec_l14List.calls k _ _ t486 true _ ?side1 ?side2 A7.out).mono ?_); (case side1 => exact zqC (Kd.R_reads' HO488.out).2.2); (case side2 => exact (Kd.R_reads' HO488.out).2.1); rintro e w10 ⟨rfl, hb⟩; have n0_ := Aside0.mk (Kd.R_below (zqR HO488.out) hb); have n1_ := Aside0.mk (IsS72.below zq4 hb); have n2_ := Aside0.mk (KeepBut.trans zq2 (KeepBut.of_below hb g none) (.inl rfl)); have n3_ := Aside0.mk (below_step zq3 hb); clear HO488; clear HI0; clear HK; clear HB; have HO488 := n0_; have HI0 := n1_; have HK := n2_; have HB := n3_; clear n0_ n1_ n2_ n3_; (try clear hb); (try clear hb2); (try clear hk); (try clear hi)) | (go_at_call 99; (with_reducible refine (spec_l1Cur_one.calls g s0_0 t489 t490 2 t492 t493 t494 w0 _ ?side1 ?side2 A9.out).mono ?_); (case side1 => exact zq4); (case side2 => exact zq3); rintro e w11 ⟨rfl, hi, hb, hk⟩; have n0_ := Aside0.mk (Kd.R_mono (Kd.R_keep (IsS72.apart (show IsS72 w0 _ g s0_0 t489 t490 from by repeat (first | (with_reducible first | exact HI0.out | apply IsS72.alloc | apply IsS72.drewN | apply IsS72.drew | apply IsS72.set_1 | apply IsS72.set_2) | exact HI0.out)) (zqR HO488.out) (by decide)) hk (fun _ h => h.2)) (fun _ h => h.1)); have n1_ := Aside0.mk (KeepBut.trans zq2 hk (.inl rfl)); have n2_ := Aside0.mk (hb); have n3_ := Aside0.mk (hi); clear HO488; clear HK; clear HB; clear HI0; have HO488 := n0_; have HK := n1_; have HB := n2_; have HI0 := n3_; clear n0_ n1_ n2_ n3_; (try clear hb); (try clear hb2); (try clear hk); (try clear hi)))
  go_meet
  case rel => exact ⟨_, (t492), (t493), (t494), (by first | rfl | (simp; done) | (simp [*]; done)), H', ⟨by first | omega | exact Nat.le_refl _⟩, ⟨zqR HO488.out⟩, ⟨zq4⟩, ⟨zq2⟩, ⟨zq3⟩⟩
 clear HC3
 try clear p2
 try clear c5
 try clear c6
 try clear c6b0
 try clear c6b1
 try clear c7
 try clear c8
 obtain ⟨kq, x20_2, x1001_2, x1002_2, rfl, HA, HJ2, HO_3, HI0, HK, HB⟩ := hcut
 cases kq with
 | zero => exact absurd HA.out (by simp [spec_l1Cur_touching.j0])
 | succ kj2 =>
  have H := HA.out
  clear HA
  simp only [spec_l1Cur_touching.j0] at H
  by_cases c13 : x20_2 = true
  case neg =>
   replace c13 := Bool.eq_false_iff.mpr c13
   subst c13
   have H1 : (some (t486, x1001_2, x1002_2)) = some (r1, r2, r3) := by rw [if_neg (show ¬ (false = true) by decide)] at H; exact H
   clear H
   have H := H1
   clear H1
   simp only [Option.some.injEq, Prod.mk.injEq] at H
   obtain ⟨rfl, rfl, rfl⟩ := H
   go_wp2
   go_ret
   exact ⟨_, by first | rfl | (simp [errW_none, errW_some] <;> rfl) | (simp [*, errW_none, errW_some] <;> rfl), zqR HO_3.out, zq4, zq3, zq2⟩
  subst c13
  have H1 : ((spec_l1Cur_pick.f s0_0 x1001_2 x1002_2 (t486.length : Int)).bind fun bt495 => (if 0 ≤ bt495.1 then (if bt495.1 < (t486.length : Int) then (if 0 ≤ (wrap64 ((t486.length : Int) - 1)) then (if (wrap64 ((t486.length : Int) - 1)) < (t486.length : Int) then (spec_l1Cur_touching.j1 kj2 t486 s0_0 bt495.2.1 bt495.2.2 (wrap64 (((rd_T31 t486 (wrap64 ((t486.length : Int) - 1))).f0) + 1)) ((rd_T31 t486 bt495.1).f1) ((rd_T31 t486 bt495.1).f2) ((rd_T31 t486 bt495.1).f3) ((rd_T31 t486 bt495.1).f5) ((rd_T31 t486 bt495.1).f5)) else (none)) else (none)) else (none)) else (none))) = some (r1, r2, r3) := by rw [if_pos rfl] at H; exact H
  clear H
  have H := H1
  clear H1
  replace H := Option.bind_eq_some_iff.mp H
  obtain ⟨⟨t495, t496, t497⟩, A140, H⟩ := H
  replace H : (if 0 ≤ t495 then (if t495 < (t486.length : Int) then (if 0 ≤ (wrap64 ((t486.length : Int) - 1)) then (if (wrap64 ((t486.length : Int) - 1)) < (t486.length : Int) then (spec_l1Cur_touching.j1 kj2 t486 s0_0 t496 t497 (wrap64 (((rd_T31 t486 (wrap64 ((t486.length : Int) - 1))).f0) + 1)) ((rd_T31 t486 t495).f1) ((rd_T31 t486 t495).f2) ((rd_T31 t486 t495).f3) ((rd_T31 t486 t495).f5) ((rd_T31 t486 t495).f5)) else (none)) else (none)) else (none)) else (none)) = some (r1, r2, r3) := H
  have A14 := Aside0.mk A140
  clear A140
  by_cases c15 : 0 ≤ t495
  case neg =>
   rw [if_neg c15] at H
   exact absurd H (by simp)
  rw [if_pos c15] at H
  have c15b0 : decide (0 ≤ t495) = true := decide_eq_true c15
  clear c15
  by_cases c16 : t495 < (t486.length : Int)
  case neg =>
   rw [if_neg c16] at H
   exact absurd H (by simp)
  rw [if_pos c16] at H
  have c16b0 : decide (t495 < (t486.length : Int)) = true := decide_eq_true c16
  clear c16
  obtain ⟨ji17, hji17⟩ : ∃ j_ : Int, (wrap64 ((t486.length : Int) - 1)) = j_ := ⟨_, rfl⟩
  replace H : (if 0 ≤ (ji17) then (if (ji17) < (t486.length : Int) then (spec_l1Cur_touching.j1 kj2 t486 s0_0 t496 t497 (wrap64 (((rd_T31 t486 (ji17)).f0) + 1)) ((rd_T31 t486 t495).f1) ((rd_T31 t486 t495).f2) ((rd_T31 t486 t495).f3) ((rd_T31 t486 t495).f5) ((rd_T31 t486 t495).f5)) else (none)) else (none)) = some (r1, r2, r3) := by first | (rw [hji17] at H; exact H) | (simp only [hji17] at H ⊢; exact H)
  (try rw [hji17] at A14)
  have hji17w : (IntKind.i64.wrap ((t486.length : Int) - 1)) = ji17 := (i64_w _).trans hji17
  by_cases c18 : 0 ≤ (ji17)
  case neg =>
   rw [if_neg c18] at H
   exact absurd H (by simp)
  rw [if_pos c18] at H
  have c18b0 : decide (0 ≤ (ji17)) = true := decide_eq_true c18
  clear c18
  by_cases c19 : (ji17) < (t486.length : Int)
  case neg =>
   rw [if_neg c19] at H
   exact absurd H (by simp)
  rw [if_pos c19] at H
  have c19b0 : decide ((ji17) < (t486.length : Int)) = true := decide_eq_true c19
  clear c19
  have HC20 := Aside0.mk H
  clear H
  go_upto_region 6 with (first | ((with_reducible refine gate_callee (f := 56) rfl ?_); refine goesL_ (some 24) rfl rfl Try.func56 (by kernel_rfl) rfl #[.pointer (some ⟨g, 0, none⟩), .int .i64 (t486.length : Int)] rfl zq1 ?_; (with_reducible refine (spec_l1Cur_pick.calls g s0_0 x1001_2 x1002_2 (t486.length : Int) t495 t496 t497 w0 _ ?side1 ?side2 A14.out).mono ?_); (case side1 => exact zq4); (case side2 => exact zq3); rintro e w21 ⟨rfl, hi, hb, hk⟩; refine ⟨_, rfl, ?_⟩; have n0_ := Aside0.mk (Kd.R_mono (Kd.R_keep (IsS72.apart (show IsS72 w0 _ g s0_0 x1001_2 x1002_2 from by repeat (first | (with_reducible first | exact HI0.out | apply IsS72.alloc | apply IsS72.drewN | apply IsS72.drew | apply IsS72.set_1 | apply IsS72.set_2) | exact HI0.out)) (zqR HO_3.out) (by decide)) hk (fun _ h => h.2)) (fun _ h => h.1)); have n1_ := Aside0.mk (KeepBut.trans zq2 hk (.inl rfl)); have n2_ := Aside0.mk (hb); have n3_ := Aside0.mk (hi); clear HO_3; clear HK; clear HB; clear HI0; have HO_3 := n0_; have HK := n1_; have HB := n2_; have HI0 := n3_; clear n0_ n1_ n2_ n3_; (try clear hb); (try clear hb2); (try clear hk); (try clear hi); have p498 : 0 ≤ (t495 : Int) := of_decide_eq_true zq5; have q498 : t495 < (t486.length : Int) := of_decide_eq_true zq5; obtain ⟨ad498, e498, hx498_0, hx498_1, hx498_2, hx498_3, hx498_4, hx498_5⟩ := at_T31 (Kd.R_reads' HO_3.out).2.2 t495 p498 q498; cases e498; replace p498 := eq_true p498; replace q498 := eq_true q498) | ((with_reducible refine gate_dst (N := 5) rfl ?_); refine box_event ?hg (N := 5) ?hd (cs := #[.int .i64 0, .int .i64 0, .int .i64 0, .int .i64 0, .int .i64 0, .int .i64 0]) (t := 31) ?hr ?_; (case hd => rfl); (case hg => rfl); (case hr => exact zqS); intro gb499 hg w22 hbox hb; have n0_ := Aside0.mk (Kd.R_below (Kd.R_elderB (zqR HO_3.out) gb499 (Nat.le_of_eq hg.symm)) hb); have n1_ := Aside0.mk (IsS72.below zq4 hb); have n2_ := Aside0.mk (KeepBut.trans zq2 (KeepBut.of_below hb g none) (.inl rfl)); have n3_ := Aside0.mk (below_step zq3 hb); have n4_ := Aside0.mk (hbox); have n5_ := Aside0.mk ((by rw [hg]; exact (keep_size (w := w) (g := g) (row := none) zq2) : w.heap.size ≤ gb499)); have n6_ := Aside0.mk ((Nat.le_trans HW0.out (by rw [hg]; exact (keep_size (w := w) (g := g) (row := none) zq2) : w.heap.size ≤ gb499) : w0.heap.size ≤ gb499)); have n7_ := Aside0.mk ((by rw [hg]; exact Nat.ne_of_lt (IsS72.lt (show IsS72 w0 _ g s0_0 t496 t497 from by repeat (first | (with_reducible first | exact HI0.out | apply IsS72.alloc | apply IsS72.drewN | apply IsS72.drew | apply IsS72.set_1 | apply IsS72.set_2) | exact HI0.out))) : g ≠ gb499)); have n8_ := Aside0.mk ((by rw [hg]; exact Nat.ne_of_gt (IsS72.lt (show IsS72 w0 _ g s0_0 t496 t497 from by repeat (first | (with_reducible first | exact HI0.out | apply IsS72.alloc | apply IsS72.drewN | apply IsS72.drew | apply IsS72.set_1 | apply IsS72.set_2) | exact HI0.out))) : gb499 ≠ g)); clear HO_3; clear HI0; clear HK; clear HB; have HO_3 := n0_; have HI0 := n1_; have HK := n2_; have HB := n3_; have BK499 := n4_; have GW499 := n5_; have GE499 := n6_; have NB0_499 := n7_; have NB499_0 := n8_; clear n0_ n1_ n2_ n3_ n4_ n5_ n6_ n7_ n8_; clear hb hbox hg; have hnb23 := NB499_0.out; have hnc23 := NB0_499.out; obtain ⟨hcz24_0, hcz24_1, hcz24_2, hcz24_3, hcz24_4, hcz24_5, hfz24_0, hfz24_1, hfz24_2, hfz24_3, hfz24_4, hfz24_5⟩ := bz6 BK499.out; have p500 : 0 ≤ ((ji17) : Int) := of_decide_eq_true zq5; have q500 : (ji17) < (t486.length : Int) := of_decide_eq_true zq5; obtain ⟨ad500, e500, hx500_0, hx500_1, hx500_2, hx500_3, hx500_4, hx500_5⟩ := at_T31 (Kd.R_reads' HO_3.out).2.2 (ji17) p500 q500; obtain rfl : ad498 = ad500 := (by injection e500); have hn500_0 : ad498.block ≠ gb499 := Kd.own_blk (Kd.R_away HO_3.out (fun _ hk => hk.2)); have hn500_1 : ad498.block ≠ gb499 := Kd.own_blk (Kd.R_away HO_3.out (fun _ hk => hk.2)); have hn500_2 : ad498.block ≠ gb499 := Kd.own_blk (Kd.R_away HO_3.out (fun _ hk => hk.2)); have hn500_3 : ad498.block ≠ gb499 := Kd.own_blk (Kd.R_away HO_3.out (fun _ hk => hk.2)); have hn500_4 : ad498.block ≠ gb499 := Kd.own_blk (Kd.R_away HO_3.out (fun _ hk => hk.2)); have hn500_5 : ad498.block ≠ gb499 := Kd.own_blk (Kd.R_away HO_3.out (fun _ hk => hk.2)); replace hx500_0 := (cell_far (p := ⟨gb499, 0, none⟩) (by first | (rw [add_block]; exact hn500_0) | (show (Addr.add _ _).block ≠ _; rw [add_block]; exact hn500_0) | exact hn500_0) (.int .i64 ((rd_T31 t486 t495).f0))).trans hx500_0; replace hx500_1 := (cell_far (p := ⟨gb499, 0, none⟩) (by first | (rw [add_block]; exact hn500_0) | (show (Addr.add _ _).block ≠ _; rw [add_block]; exact hn500_0) | exact hn500_0) (.int .i64 ((rd_T31 t486 t495).f0))).trans hx500_1; replace hx500_2 := (cell_far (p := ⟨gb499, 0, none⟩) (by first | (rw [add_block]; exact hn500_0) | (show (Addr.add _ _).block ≠ _; rw [add_block]; exact hn500_0) | exact hn500_0) (.int .i64 ((rd_T31 t486 t495).f0))).trans hx500_2; replace hx500_3 := (cell_far (p := ⟨gb499, 0, none⟩) (by first | (rw [add_block]; exact hn500_0) | (show (Addr.add _ _).block ≠ _; rw [add_block]; exact hn500_0) | exact hn500_0) (.int .i64 ((rd_T31 t486 t495).f0))).trans hx500_3; replace hx500_4 := (cell_far (p := ⟨gb499, 0, none⟩) (by first | (rw [add_block]; exact hn500_0) | (show (Addr.add _ _).block ≠ _; rw [add_block]; exact hn500_0) | exact hn500_0) (.int .i64 ((rd_T31 t486 t495).f0))).trans hx500_4; replace hx500_5 := (cell_far (p := ⟨gb499, 0, none⟩) (by first | (rw [add_block]; exact hn500_0) | (show (Addr.add _ _).block ≠ _; rw [add_block]; exact hn500_0) | exact hn500_0) (.int .i64 ((rd_T31 t486 t495).f0))).trans hx500_5; replace hx500_0 := (cell_far (p := ⟨gb499, 1, none⟩) (by first | (rw [add_block]; exact hn500_1) | (show (Addr.add _ _).block ≠ _; rw [add_block]; exact hn500_1) | exact hn500_1) (.int .i64 ((rd_T31 t486 t495).f1))).trans hx500_0; replace hx500_1 := (cell_far (p := ⟨gb499, 1, none⟩) (by first | (rw [add_block]; exact hn500_1) | (show (Addr.add _ _).block ≠ _; rw [add_block]; exact hn500_1) | exact hn500_1) (.int .i64 ((rd_T31 t486 t495).f1))).trans hx500_1; replace hx500_2 := (cell_far (p := ⟨gb499, 1, none⟩) (by first | (rw [add_block]; exact hn500_1) | (show (Addr.add _ _).block ≠ _; rw [add_block]; exact hn500_1) | exact hn500_1) (.int .i64 ((rd_T31 t486 t495).f1))).trans hx500_2; replace hx500_3 := (cell_far (p := ⟨gb499, 1, none⟩) (by first | (rw [add_block]; exact hn500_1) | (show (Addr.add _ _).block ≠ _; rw [add_block]; exact hn500_1) | exact hn500_1) (.int .i64 ((rd_T31 t486 t495).f1))).trans hx500_3; replace hx500_4 := (cell_far (p := ⟨gb499, 1, none⟩) (by first | (rw [add_block]; exact hn500_1) | (show (Addr.add _ _).block ≠ _; rw [add_block]; exact hn500_1) | exact hn500_1) (.int .i64 ((rd_T31 t486 t495).f1))).trans hx500_4; replace hx500_5 := (cell_far (p := ⟨gb499, 1, none⟩) (by first | (rw [add_block]; exact hn500_1) | (show (Addr.add _ _).block ≠ _; rw [add_block]; exact hn500_1) | exact hn500_1) (.int .i64 ((rd_T31 t486 t495).f1))).trans hx500_5; replace hx500_0 := (cell_far (p := ⟨gb499, 2, none⟩) (by first | (rw [add_block]; exact hn500_2) | (show (Addr.add _ _).block ≠ _; rw [add_block]; exact hn500_2) | exact hn500_2) (.int .i64 ((rd_T31 t486 t495).f2))).trans hx500_0; replace hx500_1 := (cell_far (p := ⟨gb499, 2, none⟩) (by first | (rw [add_block]; exact hn500_2) | (show (Addr.add _ _).block ≠ _; rw [add_block]; exact hn500_2) | exact hn500_2) (.int .i64 ((rd_T31 t486 t495).f2))).trans hx500_1; replace hx500_2 := (cell_far (p := ⟨gb499, 2, none⟩) (by first | (rw [add_block]; exact hn500_2) | (show (Addr.add _ _).block ≠ _; rw [add_block]; exact hn500_2) | exact hn500_2) (.int .i64 ((rd_T31 t486 t495).f2))).trans hx500_2; replace hx500_3 := (cell_far (p := ⟨gb499, 2, none⟩) (by first | (rw [add_block]; exact hn500_2) | (show (Addr.add _ _).block ≠ _; rw [add_block]; exact hn500_2) | exact hn500_2) (.int .i64 ((rd_T31 t486 t495).f2))).trans hx500_3; replace hx500_4 := (cell_far (p := ⟨gb499, 2, none⟩) (by first | (rw [add_block]; exact hn500_2) | (show (Addr.add _ _).block ≠ _; rw [add_block]; exact hn500_2) | exact hn500_2) (.int .i64 ((rd_T31 t486 t495).f2))).trans hx500_4; replace hx500_5 := (cell_far (p := ⟨gb499, 2, none⟩) (by first | (rw [add_block]; exact hn500_2) | (show (Addr.add _ _).block ≠ _; rw [add_block]; exact hn500_2) | exact hn500_2) (.int .i64 ((rd_T31 t486 t495).f2))).trans hx500_5; replace hx500_0 := (cell_far (p := ⟨gb499, 3, none⟩) (by first | (rw [add_block]; exact hn500_3) | (show (Addr.add _ _).block ≠ _; rw [add_block]; exact hn500_3) | exact hn500_3) (.int .i64 ((rd_T31 t486 t495).f3))).trans hx500_0; replace hx500_1 := (cell_far (p := ⟨gb499, 3, none⟩) (by first | (rw [add_block]; exact hn500_3) | (show (Addr.add _ _).block ≠ _; rw [add_block]; exact hn500_3) | exact hn500_3) (.int .i64 ((rd_T31 t486 t495).f3))).trans hx500_1; replace hx500_2 := (cell_far (p := ⟨gb499, 3, none⟩) (by first | (rw [add_block]; exact hn500_3) | (show (Addr.add _ _).block ≠ _; rw [add_block]; exact hn500_3) | exact hn500_3) (.int .i64 ((rd_T31 t486 t495).f3))).trans hx500_2; replace hx500_3 := (cell_far (p := ⟨gb499, 3, none⟩) (by first | (rw [add_block]; exact hn500_3) | (show (Addr.add _ _).block ≠ _; rw [add_block]; exact hn500_3) | exact hn500_3) (.int .i64 ((rd_T31 t486 t495).f3))).trans hx500_3; replace hx500_4 := (cell_far (p := ⟨gb499, 3, none⟩) (by first | (rw [add_block]; exact hn500_3) | (show (Addr.add _ _).block ≠ _; rw [add_block]; exact hn500_3) | exact hn500_3) (.int .i64 ((rd_T31 t486 t495).f3))).trans hx500_4; replace hx500_5 := (cell_far (p := ⟨gb499, 3, none⟩) (by first | (rw [add_block]; exact hn500_3) | (show (Addr.add _ _).block ≠ _; rw [add_block]; exact hn500_3) | exact hn500_3) (.int .i64 ((rd_T31 t486 t495).f3))).trans hx500_5; replace hx500_0 := (cell_far (p := ⟨gb499, 4, none⟩) (by first | (rw [add_block]; exact hn500_4) | (show (Addr.add _ _).block ≠ _; rw [add_block]; exact hn500_4) | exact hn500_4) (.int .i64 ((rd_T31 t486 t495).f4))).trans hx500_0; replace hx500_1 := (cell_far (p := ⟨gb499, 4, none⟩) (by first | (rw [add_block]; exact hn500_4) | (show (Addr.add _ _).block ≠ _; rw [add_block]; exact hn500_4) | exact hn500_4) (.int .i64 ((rd_T31 t486 t495).f4))).trans hx500_1; replace hx500_2 := (cell_far (p := ⟨gb499, 4, none⟩) (by first | (rw [add_block]; exact hn500_4) | (show (Addr.add _ _).block ≠ _; rw [add_block]; exact hn500_4) | exact hn500_4) (.int .i64 ((rd_T31 t486 t495).f4))).trans hx500_2; replace hx500_3 := (cell_far (p := ⟨gb499, 4, none⟩) (by first | (rw [add_block]; exact hn500_4) | (show (Addr.add _ _).block ≠ _; rw [add_block]; exact hn500_4) | exact hn500_4) (.int .i64 ((rd_T31 t486 t495).f4))).trans hx500_3; replace hx500_4 := (cell_far (p := ⟨gb499, 4, none⟩) (by first | (rw [add_block]; exact hn500_4) | (show (Addr.add _ _).block ≠ _; rw [add_block]; exact hn500_4) | exact hn500_4) (.int .i64 ((rd_T31 t486 t495).f4))).trans hx500_4; replace hx500_5 := (cell_far (p := ⟨gb499, 4, none⟩) (by first | (rw [add_block]; exact hn500_4) | (show (Addr.add _ _).block ≠ _; rw [add_block]; exact hn500_4) | exact hn500_4) (.int .i64 ((rd_T31 t486 t495).f4))).trans hx500_5; replace hx500_0 := (cell_far (p := ⟨gb499, 5, none⟩) (by first | (rw [add_block]; exact hn500_5) | (show (Addr.add _ _).block ≠ _; rw [add_block]; exact hn500_5) | exact hn500_5) (.int .i64 ((rd_T31 t486 t495).f5))).trans hx500_0; replace hx500_1 := (cell_far (p := ⟨gb499, 5, none⟩) (by first | (rw [add_block]; exact hn500_5) | (show (Addr.add _ _).block ≠ _; rw [add_block]; exact hn500_5) | exact hn500_5) (.int .i64 ((rd_T31 t486 t495).f5))).trans hx500_1; replace hx500_2 := (cell_far (p := ⟨gb499, 5, none⟩) (by first | (rw [add_block]; exact hn500_5) | (show (Addr.add _ _).block ≠ _; rw [add_block]; exact hn500_5) | exact hn500_5) (.int .i64 ((rd_T31 t486 t495).f5))).trans hx500_2; replace hx500_3 := (cell_far (p := ⟨gb499, 5, none⟩) (by first | (rw [add_block]; exact hn500_5) | (show (Addr.add _ _).block ≠ _; rw [add_block]; exact hn500_5) | exact hn500_5) (.int .i64 ((rd_T31 t486 t495).f5))).trans hx500_3; replace hx500_4 := (cell_far (p := ⟨gb499, 5, none⟩) (by first | (rw [add_block]; exact hn500_5) | (show (Addr.add _ _).block ≠ _; rw [add_block]; exact hn500_5) | exact hn500_5) (.int .i64 ((rd_T31 t486 t495).f5))).trans hx500_4; replace hx500_5 := (cell_far (p := ⟨gb499, 5, none⟩) (by first | (rw [add_block]; exact hn500_5) | (show (Addr.add _ _).block ≠ _; rw [add_block]; exact hn500_5) | exact hn500_5) (.int .i64 ((rd_T31 t486 t495).f5))).trans hx500_5; clear hn500_0; clear hn500_1; clear hn500_2; clear hn500_3; clear hn500_4; clear hn500_5; replace p500 := eq_true p500; replace q500 := eq_true q500))
  (try simp only [Act.put, List.setIfInBounds_toArray, List.set_cons_zero, List.set_cons_succ])
  go_cut [] (fun wc => ∃ (kq : Nat) (x500004_19 : Int), Aside0 (spec_l1Cur_touching.j1 kq t486 s0_0 t496 t497 (wrap64 (((rd_T31 t486 (ji17)).f0) + 1)) ((rd_T31 t486 t495).f1) ((rd_T31 t486 t495).f2) ((rd_T31 t486 t495).f3) x500004_19 ((rd_T31 t486 t495).f5) = some (r1, r2, r3)) ∧ Aside0 (kq ≤ kj2) ∧ Aside0 (Kd.R k31 31 wc w.heap.size (fun k_ => k_ ≠ gb499) (.slice (some ad498) t486.length co5) t486) ∧ Aside0 (wc.heap[gb499]? = some (.cells #[.int .i64 (wrap64 (((rd_T31 t486 (ji17)).f0) + 1)), .int .i64 ((rd_T31 t486 t495).f1), .int .i64 ((rd_T31 t486 t495).f2), .int .i64 ((rd_T31 t486 t495).f3), .int .i64 x500004_19, .int .i64 ((rd_T31 t486 t495).f5)] 31 (0, 0))) ∧ Aside0 (IsS72 w0 wc g s0_0 t496 t497) ∧ Aside0 (KeepBut w wc g none) ∧ Aside0 (Below w0.heap.size w0 wc))
  case first =>
   have H := HC20.out
   clear HC20
   have H' := Aside0.mk H
   clear H
   have hnb25 := NB499_0.out
   have hnc25 := NB0_499.out
   obtain ⟨hcz26_0, hcz26_1, hcz26_2, hcz26_3, hcz26_4, hcz26_5, hfz26_0, hfz26_1, hfz26_2, hfz26_3, hfz26_4, hfz26_5⟩ := bz6 BK499.out
   go_wp2
   go_meet
   case rel => exact ⟨_, ((rd_T31 t486 t495).f5), H', ⟨by have := HJ2.out; first | omega | exact Nat.le_refl _⟩, ⟨by (with_reducible repeat (first | apply Kd.R_alloc | apply Kd.R_drewN | apply Kd.R_drew)); exact Kd.R_mono (Kd.R_far (p := ⟨gb499, 4, none⟩) (Kd.R_far (p := ⟨gb499, 0, none⟩) (Kd.R_far (p := ⟨gb499, 5, none⟩) (Kd.R_far (p := ⟨gb499, 4, none⟩) (Kd.R_far (p := ⟨gb499, 3, none⟩) (Kd.R_far (p := ⟨gb499, 2, none⟩) (Kd.R_far (p := ⟨gb499, 1, none⟩) (Kd.R_far (p := ⟨gb499, 0, none⟩) (Kd.R_mono HO_3.out (fun k_ hk => (⟨hk, hk.2⟩ : _ ∧ k_ ≠ gb499))) (fun _ hk => hk.2) (.int .i64 ((rd_T31 t486 t495).f0))) (fun _ hk => hk.2) (.int .i64 ((rd_T31 t486 t495).f1))) (fun _ hk => hk.2) (.int .i64 ((rd_T31 t486 t495).f2))) (fun _ hk => hk.2) (.int .i64 ((rd_T31 t486 t495).f3))) (fun _ hk => hk.2) (.int .i64 ((rd_T31 t486 t495).f4))) (fun _ hk => hk.2) (.int .i64 ((rd_T31 t486 t495).f5))) (fun _ hk => hk.2) (.int .i64 (wrap64 (((rd_T31 t486 (ji17)).f0) + 1)))) (fun _ hk => hk.2) (.int .i64 ((rd_T31 t486 t495).f5))) (fun _ hk => hk.1.2)⟩, ⟨by (with_reducible repeat (first | refine blk_drewN ?_ _ | refine blk_drew ?_ | refine blk_alloc ?_ _)); refine blk_put (cs := #[.int .i64 (wrap64 (((rd_T31 t486 (ji17)).f0) + 1)), .int .i64 ((rd_T31 t486 t495).f1), .int .i64 ((rd_T31 t486 t495).f2), .int .i64 ((rd_T31 t486 t495).f3), .int .i64 ((rd_T31 t486 t495).f4), .int .i64 ((rd_T31 t486 t495).f5)]) ?_ 4 _ rfl; (with_reducible repeat (first | refine blk_drewN ?_ _ | refine blk_drew ?_ | refine blk_alloc ?_ _)); refine blk_put (cs := #[.int .i64 ((rd_T31 t486 t495).f0), .int .i64 ((rd_T31 t486 t495).f1), .int .i64 ((rd_T31 t486 t495).f2), .int .i64 ((rd_T31 t486 t495).f3), .int .i64 ((rd_T31 t486 t495).f4), .int .i64 ((rd_T31 t486 t495).f5)]) ?_ 0 _ rfl; (with_reducible repeat (first | refine blk_drewN ?_ _ | refine blk_drew ?_ | refine blk_alloc ?_ _)); refine blk_put (cs := #[.int .i64 ((rd_T31 t486 t495).f0), .int .i64 ((rd_T31 t486 t495).f1), .int .i64 ((rd_T31 t486 t495).f2), .int .i64 ((rd_T31 t486 t495).f3), .int .i64 ((rd_T31 t486 t495).f4), .int .i64 0]) ?_ 5 _ rfl; (with_reducible repeat (first | refine blk_drewN ?_ _ | refine blk_drew ?_ | refine blk_alloc ?_ _)); refine blk_put (cs := #[.int .i64 ((rd_T31 t486 t495).f0), .int .i64 ((rd_T31 t486 t495).f1), .int .i64 ((rd_T31 t486 t495).f2), .int .i64 ((rd_T31 t486 t495).f3), .int .i64 0, .int .i64 0]) ?_ 4 _ rfl; (with_reducible repeat (first | refine blk_drewN ?_ _ | refine blk_drew ?_ | refine blk_alloc ?_ _)); refine blk_put (cs := #[.int .i64 ((rd_T31 t486 t495).f0), .int .i64 ((rd_T31 t486 t495).f1), .int .i64 ((rd_T31 t486 t495).f2), .int .i64 0, .int .i64 0, .int .i64 0]) ?_ 3 _ rfl; (with_reducible repeat (first | refine blk_drewN ?_ _ | refine blk_drew ?_ | refine blk_alloc ?_ _)); refine blk_put (cs := #[.int .i64 ((rd_T31 t486 t495).f0), .int .i64 ((rd_T31 t486 t495).f1), .int .i64 0, .int .i64 0, .int .i64 0, .int .i64 0]) ?_ 2 _ rfl; (with_reducible repeat (first | refine blk_drewN ?_ _ | refine blk_drew ?_ | refine blk_alloc ?_ _)); refine blk_put (cs := #[.int .i64 ((rd_T31 t486 t495).f0), .int .i64 0, .int .i64 0, .int .i64 0, .int .i64 0, .int .i64 0]) ?_ 1 _ rfl; (with_reducible repeat (first | refine blk_drewN ?_ _ | refine blk_drew ?_ | refine blk_alloc ?_ _)); refine blk_put (cs := #[.int .i64 0, .int .i64 0, .int .i64 0, .int .i64 0, .int .i64 0, .int .i64 0]) ?_ 0 _ rfl; (with_reducible repeat (first | refine blk_drewN ?_ _ | refine blk_drew ?_ | refine blk_alloc ?_ _)); exact BK499.out⟩, ⟨zq10⟩, ⟨zq7⟩, ⟨zq11⟩⟩
  clear HC20
  try clear c1
  try clear c2
  try clear p2
  try clear p4
  try clear q4
  try clear hx4
  try clear c5
  try clear p5
  try clear q5
  try clear hx5
  try clear c6
  try clear c6b0
  try clear c6b1
  try clear p6
  try clear c7
  try clear c8
  try clear c13
  try clear c15
  try clear c15b0
  try clear c16
  try clear c16b0
  try clear c18
  try clear c18b0
  try clear c19
  try clear c19b0
  try clear c23
  try clear c25
  try clear hcz24_0
  try clear hcz24_1
  try clear hcz24_2
  try clear hcz24_3
  try clear hcz24_4
  try clear hcz24_5
  try clear hcz26_0
  try clear hcz26_1
  try clear hcz26_2
  try clear hcz26_3
  try clear hcz26_4
  try clear hcz26_5
  try clear hfz24_0
  try clear hfz24_1
  try clear hfz24_2
  try clear hfz24_3
  try clear hfz24_4
  try clear hfz24_5
  try clear hfz26_0
  try clear hfz26_1
  try clear hfz26_2
  try clear hfz26_3
  try clear hfz26_4
  try clear hfz26_5
  try clear hx498_0
  try clear hx498_1
  try clear hx498_2
  try clear hx498_3
  try clear hx498_4
  try clear hx498_5
  try clear hx500_0
  try clear hx500_1
  try clear hx500_2
  try clear hx500_3
  try clear hx500_4
  try clear hx500_5
  try clear p2
  try clear p498
  try clear p500
  try clear q498
  try clear q500
  obtain ⟨kq, x500004_19, HA, HJ19, HO_3, BK499, HI0, HK, HB⟩ := hcut
  cases kq with
  | zero => exact absurd HA.out (by simp [spec_l1Cur_touching.j1])
  | succ kj19 =>
   have H := HA.out
   clear HA
   simp only [spec_l1Cur_touching.j1] at H
   replace H := Option.bind_eq_some_iff.mp H
   obtain ⟨⟨t501, t502, t503⟩, A270, H⟩ := H
   replace H : ((some (([] : List (S31)) : List (S31))).bind fun y504 => (if y504.length + t486.length < 2932031007402 then ((some (y504 ++ t486 : List (S31))).bind fun y507 => ((some (([(⟨(wrap64 (((rd_T31 t486 (ji17)).f0) + 1)), ((rd_T31 t486 t495).f1), ((rd_T31 t486 t495).f2), ((rd_T31 t486 t495).f3), x500004_19, wrap64 ((wrap64 (((rd_T31 t486 t495).f5) + 1)) + t501)⟩ : S31)] : List (S31)) : List (S31))).bind fun y510 => (if y507.length + y510.length < 2932031007402 then ((some (y507 ++ y510 : List (S31))).bind fun y513 => ((spec_l14List.f kj19 y513).bind fun t516 => (spec_l1Cur_touching.j2 kj19 t486 y513 t516 s0_0 t502 t503))) else (none)))) else (none))) = some (r1, r2, r3) := H
   have A27 := Aside0.mk A270
   clear A270
   obtain ⟨y504, hy504⟩ : ∃ y_ : List (S31), y_ = (([] : List (S31))) := ⟨_, rfl⟩
   replace H : (if y504.length + t486.length < 2932031007402 then ((some (y504 ++ t486 : List (S31))).bind fun y507 => ((some (([(⟨(wrap64 (((rd_T31 t486 (ji17)).f0) + 1)), ((rd_T31 t486 t495).f1), ((rd_T31 t486 t495).f2), ((rd_T31 t486 t495).f3), x500004_19, wrap64 ((wrap64 (((rd_T31 t486 t495).f5) + 1)) + t501)⟩ : S31)] : List (S31)) : List (S31))).bind fun y510 => (if y507.length + y510.length < 2932031007402 then ((some (y507 ++ y510 : List (S31))).bind fun y513 => ((spec_l14List.f kj19 y513).bind fun t516 => (spec_l1Cur_touching.j2 kj19 t486 y513 t516 s0_0 t502 t503))) else (none)))) else (none)) = some (r1, r2, r3) := zqH hy504 H
   have Ny504 := Aside0.mk hy504
   clear hy504
   by_cases c28 : y504.length + t486.length < 2932031007402
   case neg =>
    rw [if_neg c28] at H
    exact absurd H (by simp)
   rw [if_pos c28] at H
   have LMc28 := Aside0.mk c28
   clear c28
   obtain ⟨y507, hy507⟩ : ∃ y_ : List (S31), y_ = (y504 ++ t486) := ⟨_, rfl⟩
   replace H : ((some (([(⟨(wrap64 (((rd_T31 t486 (ji17)).f0) + 1)), ((rd_T31 t486 t495).f1), ((rd_T31 t486 t495).f2), ((rd_T31 t486 t495).f3), x500004_19, wrap64 ((wrap64 (((rd_T31 t486 t495).f5) + 1)) + t501)⟩ : S31)] : List (S31)) : List (S31))).bind fun y510 => (if y507.length + y510.length < 2932031007402 then ((some (y507 ++ y510 : List (S31))).bind fun y513 => ((spec_l14List.f kj19 y513).bind fun t516 => (spec_l1Cur_touching.j2 kj19 t486 y513 t516 s0_0 t502 t503))) else (none))) = some (r1, r2, r3) := zqH hy507 H
   have Ny507 := Aside0.mk hy507
   clear hy507
   obtain ⟨y510, hy510⟩ : ∃ y_ : List (S31), y_ = (([(⟨(wrap64 (((rd_T31 t486 (ji17)).f0) + 1)), ((rd_T31 t486 t495).f1), ((rd_T31 t486 t495).f2), ((rd_T31 t486 t495).f3), x500004_19, wrap64 ((wrap64 (((rd_T31 t486 t495).f5) + 1)) + t501)⟩ : S31)] : List (S31))) := ⟨_, rfl⟩
   replace H : (if y507.length + y510.length < 2932031007402 then ((some (y507 ++ y510 : List (S31))).bind fun y513 => ((spec_l14List.f kj19 y513).bind fun t516 => (spec_l1Cur_touching.j2 kj19 t486 y513 t516 s0_0 t502 t503))) else (none)) = some (r1, r2, r3) := zqH hy510 H
   have Ny510 := Aside0.mk hy510
   clear hy510
   by_cases c29 : y507.length + y510.length < 2932031007402
   case neg =>
    rw [if_neg c29] at H
    exact absurd H (by simp)
   rw [if_pos c29] at H
   have LMc29 := Aside0.mk c29
   clear c29
   obtain ⟨y513, hy513⟩ : ∃ y_ : List (S31), y_ = (y507 ++ y510) := ⟨_, rfl⟩
   replace H : ((spec_l14List.f kj19 y513).bind fun t516 => (spec_l1Cur_touching.j2 kj19 t486 y513 t516 s0_0 t502 t503)) = some (r1, r2, r3) := zqH hy513 H
   have Ny513 := Aside0.mk hy513
   clear hy513
   have HC30 := Aside0.mk H
   clear H
   try go_wp2
   have n0_ := Aside0.mk (Kd.R_drew HO_3.out)
   have n1_ := Aside0.mk (blk_drew BK499.out)
   have n2_ := Aside0.mk (IsS72.drew HI0.out)
   have n3_ := Aside0.mk (keep_drew HK.out)
   have n4_ := Aside0.mk (below_drew1 HB.out)
   clear HO_3
   clear BK499
   clear HI0
   clear HK
   clear HB
   have HO_3 := n0_
   have BK499 := n1_
   have HI0 := n2_
   have HK := n3_
   have HB := n4_
   clear n0_ n1_ n2_ n3_ n4_
   refine start_ (n := 8) (S := fun w' => w'.cell? ⟨gb499, 0, none⟩ = some (.int .i64 (wrap64 (((rd_T31 t486 (ji17)).f0) + 1))) ∧ w'.cell? ⟨gb499, 1, none⟩ = some (.int .i64 ((rd_T31 t486 t495).f1)) ∧ w'.cell? ⟨gb499, 2, none⟩ = some (.int .i64 ((rd_T31 t486 t495).f2)) ∧ w'.cell? ⟨gb499, 3, none⟩ = some (.int .i64 ((rd_T31 t486 t495).f3)) ∧ w'.cell? ⟨gb499, 4, none⟩ = some (.int .i64 x500004_19) ∧ w'.cell? ⟨gb499, 5, none⟩ = some (.int .i64 ((rd_T31 t486 t495).f5))) (ds := [7]) #[false, false, false, false, false, false, false, false] (by kernel_rfl) rfl rfl (bc6 BK499.out) (fun hHeld => ?_); refine with_tabW spec_l1Cur_touching.tab7 spec_l1Cur_touching.bits7 (fun HT_ HW_ => ?_)
   generalize wc.drew = w31 at HO_3 BK499 HI0 HK HB hHeld ⊢
   refine pure_ (i := 0) (N := some 38) (v := ?_) (a' := ?_) #[true, false, false, false, false, false, false, false] rfl rfl (any_of HT_.out (by kernel_rfl)) (fun _ _ _ h => h) (Or.inl ⟨by rfl, ?_⟩) ?_ ?_
   rotate_left; · exact zqB
   rotate_left; · exact zqA
   refine pure_ (i := 3) (N := some 41) (v := ?_) (a' := ?_) #[true, false, false, true, false, false, false, false] rfl rfl (any_of HT_.out (by kernel_rfl)) (fun _ _ _ h => h) (Or.inl ⟨by rfl, ?_⟩) ?_ ?_
   rotate_left; · exact zqB
   rotate_left; · exact zqA
   refine take_ (i := 1) (N := some 39) (v := ?_) (a' := ?_) #[true, true, false, true, false, false, false, false] rfl rfl (take_ofW HT_.out HW_.out (by kernel_rfl)) (fun _ _ _ h => h) (Or.inl ⟨by rfl, ?_⟩) hHeld ?_ ?_
   rotate_left
   ·
    rintro w' ⟨s0, s1, s2, s3, s4, s5⟩
    go_simp
    with_reducible rfl
   rotate_left; · exact zqA
   refine pure_ (i := 2) (N := some 40) (v := ?_) (a' := ?_) #[true, true, true, true, false, false, false, false] rfl rfl (any_of HT_.out (by kernel_rfl)) (fun _ _ _ h => h) (Or.inl ⟨by rfl, ?_⟩) ?_ ?_
   rotate_left; · exact zqB
   rotate_left; · exact zqA
   refine one_ (i := 4) (N := some 42) #[true, true, true, true, true, false, false, false] rfl rfl (one_of HT_.out (by kernel_rfl)) (by decide) (fun K hK => ?_)
   refine goes_ Try.func56 (by kernel_rfl) rfl #[.pointer (some ⟨g, 0, none⟩), .int .i64 4] (by rfl) rfl rfl zq1 ?_
   with_reducible refine (spec_l1Cur_pick.calls g s0_0 t496 t497 4 t501 t502 t503 w0 _ ?side1 ?side2 A27.out).mono ?_
   (case side1 => repeat (first | (with_reducible first | exact HI0.out | apply IsS72.alloc | apply IsS72.drewN | apply IsS72.drew | apply IsS72.set_1 | apply IsS72.set_2 | refine IsS72.far ?_ NB0_499.out _) | exact HI0.out))
   (case side2 => repeat (first | (with_reducible first | exact HB.out | apply below_alloc | apply pw_below_drewN | apply below_drew1 | refine below_set ?_ (IsS72.ge HI0.out) | refine below_set ?_ GE499.out) | exact HB.out))
   rintro e w32 ⟨rfl, hi, hb, hk⟩
   refine ⟨_, rfl, ?_⟩
   have n0_ := Aside0.mk (Kd.R_mono (Kd.R_keep (IsS72.apart (show IsS72 w0 _ g s0_0 t496 t497 from by repeat (first | (with_reducible first | exact HI0.out | apply IsS72.alloc | apply IsS72.drewN | apply IsS72.drew | apply IsS72.set_1 | apply IsS72.set_2 | refine IsS72.far ?_ NB0_499.out _) | exact HI0.out)) (zqR HO_3.out) (by decide)) hk (fun _ h => h.2)) (fun _ h => h.1))
   have n1_ := Aside0.mk (KeepBut.blk hk (g' := gb499) (o := .cells #[.int .i64 (wrap64 (((rd_T31 t486 (ji17)).f0) + 1)), .int .i64 ((rd_T31 t486 t495).f1), .int .i64 ((rd_T31 t486 t495).f2), .int .i64 ((rd_T31 t486 t495).f3), .int .i64 x500004_19, .int .i64 ((rd_T31 t486 t495).f5)] 31 (0, 0)) (zqK BK499.out) NB499_0.out (by simp))
   have n2_ := Aside0.mk (KeepBut.trans zq7 hk (.inl rfl))
   have n3_ := Aside0.mk (hb)
   have n4_ := Aside0.mk (hi)
   clear HO_3
   clear BK499
   clear HK
   clear HB
   clear HI0
   have HO_3 := n0_
   have BK499 := n1_
   have HK := n2_
   have HB := n3_
   have HI0 := n4_
   clear n0_ n1_ n2_ n3_ n4_
   (try clear hb)
   (try clear hb2)
   (try clear hk)
   (try clear hi)
   refine hK.out _ _ (bc6 BK499.out) (fun hHeld => ?_)
   clear hK K
   refine norm_ (a' := ?_) ?_ ?_
   rotate_left
   ·
    show Act.put _ (some 42) _ = _
    simp only [Act.put, List.setIfInBounds_toArray, List.set_cons_zero, List.set_cons_succ, i64_w, i32_w]
    rfl
   refine pure_ (i := 5) (N := some 43) (v := ?_) (a' := ?_) #[true, true, true, true, true, true, false, false] rfl rfl (any_of HT_.out (by kernel_rfl)) (fun _ _ _ h => h) (Or.inl ⟨by rfl, ?_⟩) ?_ ?_
   rotate_left; · exact zqB
   rotate_left; · exact zqA
   refine pure_ (i := 6) (N := some 44) (v := ?_) (a' := ?_) #[true, true, true, true, true, true, true, false] rfl rfl (any_of HT_.out (by kernel_rfl)) (fun _ _ _ h => h) (Or.inl ⟨by rfl, ?_⟩) ?_ ?_
   rotate_left; · exact zqB
   rotate_left; · exact zqA
   refine last_ (i := 7) (N := none) #[true, true, true, true, true, true, true, true] rfl rfl (one_of HT_.out (by kernel_rfl)) (by decide) (fun K hK => ?_)
   have hs33 : w32.cell? ⟨gb499, 5, none⟩ = some (.int .i64 ((rd_T31 t486 t495).f5)) := (blk_cell BK499.out 5).trans rfl
   have hfs33 := blk_frozen BK499.out 5
   refine skip_ (w1 := ?_) (by rfl) rfl ?_ ?_
   rotate_left
   ·
    go_simp
    rfl
   refine hK.out _ _ ?_
   clear hK K
   refine done_ (done_of HT_.out (by kernel_rfl)) ?_
   try go_wp2
   have n0_ : Aside0 (Kd.R k31 31 (w32.setCell ⟨gb499, 5, none⟩ (.int .i64 (wrap64 ((wrap64 (((rd_T31 t486 t495).f5) + 1)) + t501)))) w.heap.size (fun k_ => k_ ≠ gb499) (.slice (some ad498) t486.length co5) t486) := ⟨by (with_reducible repeat (first | apply Kd.R_alloc | apply Kd.R_drewN | apply Kd.R_drew)); exact Kd.R_mono (Kd.R_far (p := ⟨gb499, 5, none⟩) (Kd.R_mono HO_3.out (fun k_ hk => (⟨hk, hk⟩ : _ ∧ k_ ≠ gb499))) (fun _ hk => hk.2) (.int .i64 (wrap64 ((wrap64 (((rd_T31 t486 t495).f5) + 1)) + t501)))) (fun _ hk => hk.1)⟩
   have n1_ : Aside0 ((w32.setCell ⟨gb499, 5, none⟩ (.int .i64 (wrap64 ((wrap64 (((rd_T31 t486 t495).f5) + 1)) + t501)))).heap[gb499]? = some (.cells #[.int .i64 (wrap64 (((rd_T31 t486 (ji17)).f0) + 1)), .int .i64 ((rd_T31 t486 t495).f1), .int .i64 ((rd_T31 t486 t495).f2), .int .i64 ((rd_T31 t486 t495).f3), .int .i64 x500004_19, .int .i64 (wrap64 ((wrap64 (((rd_T31 t486 t495).f5) + 1)) + t501))] 31 (0, 0))) := ⟨by (with_reducible repeat (first | refine blk_drewN ?_ _ | refine blk_drew ?_ | refine blk_alloc ?_ _)); refine blk_put (cs := #[.int .i64 (wrap64 (((rd_T31 t486 (ji17)).f0) + 1)), .int .i64 ((rd_T31 t486 t495).f1), .int .i64 ((rd_T31 t486 t495).f2), .int .i64 ((rd_T31 t486 t495).f3), .int .i64 x500004_19, .int .i64 ((rd_T31 t486 t495).f5)]) ?_ 5 _ rfl; (with_reducible repeat (first | refine blk_drewN ?_ _ | refine blk_drew ?_ | refine blk_alloc ?_ _)); exact BK499.out⟩
   have n2_ : Aside0 (IsS72 w0 (w32.setCell ⟨gb499, 5, none⟩ (.int .i64 (wrap64 ((wrap64 (((rd_T31 t486 t495).f5) + 1)) + t501)))) g s0_0 t502 t503) := ⟨zq10⟩
   have n3_ : Aside0 (KeepBut w (w32.setCell ⟨gb499, 5, none⟩ (.int .i64 (wrap64 ((wrap64 (((rd_T31 t486 t495).f5) + 1)) + t501)))) g none) := ⟨zq7⟩
   have n4_ : Aside0 (Below w0.heap.size w0 (w32.setCell ⟨gb499, 5, none⟩ (.int .i64 (wrap64 ((wrap64 (((rd_T31 t486 t495).f5) + 1)) + t501))))) := ⟨zq11⟩
   (try clear HO_3)
   (try clear BK499)
   (try clear HI0)
   (try clear HK)
   (try clear HB)
   generalize (w32.setCell ⟨gb499, 5, none⟩ (.int .i64 (wrap64 ((wrap64 (((rd_T31 t486 t495).f5) + 1)) + t501)))) = w34 at n0_ n1_ n2_ n3_ n4_ ⊢
   have HO_3 := n0_
   have BK499 := n1_
   have HI0 := n2_
   have HK := n3_
   have HB := n4_
   clear n0_ n1_ n2_ n3_ n4_
   have n0_ := Aside0.mk (Kd.R_drew HO_3.out)
   have n1_ := Aside0.mk (blk_drew BK499.out)
   have n2_ := Aside0.mk (IsS72.drew HI0.out)
   have n3_ := Aside0.mk (keep_drew HK.out)
   have n4_ := Aside0.mk (below_drew1 HB.out)
   clear HO_3
   clear BK499
   clear HI0
   clear HK
   clear HB
   have HO_3 := n0_
   have BK499 := n1_
   have HI0 := n2_
   have HK := n3_
   have HB := n4_
   clear n0_ n1_ n2_ n3_ n4_
   refine start_ (n := 7) (S := fun w' => w'.cell? ⟨gb499, 0, none⟩ = some (.int .i64 (wrap64 (((rd_T31 t486 (ji17)).f0) + 1))) ∧ w'.cell? ⟨gb499, 1, none⟩ = some (.int .i64 ((rd_T31 t486 t495).f1)) ∧ w'.cell? ⟨gb499, 2, none⟩ = some (.int .i64 ((rd_T31 t486 t495).f2)) ∧ w'.cell? ⟨gb499, 3, none⟩ = some (.int .i64 ((rd_T31 t486 t495).f3)) ∧ w'.cell? ⟨gb499, 4, none⟩ = some (.int .i64 x500004_19) ∧ w'.cell? ⟨gb499, 5, none⟩ = some (.int .i64 (wrap64 ((wrap64 (((rd_T31 t486 t495).f5) + 1)) + t501)))) (ds := []) #[false, false, false, false, false, false, false] (by kernel_rfl) rfl rfl (bc6 BK499.out) (fun hHeld => ?_)
   generalize w34.drew = w35 at HO_3 BK499 HI0 HK HB hHeld ⊢
   refine pure_ (i := 1) (N := some 46) (v := ?_) (a' := ?_) #[false, true, false, false, false, false, false] rfl rfl (by kernel_rfl) (fun _ _ _ h => h) (Or.inl ⟨by rfl, ?_⟩) ?_ ?_
   rotate_left; · exact zqB
   rotate_left; · exact zqA
   refine take_ (i := 3) (N := some 48) (v := ?_) (a' := ?_) #[false, true, false, true, false, false, false] rfl rfl (by kernel_rfl) (fun _ _ _ h => h) (Or.inl ⟨by rfl, ?_⟩) hHeld ?_ ?_
   rotate_left
   ·
    rintro w' ⟨s0, s1, s2, s3, s4, s5⟩
    go_simp
    with_reducible rfl
   rotate_left; · exact zqA
   refine join_ (σ := Value × Value × Value) 2 #[true, true, true, true, true, false, false] (fun s_ => [(45, s_.1), (47, s_.2.1), (49, s_.2.2)]) (fun s_ w' => (w'.cell? ⟨gb499, 0, none⟩ = some (.int .i64 (wrap64 (((rd_T31 t486 (ji17)).f0) + 1))) ∧ w'.cell? ⟨gb499, 1, none⟩ = some (.int .i64 ((rd_T31 t486 t495).f1)) ∧ w'.cell? ⟨gb499, 2, none⟩ = some (.int .i64 ((rd_T31 t486 t495).f2)) ∧ w'.cell? ⟨gb499, 3, none⟩ = some (.int .i64 ((rd_T31 t486 t495).f3)) ∧ w'.cell? ⟨gb499, 4, none⟩ = some (.int .i64 x500004_19) ∧ w'.cell? ⟨gb499, 5, none⟩ = some (.int .i64 (wrap64 ((wrap64 (((rd_T31 t486 t495).f5) + 1)) + t501)))) ∧ (Kd.R k31 31 w' w.heap.size (fun k_ => some k_ ≠ (s_.2.2 : Value).ownBlock ∧ some k_ ≠ (.slice (some ad498) t486.length co5 : Value).ownBlock ∧ k_ ≠ gb499) s_.2.1 y507) ∧ (Kd.R k31 31 w' w.heap.size (fun k_ => some k_ ≠ (s_.2.1 : Value).ownBlock ∧ some k_ ≠ (.slice (some ad498) t486.length co5 : Value).ownBlock ∧ k_ ≠ gb499) s_.2.2 y510) ∧ (Kd.R k31 31 w' w.heap.size (fun k_ => some k_ ≠ (s_.2.1 : Value).ownBlock ∧ some k_ ≠ (s_.2.2 : Value).ownBlock ∧ k_ ≠ gb499) (.slice (some ad498) t486.length co5) t486) ∧ (w'.heap[gb499]? = some (.cells #[.int .i64 (wrap64 (((rd_T31 t486 (ji17)).f0) + 1)), .int .i64 ((rd_T31 t486 t495).f1), .int .i64 ((rd_T31 t486 t495).f2), .int .i64 ((rd_T31 t486 t495).f3), .int .i64 x500004_19, .int .i64 (wrap64 ((wrap64 (((rd_T31 t486 t495).f5) + 1)) + t501))] 31 (0, 0))) ∧ (IsS72 w0 w' g s0_0 t502 t503) ∧ (KeepBut w w' g none) ∧ (Below w0.heap.size w0 w')) ?_ ?_
   rotate_left
   ·
    intro hCont
    refine two_ (i := 0) (j := 4) (Ni := some 45) (Nj := some 49) #[true, true, false, true, false, false, false] #[false, true, false, true, true, false, false] rfl rfl rfl rfl (by kernel_rfl) (by decide) (by decide) (fun K hK => ?_) (fun K hK => ?_)
    ·
     skip
     refine Kd.R_lit_step k31 _ 31 ?hg (N := 45) ?hd (xs := ([] : List (S31))) (inner := []) (ok := fun _ => True) (okp := fun _ => True) ?hr ?hp (fun _ hk => hk) trivial (Below.refl _ _) (Nat.le_refl _) (by simp) ?_; (case hd => rfl); (case hg => rfl); (case hr => exact zqS); (case hp => exact (Reps.none _ _))
     intro v505 w36 ho37 hb hg_ hnew_
     clear hg_ hnew_
     (first | rw [← Ny504.out] at ho37 | (simp only [Int.reduceToNat] at ho37; rw [← Ny504.out] at ho37))
     have n0_ := Aside0.mk (Kd.R_elder' (zqR HO_3.out) (Kd.R_base ho37) hb)
     have n1_ := Aside0.mk (Kd.R_lower (Kd.R_newB (Kd.R_new' ho37 (Kd.R_lt (zqR HO_3.out))) (g := gb499) (o := .cells #[.int .i64 (wrap64 (((rd_T31 t486 (ji17)).f0) + 1)), .int .i64 ((rd_T31 t486 t495).f1), .int .i64 ((rd_T31 t486 t495).f2), .int .i64 ((rd_T31 t486 t495).f3), .int .i64 x500004_19, .int .i64 (wrap64 ((wrap64 (((rd_T31 t486 t495).f5) + 1)) + t501))] 31 (0, 0)) (zqK BK499.out)) (keep_size (w := w) (g := g) (row := none) zq7))
     have n2_ := Aside0.mk (blk_below (g := gb499) (o := .cells #[.int .i64 (wrap64 (((rd_T31 t486 (ji17)).f0) + 1)), .int .i64 ((rd_T31 t486 t495).f1), .int .i64 ((rd_T31 t486 t495).f2), .int .i64 ((rd_T31 t486 t495).f3), .int .i64 x500004_19, .int .i64 (wrap64 ((wrap64 (((rd_T31 t486 t495).f5) + 1)) + t501))] 31 (0, 0)) (zqK BK499.out) hb)
     have n3_ := Aside0.mk (IsS72.below zq10 hb)
     have n4_ := Aside0.mk (KeepBut.trans zq7 (KeepBut.of_below hb g none) (.inl rfl))
     have n5_ := Aside0.mk (below_step zq11 hb)
     clear HO_3
     clear BK499
     clear HI0
     clear HK
     clear HB
     have HO_3 := n0_
     have HO506 := n1_
     have BK499 := n2_
     have HI0 := n3_
     have HK := n4_
     have HB := n5_
     clear n0_ n1_ n2_ n3_ n4_ n5_
     clear hb ho37
     refine hK.out _ _ (bc6 BK499.out) (fun hHeld => ?_)
     clear hK K
     refine norm_ (a' := ?_) ?_ ?_
     rotate_left
     ·
      show Act.put _ (some 45) _ = _
      simp only [Act.put, List.setIfInBounds_toArray, List.set_cons_zero, List.set_cons_succ, i64_w, i32_w]
      rfl
     refine two_ (i := 2) (j := 4) (Ni := some 47) (Nj := some 49) #[true, true, true, true, false, false, false] #[true, true, false, true, true, false, false] rfl rfl rfl rfl (by kernel_rfl) (by decide) (by decide) (fun K hK => ?_) (fun K hK => ?_)
     ·
      skip
      refine Kd.R_append_rows_step k31 w.heap.size (by rfl) (.tmp 45) (.tmp 46) 24 31 (.agg #[(.int .i64 0), (.int .i64 0), (.int .i64 0), (.int .i64 0), (.int .i64 0), (.int .i64 0)]) 48 rfl Try.underlying24 info31 rfl (by decide) (by omega) v505 y504 t486 _ _ _ (fun k_ => some k_ ≠ (.slice (some ad498) t486.length co5 : Value).ownBlock ∧ k_ ≠ gb499) (fun _ => False) rfl rfl ?aO ?aR (fun _ _ h => h) (fun _ h => h.elim) ?aF (Below.refl _ _) ?aS ?aL ?_
      (case aR => exact zqC (Kd.R_reads' HO_3.out).2.2)
      (case aF => exact (fun k_ hk => ⟨Kd.fresh' (Kd.R_lt (zqR HO_3.out)) k_ hk, Kd.freshB (g := gb499) (o := .cells #[.int .i64 (wrap64 (((rd_T31 t486 (ji17)).f0) + 1)), .int .i64 ((rd_T31 t486 t495).f1), .int .i64 ((rd_T31 t486 t495).f2), .int .i64 ((rd_T31 t486 t495).f3), .int .i64 x500004_19, .int .i64 (wrap64 ((wrap64 (((rd_T31 t486 t495).f5) + 1)) + t501))] 31 (0, 0)) (zqK BK499.out) k_ hk⟩))
      (case aO => exact (by (with_reducible repeat (first | apply Kd.R_alloc | apply Kd.R_drewN | apply Kd.R_drew)); exact Kd.R_mono HO506.out (fun _ hk => ⟨hk.1.2, hk.2⟩)))
      (case aS => exact (keep_size (w := w) (g := g) (row := none) zq7))
      (case aL => have := LMc28.out; omega)
      intro v508 w38 ho hb hg hat
      rw [← Ny507.out] at ho
      have n0_ := Aside0.mk (Kd.R_after (ok := (fun k_ => k_ ≠ gb499)) (zqR HO_3.out) hg hat)
      have n1_ := Aside0.mk (blk_grown (g := gb499) (o := .cells #[.int .i64 (wrap64 (((rd_T31 t486 (ji17)).f0) + 1)), .int .i64 ((rd_T31 t486 t495).f1), .int .i64 ((rd_T31 t486 t495).f2), .int .i64 ((rd_T31 t486 t495).f3), .int .i64 x500004_19, .int .i64 (wrap64 ((wrap64 (((rd_T31 t486 t495).f5) + 1)) + t501))] 31 (0, 0)) (zqK BK499.out) hg (Kd.R_away HO506.out (fun _ hk => hk.2)))
      have n2_ := Aside0.mk (IsS72.grown zq10 hg (IsS72.own_ne HI0.out HO506.out (by decide)))
      have n3_ := Aside0.mk (below_weaken zq11 HL.out hb)
      have n4_ := Aside0.mk (KeepBut.trans zq7 (KeepBut.of_grown hg g) (Kd.R_base2 HO506.out))
      have n5_ := Aside0.mk (ho)
      clear HO_3
      clear BK499
      clear HI0
      clear HB
      clear HK
      clear HO506
      have HO_3 := n0_
      have BK499 := n1_
      have HI0 := n2_
      have HB := n3_
      have HK := n4_
      have HO509 := n5_
      clear n0_ n1_ n2_ n3_ n4_ n5_
      clear ho hb hg hat
      refine hK.out _ _ (bc6 BK499.out) (fun hHeld => ?_)
      clear hK K
      refine norm_ (a' := ?_) ?_ ?_
      rotate_left
      ·
       show Act.put _ (some 47) _ = _
       simp only [Act.put, List.setIfInBounds_toArray, List.set_cons_zero, List.set_cons_succ, i64_w, i32_w]
       rfl
      refine one_ (i := 4) (N := some 49) #[true, true, true, true, true, false, false] rfl rfl (by kernel_rfl) (by decide) (fun K hK => ?_)
      refine Kd.R_lit_step k31 _ 31 ?hg (N := 49) ?hd (xs := ([(⟨(wrap64 (((rd_T31 t486 (ji17)).f0) + 1)), ((rd_T31 t486 t495).f1), ((rd_T31 t486 t495).f2), ((rd_T31 t486 t495).f3), x500004_19, wrap64 ((wrap64 (((rd_T31 t486 t495).f5) + 1)) + t501)⟩ : S31)] : List (S31))) (inner := [.int .i64 (wrap64 (((rd_T31 t486 (ji17)).f0) + 1)), .int .i64 ((rd_T31 t486 t495).f1), .int .i64 ((rd_T31 t486 t495).f2), .int .i64 ((rd_T31 t486 t495).f3), .int .i64 x500004_19, .int .i64 (wrap64 ((wrap64 (((rd_T31 t486 t495).f5) + 1)) + t501))]) (ok := fun _ => True) (okp := fun _ => True) ?hr ?hp (fun _ hk => hk) trivial (Below.refl _ _) (Nat.le_refl _) (by simp) ?_; (case hd => rfl); (case hg => rfl); (case hr => exact zqS); (case hp => exact (Reps.c6 (show Kd.M k31 _ _ _ (⟨(wrap64 (((rd_T31 t486 (ji17)).f0) + 1)), ((rd_T31 t486 t495).f1), ((rd_T31 t486 t495).f2), ((rd_T31 t486 t495).f3), x500004_19, wrap64 ((wrap64 (((rd_T31 t486 t495).f5) + 1)) + t501)⟩ : S31) [.int .i64 (wrap64 (((rd_T31 t486 (ji17)).f0) + 1)), .int .i64 ((rd_T31 t486 t495).f1), .int .i64 ((rd_T31 t486 t495).f2), .int .i64 ((rd_T31 t486 t495).f3), .int .i64 x500004_19, .int .i64 (wrap64 ((wrap64 (((rd_T31 t486 t495).f5) + 1)) + t501))] from (k31_mkM _ _ _ (⟨(wrap64 (((rd_T31 t486 (ji17)).f0) + 1)), ((rd_T31 t486 t495).f1), ((rd_T31 t486 t495).f2), ((rd_T31 t486 t495).f3), x500004_19, wrap64 ((wrap64 (((rd_T31 t486 t495).f5) + 1)) + t501)⟩ : S31) )) (Reps.none _ _)))
      intro v511 w39 ho40 hb hg_ hnew_
      clear hg_ hnew_
      (first | rw [← Ny510.out] at ho40 | (simp only [Int.reduceToNat] at ho40; rw [← Ny510.out] at ho40))
      have n0_ := Aside0.mk (Kd.R_elder' (zqR HO_3.out) (Kd.R_base ho40) hb)
      have n1_ := Aside0.mk (Kd.R_elder' (zqR HO509.out) (Kd.R_base ho40) hb)
      have n2_ := Aside0.mk (Kd.R_lower (Kd.R_newB (Kd.R_new' (Kd.R_new' ho40 (Kd.R_lt (zqR HO_3.out))) (Kd.R_lt (zqR HO509.out))) (g := gb499) (o := .cells #[.int .i64 (wrap64 (((rd_T31 t486 (ji17)).f0) + 1)), .int .i64 ((rd_T31 t486 t495).f1), .int .i64 ((rd_T31 t486 t495).f2), .int .i64 ((rd_T31 t486 t495).f3), .int .i64 x500004_19, .int .i64 (wrap64 ((wrap64 (((rd_T31 t486 t495).f5) + 1)) + t501))] 31 (0, 0)) (zqK BK499.out)) (keep_size (w := w) (g := g) (row := none) zq7))
      have n3_ := Aside0.mk (blk_below (g := gb499) (o := .cells #[.int .i64 (wrap64 (((rd_T31 t486 (ji17)).f0) + 1)), .int .i64 ((rd_T31 t486 t495).f1), .int .i64 ((rd_T31 t486 t495).f2), .int .i64 ((rd_T31 t486 t495).f3), .int .i64 x500004_19, .int .i64 (wrap64 ((wrap64 (((rd_T31 t486 t495).f5) + 1)) + t501))] 31 (0, 0)) (zqK BK499.out) hb)
      have n4_ := Aside0.mk (IsS72.below zq10 hb)
      have n5_ := Aside0.mk (KeepBut.trans zq7 (KeepBut.of_below hb g none) (.inl rfl))
      have n6_ := Aside0.mk (below_step zq11 hb)
      clear HO_3
      clear HO509
      clear BK499
      clear HI0
      clear HK
      clear HB
      have HO_3 := n0_
      have HO509 := n1_
      have HO512 := n2_
      have BK499 := n3_
      have HI0 := n4_
      have HK := n5_
      have HB := n6_
      clear n0_ n1_ n2_ n3_ n4_ n5_ n6_
      clear hb ho40
      refine hK.out _ _ (bc6 BK499.out) (fun hHeld => ?_)
      clear hK K
      refine norm_ (a' := ?_) ?_ ?_
      rotate_left
      ·
       show Act.put _ (some 49) _ = _
       simp only [Act.put, List.setIfInBounds_toArray, List.set_cons_zero, List.set_cons_succ, i64_w, i32_w]
       rfl
      exact norm_ (by simp only [putAll, Act.put, List.setIfInBounds_toArray, List.set_cons_zero, List.set_cons_succ]) (hCont (v505, v508, v511) _ ⟨hHeld, (by (with_reducible repeat (first | apply Kd.R_alloc | apply Kd.R_drewN | apply Kd.R_drew)); exact Kd.R_mono HO509.out (fun _ hk => ⟨hk.2, ⟨hk.1.1, hk.1.2⟩⟩)), (by (with_reducible repeat (first | apply Kd.R_alloc | apply Kd.R_drewN | apply Kd.R_drew)); exact Kd.R_mono HO512.out (fun _ hk => ⟨hk.1.2, ⟨hk.1.1.2, hk.2⟩⟩)), (by (with_reducible repeat (first | apply Kd.R_alloc | apply Kd.R_drewN | apply Kd.R_drew)); exact Kd.R_mono HO_3.out (fun _ hk => ⟨hk.1.2, ⟨hk.2, hk.1.1⟩⟩)), (zqK BK499.out), zq10, zq7, zq11⟩)
     ·
      skip
      refine Kd.R_lit_step k31 _ 31 ?hg (N := 49) ?hd (xs := ([(⟨(wrap64 (((rd_T31 t486 (ji17)).f0) + 1)), ((rd_T31 t486 t495).f1), ((rd_T31 t486 t495).f2), ((rd_T31 t486 t495).f3), x500004_19, wrap64 ((wrap64 (((rd_T31 t486 t495).f5) + 1)) + t501)⟩ : S31)] : List (S31))) (inner := [.int .i64 (wrap64 (((rd_T31 t486 (ji17)).f0) + 1)), .int .i64 ((rd_T31 t486 t495).f1), .int .i64 ((rd_T31 t486 t495).f2), .int .i64 ((rd_T31 t486 t495).f3), .int .i64 x500004_19, .int .i64 (wrap64 ((wrap64 (((rd_T31 t486 t495).f5) + 1)) + t501))]) (ok := fun _ => True) (okp := fun _ => True) ?hr ?hp (fun _ hk => hk) trivial (Below.refl _ _) (Nat.le_refl _) (by simp) ?_; (case hd => rfl); (case hg => rfl); (case hr => exact zqS); (case hp => exact (Reps.c6 (show Kd.M k31 _ _ _ (⟨(wrap64 (((rd_T31 t486 (ji17)).f0) + 1)), ((rd_T31 t486 t495).f1), ((rd_T31 t486 t495).f2), ((rd_T31 t486 t495).f3), x500004_19, wrap64 ((wrap64 (((rd_T31 t486 t495).f5) + 1)) + t501)⟩ : S31) [.int .i64 (wrap64 (((rd_T31 t486 (ji17)).f0) + 1)), .int .i64 ((rd_T31 t486 t495).f1), .int .i64 ((rd_T31 t486 t495).f2), .int .i64 ((rd_T31 t486 t495).f3), .int .i64 x500004_19, .int .i64 (wrap64 ((wrap64 (((rd_T31 t486 t495).f5) + 1)) + t501))] from (k31_mkM _ _ _ (⟨(wrap64 (((rd_T31 t486 (ji17)).f0) + 1)), ((rd_T31 t486 t495).f1), ((rd_T31 t486 t495).f2), ((rd_T31 t486 t495).f3), x500004_19, wrap64 ((wrap64 (((rd_T31 t486 t495).f5) + 1)) + t501)⟩ : S31) )) (Reps.none _ _)))
      intro v511 w38 ho39 hb hg_ hnew_
      clear hg_ hnew_
      (first | rw [← Ny510.out] at ho39 | (simp only [Int.reduceToNat] at ho39; rw [← Ny510.out] at ho39))
      have n0_ := Aside0.mk (Kd.R_elder' (zqR HO_3.out) (Kd.R_base ho39) hb)
      have n1_ := Aside0.mk (Kd.R_elder' (zqR HO506.out) (Kd.R_base ho39) hb)
      have n2_ := Aside0.mk (Kd.R_lower (Kd.R_newB (Kd.R_new' (Kd.R_new' ho39 (Kd.R_lt (zqR HO_3.out))) (Kd.R_lt (zqR HO506.out))) (g := gb499) (o := .cells #[.int .i64 (wrap64 (((rd_T31 t486 (ji17)).f0) + 1)), .int .i64 ((rd_T31 t486 t495).f1), .int .i64 ((rd_T31 t486 t495).f2), .int .i64 ((rd_T31 t486 t495).f3), .int .i64 x500004_19, .int .i64 (wrap64 ((wrap64 (((rd_T31 t486 t495).f5) + 1)) + t501))] 31 (0, 0)) (zqK BK499.out)) (keep_size (w := w) (g := g) (row := none) zq7))
      have n3_ := Aside0.mk (blk_below (g := gb499) (o := .cells #[.int .i64 (wrap64 (((rd_T31 t486 (ji17)).f0) + 1)), .int .i64 ((rd_T31 t486 t495).f1), .int .i64 ((rd_T31 t486 t495).f2), .int .i64 ((rd_T31 t486 t495).f3), .int .i64 x500004_19, .int .i64 (wrap64 ((wrap64 (((rd_T31 t486 t495).f5) + 1)) + t501))] 31 (0, 0)) (zqK BK499.out) hb)
      have n4_ := Aside0.mk (IsS72.below zq10 hb)
      have n5_ := Aside0.mk (KeepBut.trans zq7 (KeepBut.of_below hb g none) (.inl rfl))
      have n6_ := Aside0.mk (below_step zq11 hb)
      clear HO_3
      clear HO506
      clear BK499
      clear HI0
      clear HK
      clear HB
      have HO_3 := n0_
      have HO506 := n1_
      have HO512 := n2_
      have BK499 := n3_
      have HI0 := n4_
      have HK := n5_
      have HB := n6_
      clear n0_ n1_ n2_ n3_ n4_ n5_ n6_
      clear hb ho39
      refine hK.out _ _ (bc6 BK499.out) (fun hHeld => ?_)
      clear hK K
      refine norm_ (a' := ?_) ?_ ?_
      rotate_left
      ·
       show Act.put _ (some 49) _ = _
       simp only [Act.put, List.setIfInBounds_toArray, List.set_cons_zero, List.set_cons_succ, i64_w, i32_w]
       rfl
      refine one_ (i := 2) (N := some 47) #[true, true, true, true, true, false, false] rfl rfl (by kernel_rfl) (by decide) (fun K hK => ?_)
      refine Kd.R_append_rows_step k31 w.heap.size (by rfl) (.tmp 45) (.tmp 46) 24 31 (.agg #[(.int .i64 0), (.int .i64 0), (.int .i64 0), (.int .i64 0), (.int .i64 0), (.int .i64 0)]) 48 rfl Try.underlying24 info31 rfl (by decide) (by omega) v505 y504 t486 _ _ _ (fun k_ => some k_ ≠ (.slice (some ad498) t486.length co5 : Value).ownBlock ∧ some k_ ≠ (v511 : Value).ownBlock ∧ k_ ≠ gb499) (fun _ => False) rfl rfl ?aO ?aR (fun _ _ h => h) (fun _ h => h.elim) ?aF (Below.refl _ _) ?aS ?aL ?_
      (case aR => exact zqC (Kd.R_reads' HO_3.out).2.2)
      (case aF => exact (fun k_ hk => ⟨Kd.fresh' (Kd.R_lt (zqR HO_3.out)) k_ hk, Kd.fresh' (Kd.R_lt (zqR HO512.out)) k_ hk, Kd.freshB (g := gb499) (o := .cells #[.int .i64 (wrap64 (((rd_T31 t486 (ji17)).f0) + 1)), .int .i64 ((rd_T31 t486 t495).f1), .int .i64 ((rd_T31 t486 t495).f2), .int .i64 ((rd_T31 t486 t495).f3), .int .i64 x500004_19, .int .i64 (wrap64 ((wrap64 (((rd_T31 t486 t495).f5) + 1)) + t501))] 31 (0, 0)) (zqK BK499.out) k_ hk⟩))
      (case aO => exact (by (with_reducible repeat (first | apply Kd.R_alloc | apply Kd.R_drewN | apply Kd.R_drew)); exact Kd.R_mono HO506.out (fun _ hk => ⟨hk.1.1.2, ⟨hk.2, hk.1.2⟩⟩)))
      (case aS => exact (keep_size (w := w) (g := g) (row := none) zq7))
      (case aL => have := LMc28.out; omega)
      intro v508 w40 ho hb hg hat
      rw [← Ny507.out] at ho
      have n0_ := Aside0.mk (Kd.R_after (ok := (fun k_ => some k_ ≠ (v511 : Value).ownBlock ∧ k_ ≠ gb499)) (by (with_reducible repeat (first | apply Kd.R_alloc | apply Kd.R_drewN | apply Kd.R_drew)); exact Kd.R_mono HO_3.out (fun _ hk => ⟨⟨hk.2, hk.1.1⟩, hk.1.2⟩)) hg hat)
      have n1_ := Aside0.mk (blk_grown (g := gb499) (o := .cells #[.int .i64 (wrap64 (((rd_T31 t486 (ji17)).f0) + 1)), .int .i64 ((rd_T31 t486 t495).f1), .int .i64 ((rd_T31 t486 t495).f2), .int .i64 ((rd_T31 t486 t495).f3), .int .i64 x500004_19, .int .i64 (wrap64 ((wrap64 (((rd_T31 t486 t495).f5) + 1)) + t501))] 31 (0, 0)) (zqK BK499.out) hg (Kd.R_away HO506.out (fun _ hk => hk.1.2)))
      have n2_ := Aside0.mk (IsS72.grown zq10 hg (IsS72.own_ne HI0.out HO506.out (by decide)))
      have n3_ := Aside0.mk (Kd.R_after (ok := (fun k_ => some k_ ≠ (.slice (some ad498) t486.length co5 : Value).ownBlock ∧ k_ ≠ gb499)) (by (with_reducible repeat (first | apply Kd.R_alloc | apply Kd.R_drewN | apply Kd.R_drew)); exact Kd.R_mono HO512.out (fun _ hk => ⟨⟨hk.1.1.2, hk.2⟩, hk.1.2⟩)) hg hat)
      have n4_ := Aside0.mk (below_weaken zq11 HL.out hb)
      have n5_ := Aside0.mk (KeepBut.trans zq7 (KeepBut.of_grown hg g) (Kd.R_base2 HO506.out))
      have n6_ := Aside0.mk (ho)
      clear HO_3
      clear BK499
      clear HI0
      clear HO512
      clear HB
      clear HK
      clear HO506
      have HO_3 := n0_
      have BK499 := n1_
      have HI0 := n2_
      have HO512 := n3_
      have HB := n4_
      have HK := n5_
      have HO509 := n6_
      clear n0_ n1_ n2_ n3_ n4_ n5_ n6_
      clear ho hb hg hat
      refine hK.out _ _ (bc6 BK499.out) (fun hHeld => ?_)
      clear hK K
      refine norm_ (a' := ?_) ?_ ?_
      rotate_left
      ·
       show Act.put _ (some 47) _ = _
       simp only [Act.put, List.setIfInBounds_toArray, List.set_cons_zero, List.set_cons_succ, i64_w, i32_w]
       rfl
      exact norm_ (by simp only [putAll, Act.put, List.setIfInBounds_toArray, List.set_cons_zero, List.set_cons_succ]) (hCont (v505, v508, v511) _ ⟨hHeld, zq42, (by (with_reducible repeat (first | apply Kd.R_alloc | apply Kd.R_drewN | apply Kd.R_drew)); exact Kd.R_mono HO512.out (fun _ hk => ⟨hk.2, ⟨hk.1.1, hk.1.2⟩⟩)), zq37, (zqK BK499.out), zq10, zq7, zq11⟩)
    ·
     skip
     refine Kd.R_lit_step k31 _ 31 ?hg (N := 49) ?hd (xs := ([(⟨(wrap64 (((rd_T31 t486 (ji17)).f0) + 1)), ((rd_T31 t486 t495).f1), ((rd_T31 t486 t495).f2), ((rd_T31 t486 t495).f3), x500004_19, wrap64 ((wrap64 (((rd_T31 t486 t495).f5) + 1)) + t501)⟩ : S31)] : List (S31))) (inner := [.int .i64 (wrap64 (((rd_T31 t486 (ji17)).f0) + 1)), .int .i64 ((rd_T31 t486 t495).f1), .int .i64 ((rd_T31 t486 t495).f2), .int .i64 ((rd_T31 t486 t495).f3), .int .i64 x500004_19, .int .i64 (wrap64 ((wrap64 (((rd_T31 t486 t495).f5) + 1)) + t501))]) (ok := fun _ => True) (okp := fun _ => True) ?hr ?hp (fun _ hk => hk) trivial (Below.refl _ _) (Nat.le_refl _) (by simp) ?_; (case hd => rfl); (case hg => rfl); (case hr => exact zqS); (case hp => exact (Reps.c6 (show Kd.M k31 _ _ _ (⟨(wrap64 (((rd_T31 t486 (ji17)).f0) + 1)), ((rd_T31 t486 t495).f1), ((rd_T31 t486 t495).f2), ((rd_T31 t486 t495).f3), x500004_19, wrap64 ((wrap64 (((rd_T31 t486 t495).f5) + 1)) + t501)⟩ : S31) [.int .i64 (wrap64 (((rd_T31 t486 (ji17)).f0) + 1)), .int .i64 ((rd_T31 t486 t495).f1), .int .i64 ((rd_T31 t486 t495).f2), .int .i64 ((rd_T31 t486 t495).f3), .int .i64 x500004_19, .int .i64 (wrap64 ((wrap64 (((rd_T31 t486 t495).f5) + 1)) + t501))] from (k31_mkM _ _ _ (⟨(wrap64 (((rd_T31 t486 (ji17)).f0) + 1)), ((rd_T31 t486 t495).f1), ((rd_T31 t486 t495).f2), ((rd_T31 t486 t495).f3), x500004_19, wrap64 ((wrap64 (((rd_T31 t486 t495).f5) + 1)) + t501)⟩ : S31) )) (Reps.none _ _)))
     intro v511 w36 ho37 hb hg_ hnew_
     clear hg_ hnew_
     (first | rw [← Ny510.out] at ho37 | (simp only [Int.reduceToNat] at ho37; rw [← Ny510.out] at ho37))
     have n0_ := Aside0.mk (Kd.R_elder' (zqR HO_3.out) (Kd.R_base ho37) hb)
     have n1_ := Aside0.mk (Kd.R_lower (Kd.R_newB (Kd.R_new' ho37 (Kd.R_lt (zqR HO_3.out))) (g := gb499) (o := .cells #[.int .i64 (wrap64 (((rd_T31 t486 (ji17)).f0) + 1)), .int .i64 ((rd_T31 t486 t495).f1), .int .i64 ((rd_T31 t486 t495).f2), .int .i64 ((rd_T31 t486 t495).f3), .int .i64 x500004_19, .int .i64 (wrap64 ((wrap64 (((rd_T31 t486 t495).f5) + 1)) + t501))] 31 (0, 0)) (zqK BK499.out)) (keep_size (w := w) (g := g) (row := none) zq7))
     have n2_ := Aside0.mk (blk_below (g := gb499) (o := .cells #[.int .i64 (wrap64 (((rd_T31 t486 (ji17)).f0) + 1)), .int .i64 ((rd_T31 t486 t495).f1), .int .i64 ((rd_T31 t486 t495).f2), .int .i64 ((rd_T31 t486 t495).f3), .int .i64 x500004_19, .int .i64 (wrap64 ((wrap64 (((rd_T31 t486 t495).f5) + 1)) + t501))] 31 (0, 0)) (zqK BK499.out) hb)
     have n3_ := Aside0.mk (IsS72.below zq10 hb)
     have n4_ := Aside0.mk (KeepBut.trans zq7 (KeepBut.of_below hb g none) (.inl rfl))
     have n5_ := Aside0.mk (below_step zq11 hb)
     clear HO_3
     clear BK499
     clear HI0
     clear HK
     clear HB
     have HO_3 := n0_
     have HO512 := n1_
     have BK499 := n2_
     have HI0 := n3_
     have HK := n4_
     have HB := n5_
     clear n0_ n1_ n2_ n3_ n4_ n5_
     clear hb ho37
     refine hK.out _ _ (bc6 BK499.out) (fun hHeld => ?_)
     clear hK K
     refine norm_ (a' := ?_) ?_ ?_
     rotate_left
     ·
      show Act.put _ (some 49) _ = _
      simp only [Act.put, List.setIfInBounds_toArray, List.set_cons_zero, List.set_cons_succ, i64_w, i32_w]
      rfl
     refine one_ (i := 0) (N := some 45) #[true, true, false, true, true, false, false] rfl rfl (by kernel_rfl) (by decide) (fun K hK => ?_)
     refine Kd.R_lit_step k31 _ 31 ?hg (N := 45) ?hd (xs := ([] : List (S31))) (inner := []) (ok := fun _ => True) (okp := fun _ => True) ?hr ?hp (fun _ hk => hk) trivial (Below.refl _ _) (Nat.le_refl _) (by simp) ?_; (case hd => rfl); (case hg => rfl); (case hr => exact zqS); (case hp => exact (Reps.none _ _))
     intro v505 w38 ho39 hb hg_ hnew_
     clear hg_ hnew_
     (first | rw [← Ny504.out] at ho39 | (simp only [Int.reduceToNat] at ho39; rw [← Ny504.out] at ho39))
     have n0_ := Aside0.mk (Kd.R_elder' (zqR HO_3.out) (Kd.R_base ho39) hb)
     have n1_ := Aside0.mk (Kd.R_elder' (zqR HO512.out) (Kd.R_base ho39) hb)
     have n2_ := Aside0.mk (Kd.R_lower (Kd.R_newB (Kd.R_new' (Kd.R_new' ho39 (Kd.R_lt (zqR HO_3.out))) (Kd.R_lt (zqR HO512.out))) (g := gb499) (o := .cells #[.int .i64 (wrap64 (((rd_T31 t486 (ji17)).f0) + 1)), .int .i64 ((rd_T31 t486 t495).f1), .int .i64 ((rd_T31 t486 t495).f2), .int .i64 ((rd_T31 t486 t495).f3), .int .i64 x500004_19, .int .i64 (wrap64 ((wrap64 (((rd_T31 t486 t495).f5) + 1)) + t501))] 31 (0, 0)) (zqK BK499.out)) (keep_size (w := w) (g := g) (row := none) zq7))
     have n3_ := Aside0.mk (blk_below (g := gb499) (o := .cells #[.int .i64 (wrap64 (((rd_T31 t486 (ji17)).f0) + 1)), .int .i64 ((rd_T31 t486 t495).f1), .int .i64 ((rd_T31 t486 t495).f2), .int .i64 ((rd_T31 t486 t495).f3), .int .i64 x500004_19, .int .i64 (wrap64 ((wrap64 (((rd_T31 t486 t495).f5) + 1)) + t501))] 31 (0, 0)) (zqK BK499.out) hb)
     have n4_ := Aside0.mk (IsS72.below zq10 hb)
     have n5_ := Aside0.mk (KeepBut.trans zq7 (KeepBut.of_below hb g none) (.inl rfl))
     have n6_ := Aside0.mk (below_step zq11 hb)
     clear HO_3
     clear HO512
     clear BK499
     clear HI0
     clear HK
     clear HB
     have HO_3 := n0_
     have HO512 := n1_
     have HO506 := n2_
     have BK499 := n3_
     have HI0 := n4_
     have HK := n5_
     have HB := n6_
     clear n0_ n1_ n2_ n3_ n4_ n5_ n6_
     clear hb ho39
     refine hK.out _ _ (bc6 BK499.out) (fun hHeld => ?_)
     clear hK K
     refine norm_ (a' := ?_) ?_ ?_
     rotate_left
     ·
      show Act.put _ (some 45) _ = _
      simp only [Act.put, List.setIfInBounds_toArray, List.set_cons_zero, List.set_cons_succ, i64_w, i32_w]
      rfl
     refine one_ (i := 2) (N := some 47) #[true, true, true, true, true, false, false] rfl rfl (by kernel_rfl) (by decide) (fun K hK => ?_)
     refine Kd.R_append_rows_step k31 w.heap.size (by rfl) (.tmp 45) (.tmp 46) 24 31 (.agg #[(.int .i64 0), (.int .i64 0), (.int .i64 0), (.int .i64 0), (.int .i64 0), (.int .i64 0)]) 48 rfl Try.underlying24 info31 rfl (by decide) (by omega) v505 y504 t486 _ _ _ (fun k_ => some k_ ≠ (.slice (some ad498) t486.length co5 : Value).ownBlock ∧ some k_ ≠ (v511 : Value).ownBlock ∧ k_ ≠ gb499) (fun _ => False) rfl rfl ?aO ?aR (fun _ _ h => h) (fun _ h => h.elim) ?aF (Below.refl _ _) ?aS ?aL ?_
     (case aR => exact zqC (Kd.R_reads' HO_3.out).2.2)
     (case aF => exact (fun k_ hk => ⟨Kd.fresh' (Kd.R_lt (zqR HO_3.out)) k_ hk, Kd.fresh' (Kd.R_lt (zqR HO512.out)) k_ hk, Kd.freshB (g := gb499) (o := .cells #[.int .i64 (wrap64 (((rd_T31 t486 (ji17)).f0) + 1)), .int .i64 ((rd_T31 t486 t495).f1), .int .i64 ((rd_T31 t486 t495).f2), .int .i64 ((rd_T31 t486 t495).f3), .int .i64 x500004_19, .int .i64 (wrap64 ((wrap64 (((rd_T31 t486 t495).f5) + 1)) + t501))] 31 (0, 0)) (zqK BK499.out) k_ hk⟩))
     (case aO => exact (by (with_reducible repeat (first | apply Kd.R_alloc | apply Kd.R_drewN | apply Kd.R_drew)); exact Kd.R_mono HO506.out (fun _ hk => ⟨hk.1.1.2, ⟨hk.1.2, hk.2⟩⟩)))
     (case aS => exact (keep_size (w := w) (g := g) (row := none) zq7))
     (case aL => have := LMc28.out; omega)
     intro v508 w40 ho hb hg hat
     rw [← Ny507.out] at ho
     have n0_ := Aside0.mk (Kd.R_after (ok := (fun k_ => some k_ ≠ (v511 : Value).ownBlock ∧ k_ ≠ gb499)) (by (with_reducible repeat (first | apply Kd.R_alloc | apply Kd.R_drewN | apply Kd.R_drew)); exact Kd.R_mono HO_3.out (fun _ hk => ⟨⟨hk.1.2, hk.1.1⟩, hk.2⟩)) hg hat)
     have n1_ := Aside0.mk (blk_grown (g := gb499) (o := .cells #[.int .i64 (wrap64 (((rd_T31 t486 (ji17)).f0) + 1)), .int .i64 ((rd_T31 t486 t495).f1), .int .i64 ((rd_T31 t486 t495).f2), .int .i64 ((rd_T31 t486 t495).f3), .int .i64 x500004_19, .int .i64 (wrap64 ((wrap64 (((rd_T31 t486 t495).f5) + 1)) + t501))] 31 (0, 0)) (zqK BK499.out) hg (Kd.R_away HO506.out (fun _ hk => hk.2)))
     have n2_ := Aside0.mk (IsS72.grown zq10 hg (IsS72.own_ne HI0.out HO506.out (by decide)))
     have n3_ := Aside0.mk (Kd.R_after (ok := (fun k_ => some k_ ≠ (.slice (some ad498) t486.length co5 : Value).ownBlock ∧ k_ ≠ gb499)) (by (with_reducible repeat (first | apply Kd.R_alloc | apply Kd.R_drewN | apply Kd.R_drew)); exact Kd.R_mono HO512.out (fun _ hk => ⟨⟨hk.1.1.2, hk.1.2⟩, hk.2⟩)) hg hat)
     have n4_ := Aside0.mk (below_weaken zq11 HL.out hb)
     have n5_ := Aside0.mk (KeepBut.trans zq7 (KeepBut.of_grown hg g) (Kd.R_base2 HO506.out))
     have n6_ := Aside0.mk (ho)
     clear HO_3
     clear BK499
     clear HI0
     clear HO512
     clear HB
     clear HK
     clear HO506
     have HO_3 := n0_
     have BK499 := n1_
     have HI0 := n2_
     have HO512 := n3_
     have HB := n4_
     have HK := n5_
     have HO509 := n6_
     clear n0_ n1_ n2_ n3_ n4_ n5_ n6_
     clear ho hb hg hat
     refine hK.out _ _ (bc6 BK499.out) (fun hHeld => ?_)
     clear hK K
     refine norm_ (a' := ?_) ?_ ?_
     rotate_left
     ·
      show Act.put _ (some 47) _ = _
      simp only [Act.put, List.setIfInBounds_toArray, List.set_cons_zero, List.set_cons_succ, i64_w, i32_w]
      rfl
     exact norm_ (by simp only [putAll, Act.put, List.setIfInBounds_toArray, List.set_cons_zero, List.set_cons_succ]) (hCont (v505, v508, v511) _ ⟨hHeld, zq42, (by (with_reducible repeat (first | apply Kd.R_alloc | apply Kd.R_drewN | apply Kd.R_drew)); exact Kd.R_mono HO512.out (fun _ hk => ⟨hk.2, ⟨hk.1.1, hk.1.2⟩⟩)), zq37, (zqK BK499.out), zq10, zq7, zq11⟩)
   rintro ⟨v505, v508, v511⟩ w41 ⟨hS_, h0_, h1_, h2_, h3_, h4_, h5_, h6_⟩
   have n0_ : Aside0 (Kd.R k31 31 w41 w.heap.size (fun k_ => some k_ ≠ (v511 : Value).ownBlock ∧ some k_ ≠ (.slice (some ad498) t486.length co5 : Value).ownBlock ∧ k_ ≠ gb499) v508 y507) := ⟨h0_⟩
   have n1_ : Aside0 (Kd.R k31 31 w41 w.heap.size (fun k_ => some k_ ≠ (v508 : Value).ownBlock ∧ some k_ ≠ (.slice (some ad498) t486.length co5 : Value).ownBlock ∧ k_ ≠ gb499) v511 y510) := ⟨h1_⟩
   have n2_ : Aside0 (Kd.R k31 31 w41 w.heap.size (fun k_ => some k_ ≠ (v508 : Value).ownBlock ∧ some k_ ≠ (v511 : Value).ownBlock ∧ k_ ≠ gb499) (.slice (some ad498) t486.length co5) t486) := ⟨h2_⟩
   have n3_ : Aside0 (w41.heap[gb499]? = some (.cells #[.int .i64 (wrap64 (((rd_T31 t486 (ji17)).f0) + 1)), .int .i64 ((rd_T31 t486 t495).f1), .int .i64 ((rd_T31 t486 t495).f2), .int .i64 ((rd_T31 t486 t495).f3), .int .i64 x500004_19, .int .i64 (wrap64 ((wrap64 (((rd_T31 t486 t495).f5) + 1)) + t501))] 31 (0, 0))) := ⟨h3_⟩
   have n4_ : Aside0 (IsS72 w0 w41 g s0_0 t502 t503) := ⟨h4_⟩
   have n5_ : Aside0 (KeepBut w w41 g none) := ⟨h5_⟩
   have n6_ : Aside0 (Below w0.heap.size w0 w41) := ⟨h6_⟩
   clear HO_3
   clear BK499
   clear HI0
   clear HK
   clear HB
   clear h0_ h1_ h2_ h3_ h4_ h5_ h6_
   have HO509 := n0_
   have HO512 := n1_
   have HO_3 := n2_
   have BK499 := n3_
   have HI0 := n4_
   have HK := n5_
   have HB := n6_
   clear n0_ n1_ n2_ n3_ n4_ n5_ n6_
   have hHeld : w41.cell? ⟨gb499, 0, none⟩ = some (.int .i64 (wrap64 (((rd_T31 t486 (ji17)).f0) + 1))) ∧ w41.cell? ⟨gb499, 1, none⟩ = some (.int .i64 ((rd_T31 t486 t495).f1)) ∧ w41.cell? ⟨gb499, 2, none⟩ = some (.int .i64 ((rd_T31 t486 t495).f2)) ∧ w41.cell? ⟨gb499, 3, none⟩ = some (.int .i64 ((rd_T31 t486 t495).f3)) ∧ w41.cell? ⟨gb499, 4, none⟩ = some (.int .i64 x500004_19) ∧ w41.cell? ⟨gb499, 5, none⟩ = some (.int .i64 (wrap64 ((wrap64 (((rd_T31 t486 t495).f5) + 1)) + t501))) := hS_
   obtain ⟨Ao43, co43, eo43⟩ := Kd.R_slice HO512.out
   (first | subst eo43 | (injection eo43 with f1_ f2_ f3_; have f4_ := f1_.symm; have f5_ := f3_.symm; clear f1_ f2_ f3_; subst f4_; subst f5_))
   refine norm_ (a' := ?_) ?_ ?_
   rotate_left
   ·
    simp only [putAll, Act.put, List.setIfInBounds_toArray, List.set_cons_zero, List.set_cons_succ]
    rfl
   refine one_ (i := 5) (N := some 50) #[true, true, true, true, true, true, false] rfl rfl (by kernel_rfl) (by decide) (fun K hK => ?_)
   refine Kd.R_append_rows_step k31 w.heap.size (by rfl) (.tmp 47) (.tmp 49) 24 31 (.agg #[(.int .i64 0), (.int .i64 0), (.int .i64 0), (.int .i64 0), (.int .i64 0), (.int .i64 0)]) 48 rfl Try.underlying24 info31 rfl (by decide) (by omega) v508 y507 y510 _ _ _ (fun k_ => some k_ ≠ (.slice (some ad498) t486.length co5 : Value).ownBlock ∧ some k_ ≠ (.slice Ao43 y510.length co43 : Value).ownBlock ∧ k_ ≠ gb499) (fun _ => False) rfl rfl ?aO ?aR (fun _ _ h => h) (fun _ h => h.elim) ?aF (Below.refl _ _) ?aS ?aL ?_
   (case aR => exact zqC (Kd.R_reads' HO512.out).2.2)
   (case aF => exact (fun k_ hk => ⟨Kd.fresh' (Kd.R_lt (zqR HO_3.out)) k_ hk, Kd.fresh' (Kd.R_lt (zqR HO512.out)) k_ hk, Kd.freshB (g := gb499) (o := .cells #[.int .i64 (wrap64 (((rd_T31 t486 (ji17)).f0) + 1)), .int .i64 ((rd_T31 t486 t495).f1), .int .i64 ((rd_T31 t486 t495).f2), .int .i64 ((rd_T31 t486 t495).f3), .int .i64 x500004_19, .int .i64 (wrap64 ((wrap64 (((rd_T31 t486 t495).f5) + 1)) + t501))] 31 (0, 0)) (zqK BK499.out) k_ hk⟩))
   (case aO => exact zq42)
   (case aS => exact (keep_size (w := w) (g := g) (row := none) zq7))
   (case aL => have := LMc29.out; omega)
   intro v514 w42 ho hb hg hat
   rw [← Ny513.out] at ho
   have n0_ := Aside0.mk (Kd.R_after (ok := (fun k_ => some k_ ≠ (.slice Ao43 y510.length co43 : Value).ownBlock ∧ k_ ≠ gb499)) (by (with_reducible repeat (first | apply Kd.R_alloc | apply Kd.R_drewN | apply Kd.R_drew)); exact Kd.R_mono HO_3.out (fun _ hk => ⟨⟨hk.2.1, hk.2.2⟩, hk.1⟩)) hg hat)
   have n1_ := Aside0.mk (blk_grown (g := gb499) (o := .cells #[.int .i64 (wrap64 (((rd_T31 t486 (ji17)).f0) + 1)), .int .i64 ((rd_T31 t486 t495).f1), .int .i64 ((rd_T31 t486 t495).f2), .int .i64 ((rd_T31 t486 t495).f3), .int .i64 x500004_19, .int .i64 (wrap64 ((wrap64 (((rd_T31 t486 t495).f5) + 1)) + t501))] 31 (0, 0)) (zqK BK499.out) hg (Kd.R_away HO509.out (fun _ hk => hk.2.2)))
   have n2_ := Aside0.mk (IsS72.grown zq10 hg (IsS72.own_ne HI0.out HO509.out (by decide)))
   have n3_ := Aside0.mk (Kd.R_after (ok := (fun k_ => some k_ ≠ (.slice (some ad498) t486.length co5 : Value).ownBlock ∧ k_ ≠ gb499)) (by (with_reducible repeat (first | apply Kd.R_alloc | apply Kd.R_drewN | apply Kd.R_drew)); exact Kd.R_mono HO512.out (fun _ hk => ⟨⟨hk.2.1, hk.2.2⟩, hk.1⟩)) hg hat)
   have n4_ := Aside0.mk (below_weaken zq11 HL.out hb)
   have n5_ := Aside0.mk (KeepBut.trans zq7 (KeepBut.of_grown hg g) (Kd.R_base2 HO509.out))
   have n6_ := Aside0.mk (ho)
   clear HO_3
   clear BK499
   clear HI0
   clear HO512
   clear HB
   clear HK
   clear HO509
   have HO_3 := n0_
   have BK499 := n1_
   have HI0 := n2_
   have HO512 := n3_
   have HB := n4_
   have HK := n5_
   have HO515 := n6_
   clear n0_ n1_ n2_ n3_ n4_ n5_ n6_
   clear ho hb hg hat
   refine hK.out _ _ (bc6 BK499.out) (fun hHeld => ?_)
   clear hK K
   refine norm_ (a' := ?_) ?_ ?_
   rotate_left
   ·
    show Act.put _ (some 50) _ = _
    simp only [Act.put, List.setIfInBounds_toArray, List.set_cons_zero, List.set_cons_succ, i64_w, i32_w]
    rfl
   refine pure_ (i := 6) (N := some 6) (v := ?_) (a' := ?_) #[true, true, true, true, true, true, true] rfl rfl (by kernel_rfl) (fun _ _ _ h => h) (Or.inl ⟨by rfl, ?_⟩) ?_ ?_
   rotate_left; · exact zqB
   rotate_left; · exact zqA
   refine done_ (by kernel_rfl) ?_
   go_upto_region 9 with (fail)
   go_cut [52] (fun v52 wc => ∃ (kq : Nat) (x52_29 : Bool), v52 = .bool x52_29 ∧ Aside0 (spec_l1Cur_touching.j2 kq t486 y513 x52_29 s0_0 t502 t503 = some (r1, r2, r3)) ∧ Aside0 (kq ≤ kj19) ∧ Aside0 (Kd.R k31 31 wc w.heap.size (fun k_ => some k_ ≠ (v514 : Value).ownBlock ∧ k_ ≠ gb499) (.slice (some ad498) t486.length co5) t486) ∧ Aside0 (Kd.R k31 31 wc w.heap.size (fun k_ => some k_ ≠ ((.slice (some ad498) t486.length co5) : Value).ownBlock ∧ k_ ≠ gb499) v514 y513) ∧ Aside0 (wc.heap[gb499]? = some (.cells #[.int .i64 (wrap64 (((rd_T31 t486 (ji17)).f0) + 1)), .int .i64 ((rd_T31 t486 t495).f1), .int .i64 ((rd_T31 t486 t495).f2), .int .i64 ((rd_T31 t486 t495).f3), .int .i64 x500004_19, .int .i64 (wrap64 ((wrap64 (((rd_T31 t486 t495).f5) + 1)) + t501))] 31 (0, 0))) ∧ Aside0 (IsS72 w0 wc g s0_0 t502 t503) ∧ Aside0 (KeepBut w wc g none) ∧ Aside0 (Below w0.heap.size w0 wc))
   case first =>
    have H := HC30.out
    clear HC30
    replace H := Option.bind_eq_some_iff.mp H
    obtain ⟨t516, A440, H⟩ := H
    replace H : (spec_l1Cur_touching.j2 kj19 t486 y513 t516 s0_0 t502 t503) = some (r1, r2, r3) := H
    have A44 := Aside0.mk A440
    clear A440
    have H' := Aside0.mk H
    clear H
    obtain ⟨Ao45, co45, eo45⟩ := Kd.R_slice HO515.out
    subst eo45
    go_wp2_with (first | ((with_reducible refine gate_callee (f := 63) rfl ?_); refine goesL_ (some 52) rfl rfl Try.func63 (by kernel_rfl) rfl #[.slice Ao45 y513.length co45] rfl zq1 ?_; (with_reducible refine (spec_l14List.calls kj19 _ _ y513 t516 _ ?side1 ?side2 A44.out).mono ?_); (case side1 => exact zqC (Kd.R_reads' HO515.out).2.2); (case side2 => exact (Kd.R_reads' HO515.out).2.1); rintro e w46 ⟨rfl, hb⟩; refine ⟨_, rfl, ?_⟩; have n0_ := Aside0.mk (Kd.R_below (zqR HO_3.out) hb); have n1_ := Aside0.mk (Kd.R_below (zqR HO512.out) hb); have n2_ := Aside0.mk (Kd.R_below (zqR HO515.out) hb); have n3_ := Aside0.mk (blk_below (g := gb499) (o := .cells #[.int .i64 (wrap64 (((rd_T31 t486 (ji17)).f0) + 1)), .int .i64 ((rd_T31 t486 t495).f1), .int .i64 ((rd_T31 t486 t495).f2), .int .i64 ((rd_T31 t486 t495).f3), .int .i64 x500004_19, .int .i64 (wrap64 ((wrap64 (((rd_T31 t486 t495).f5) + 1)) + t501))] 31 (0, 0)) (zqK BK499.out) hb); have n4_ := Aside0.mk (IsS72.below zq10 hb); have n5_ := Aside0.mk (KeepBut.trans zq7 (KeepBut.of_below hb g none) (.inl rfl)); have n6_ := Aside0.mk (below_step zq11 hb); clear HO_3; clear HO512; clear HO515; clear BK499; clear HI0; clear HK; clear HB; have HO_3 := n0_; have HO512 := n1_; have HO515 := n2_; have BK499 := n3_; have HI0 := n4_; have HK := n5_; have HB := n6_; clear n0_ n1_ n2_ n3_ n4_ n5_ n6_; (try clear hb); (try clear hb2); (try clear hk); (try clear hi)))
    go_meet
    case rel => exact ⟨_, (t516), (by first | rfl | (simp; done) | (simp [*]; done)), H', ⟨by have := HJ2.out; have := HJ19.out; first | omega | exact Nat.le_refl _⟩, ⟨by (with_reducible repeat (first | apply Kd.R_alloc | apply Kd.R_drewN | apply Kd.R_drew)); exact Kd.R_mono HO_3.out (fun _ hk => ⟨hk.2, hk.1.2⟩)⟩, ⟨by (with_reducible repeat (first | apply Kd.R_alloc | apply Kd.R_drewN | apply Kd.R_drew)); exact Kd.R_mono HO515.out (fun _ hk => ⟨hk.1, hk.2.2⟩)⟩, ⟨by (with_reducible repeat (first | refine blk_drewN ?_ _ | refine blk_drew ?_ | refine blk_alloc ?_ _)); exact BK499.out⟩, ⟨zq10⟩, ⟨zq7⟩, ⟨zq11⟩⟩
   clear HC30
   try clear c2
   try clear p2
   try clear p4
   try clear q4
   try clear hx4
   try clear c5
   try clear p5
   try clear q5
   try clear hx5
   try clear c6
   try clear p6
   try clear c28
   try clear c29
   try clear hx498_0
   try clear hx498_1
   try clear hx498_2
   try clear hx498_3
   try clear hx498_4
   try clear hx498_5
   try clear hx500_0
   try clear hx500_1
   try clear hx500_2
   try clear hx500_3
   try clear hx500_4
   try clear hx500_5
   try clear p2
   try clear p498
   try clear p500
   try clear q498
   try clear q500
   obtain ⟨kq, x52_29, rfl, HA, HJ29, HO_3, HO_6, BK499, HI0, HK, HB⟩ := hcut
   cases kq with
   | zero => exact absurd HA.out (by simp [spec_l1Cur_touching.j2])
   | succ kj29 =>
    have H := HA.out
    clear HA
    simp only [spec_l1Cur_touching.j2] at H
    by_cases c47 : x52_29 = true
    case pos =>
     subst c47
     have H1 : (some (y513, t502, t503)) = some (r1, r2, r3) := by rw [if_pos rfl] at H; exact H
     clear H
     have H := H1
     clear H1
     simp only [Option.some.injEq, Prod.mk.injEq] at H
     obtain ⟨rfl, rfl, rfl⟩ := H
     go_wp2
     go_ret
     exact ⟨_, by first | rfl | (simp [errW_none, errW_some] <;> rfl) | (simp only [← hji17]; first | rfl | (simp [errW_none, errW_some] <;> rfl)) | (simp [*, errW_none, errW_some] <;> rfl), by (with_reducible repeat (first | apply Kd.R_alloc | apply Kd.R_drewN | apply Kd.R_drew)); exact Kd.R_mono HO_6.out (fun _ hk => trivial), zq10, zq11, zq7⟩
    replace c47 := Bool.eq_false_iff.mpr c47
    subst c47
    have H1 : (some (t486, t502, t503)) = some (r1, r2, r3) := by rw [if_neg (show ¬ (false = true) by decide)] at H; exact H
    clear H
    have H := H1
    clear H1
    simp only [Option.some.injEq, Prod.mk.injEq] at H
    obtain ⟨rfl, rfl, rfl⟩ := H
    go_wp2
    go_ret
    exact ⟨_, by first | rfl | (simp [errW_none, errW_some] <;> rfl) | (simp only [← hji17]; first | rfl | (simp [errW_none, errW_some] <;> rfl)) | (simp [*, errW_none, errW_some] <;> rfl), by (with_reducible repeat (first | apply Kd.R_alloc | apply Kd.R_drewN | apply Kd.R_drew)); exact Kd.R_mono HO_3.out (fun _ hk => trivial), zq10, zq11, zq7⟩

/-! ### spec_DrawJoinWarnings: function 43 -/
def spec_DrawJoinWarnings.f (k : Nat) (l0 : List Int) : Option ((List (S31))) := (spec_l1Cur_touching.f k l0 0 0).bind fun bt909 => (some bt909.1)
theorem spec_DrawJoinWarnings.mono : ∀ a0 k, LeO (spec_DrawJoinWarnings.f k a0) (spec_DrawJoinWarnings.f (k + 1) a0) := by
 intro a0 k
 unfold spec_DrawJoinWarnings.f
 repeat' first
   | (with_reducible exact spec_l1Cur_touching.mono _ _ _ _)
   | (with_reducible exact LeO.refl _)
   | (with_reducible exact LeO.none _)
   | (with_reducible refine LeO.ite ?_ ?_)
   | (with_reducible refine LeO.bind ?_ (fun _ => ?_))
   | exact spec_l1Cur_touching.mono _ _ _ _
   | exact LeO.none _
   | refine LeO.ite ?_ ?_
   | refine LeO.bind ?_ (fun _ => ?_)
set_option maxHeartbeats 8000000 in
set_option maxRecDepth 100000 in
theorem spec_DrawJoinWarnings.calls (k : Nat) (A0 : Option Addr) (c0 : Nat) (l0 : List Int) (r : List (S31)) (w : World) (hr0 : Kd.C (Kd.int .u8) w A0 l0.length l0) (hc0 : l0.length ≤ c0) (h : spec_DrawJoinWarnings.f k l0 = some r) :
  Calls Try.prog 43 #[.slice A0 l0.length c0] w fun e w' => ∃ v0_ : Value, e = .returned (v0_) ∧ Kd.R k31 31 w' w.heap.size (fun _ => True) v0_ r ∧ Below w.heap.size w w' := by
 have hu72 := Try.underlying72
 have HR0 := Aside0.mk hr0
 have HC0 := Aside0.mk hc0
 clear hr0 hc0
 have HB := Aside0.mk (Below.refl w.heap.size w)
 have H : ((spec_l1Cur_touching.f k l0 0 0).bind fun bt909 => (some bt909.1)) = some r := h
 clear h
 replace H := Option.bind_eq_some_iff.mp H
 obtain ⟨⟨t909, t912, t913⟩, A20, H⟩ := H
 replace H : (some t909) = some r := H
 have A2 := Aside0.mk A20
 clear A20
 obtain rfl := Option.some.inj H
 go_enter Try.func43, Try.ntmps43
 go_wp2_with (first | ((with_reducible refine gate_dst (N := 6) rfl ?_); refine box_event ?hg (N := 6) ?hd (cs := #[.slice A0 l0.length c0, .int .i64 0, .int .u64 0]) (t := 72) ?hr ?_; (case hd => rfl); (case hg => rfl); (case hr => exact zqS); intro gb908 hg w3 hbox hb; have n0_ := Aside0.mk (below_step zq0 hb); have n1_ := Aside0.mk ((show IsS72 w w3 gb908 l0 0 0 from ⟨_, _, hbox, (by rw [hg]; exact (below_size zq0) : w.heap.size ≤ gb908), HR0.out⟩)); have n2_ := Aside0.mk ((by rw [hg]; exact (below_size zq0) : w.heap.size ≤ gb908)); have n3_ := n2_; clear HB; have HB := n0_; have HI908 := n1_; have GW908 := n2_; have GE908 := n3_; clear n0_ n1_ n2_ n3_; clear hb hbox hg) | ((with_reducible refine gate_callee (f := 76) rfl ?_); refine goesL_ (some 8) rfl rfl Try.func76 (by kernel_rfl) rfl #[.pointer (some ⟨gb908, 0, none⟩)] rfl zq1 ?_; (with_reducible refine (spec_l1Cur_touching.calls k gb908 l0 0 0 t909 t912 t913 w _ ?side1 ?side2 A2.out).mono ?_); (case side1 => exact (by repeat (first | (with_reducible first | exact HI908.out | apply IsS72.alloc | apply IsS72.drewN | apply IsS72.drew | apply IsS72.set_1 | apply IsS72.set_2) | exact HI908.out))); (case side2 => exact zq39); rintro e w4 ⟨v910, rfl, ho0, hi, hb, hk⟩; refine ⟨_, rfl, ?_⟩; have n0_ := Aside0.mk (Kd.R_lower ho0 (below_size zq39)); have n1_ := Aside0.mk (hb); have n2_ := Aside0.mk (hi); clear HB; clear HI908; have HO911 := n0_; have HB := n1_; have HI908 := n2_; clear n0_ n1_ n2_; (try clear hb); (try clear hb2); (try clear hk); (try clear hi); (try clear ho0)))
 go_ret
 exact ⟨_, by first | rfl | (simp [errW_none, errW_some] <;> rfl) | (simp [*, errW_none, errW_some] <;> rfl), zqR HO911.out, zq39⟩

/-! ### impl_within: function 60 -/
def impl_within.f (a0 : Int) (a1 : Int) (a2 : Int) : Option (Bool) := if a0 ≥ a1 then (some (decide (a0 ≤ a2))) else (some false)
set_option maxHeartbeats 8000000 in
set_option maxRecDepth 100000 in
theorem impl_within.calls (a0 : Int) (a1 : Int) (a2 : Int) (r : Bool) (w : World) (h : impl_within.f a0 a1 a2 = some r) :
  Calls Try.prog 60 #[.int .i64 a0, .int .i64 a1, .int .i64 a2] w fun e w' => e = .returned (.bool r) ∧ Drawn0 w w' := by
 have H : (if a0 ≥ a1 then (some (decide (a0 ≤ a2))) else (some false)) = some r := h
 clear h
 by_cases c4 : a0 ≥ a1
 case neg =>
  rw [if_neg c4] at H
  have c4b0 : decide (a1 ≤ a0) = false := decide_eq_false c4
  clear c4
  obtain rfl := Option.some.inj H
  go_enter Try.func60, Try.ntmps60
  go_wp2
  go_ret
  exact ⟨by first | rfl | (simp; done) | (simp [*]; done), zq25⟩
 rw [if_pos c4] at H
 have c4b0 : decide (a1 ≤ a0) = true := decide_eq_true c4
 clear c4
 obtain rfl := Option.some.inj H
 go_enter Try.func60, Try.ntmps60
 go_wp2
 go_ret
 exact ⟨by first | rfl | (simp; done) | (simp [*]; done), zq25⟩
theorem within_f (a b c : Int) : impl_within.f a b c = some (decide (b ≤ a ∧ a ≤ c)) := by
 unfold impl_within.f
 by_cases h1 : a ≥ b <;> by_cases h2 : a ≤ c <;> simp [h1, h2] <;> omega

end Go.Proofs.Ytklepiechbnenaa.Q
