/- Texts of this seat, put together: Qf53, Qf6, Qf32, LaW, LaEdit, LaJoin, LaDraw. -/
import Derived.Test.YtklepiechbnenaaZFnJoining
import Derived.Laws.BitsLemmas
import Derived.Test.YtklepiechbnenaaBFnJoining0
import Derived.Test.YtklepiechbnenaaBFnJoining1
import Derived.Test.YtklepiechbnenaaBFnJoining3
import Derived.Test.YtklepiechbnenaaBFnJoining4
import Derived.Test.YtklepiechbnenaaBFnJoining6
import Derived.Test.YtklepiechbnenaaBFnJoining7
import Derived.Test.YtklepiechbnenaaBFnJoining8
import Derived.Test.YtklepiechbnenaaBFnJoining9
import Derived.Test.YtklepiechbnenaaBFnJoining10
import Derived.Test.YtklepiechbnenaaBFnJoining11
namespace Go.Proofs.Ytklepiechbnenaa.Q
open Go.RowKit Go.Proofs.YtklepiechbnenaaW.PrintWords Go.Proofs.YtklepiechbnenaaW.PrintLast Go.Proofs.YtklepiechbnenaaW.PrintMore
attribute [local go_sem] max2_int min2_int max_two min_two max_three min_three max_four min_four   -- for this text's walks alone
set_option linter.unusedVariables false
set_option linter.unusedSimpArgs false

/-! ### spec_AreasAt: function 53 -/
mutual
def spec_AreasAt.j0 : Nat → List (S31) → Int → Int → List Int → Bool → Option (List Int × Bool)
 | 0, _, _, _, _, _ => none
 | k + 1, x0, x1, x2, x8, x23 => if x23 = true then (some (x8, false)) else (spec_AreasAt.l0 k x0 x1 x2 x8 1)
def spec_AreasAt.l0 : Nat → List (S31) → Int → Int → List Int → Int → Option (List Int × Bool)
 | 0, _, _, _, _, _ => none
 | k + 1, x0, x1, x2, x8, x9 => if x9 ≤ 9 then ((spec_l15Greatest.f k x0 x9 x2).bind fun t1048 => (if t1048 ≥ x1 then (if x8.length < 17592186044416 then (spec_AreasAt.l0 k x0 x1 x2 (x8 ++ [x9]) (wrap64 (x9 + 1))) else (none)) else (spec_AreasAt.l0 k x0 x1 x2 x8 (wrap64 (x9 + 1))))) else (some (x8, true))
end
def spec_AreasAt.f (k : Nat) (l0 : List (S31)) (a1 : Int) (a2 : Int) : Option (List Int × Bool) := (some (([] : List Int) : List Int)).bind fun y1042 => ((spec_l14List.f k l0).bind fun t1045 => (if t1045 = true then ((spec_l1In.f a1 1 3).bind fun t1046 => (if t1046 = true then ((spec_l15Hour.f a2).bind fun t1047 => (spec_AreasAt.j0 k l0 a1 a2 y1042 (!t1047))) else (spec_AreasAt.j0 k l0 a1 a2 y1042 true))) else (spec_AreasAt.j0 k l0 a1 a2 y1042 true)))
theorem spec_AreasAt.mono_l : ∀ k, (∀ y0 y1 y2 y3 y4, LeO (spec_AreasAt.j0 k y0 y1 y2 y3 y4) (spec_AreasAt.j0 (k + 1) y0 y1 y2 y3 y4)) ∧ (∀ y0 y1 y2 y3 y4, LeO (spec_AreasAt.l0 k y0 y1 y2 y3 y4) (spec_AreasAt.l0 (k + 1) y0 y1 y2 y3 y4))
 | 0 => ⟨fun _ _ _ _ _ r h => by simp [spec_AreasAt.j0] at h, fun _ _ _ _ _ r h => by simp [spec_AreasAt.l0] at h⟩
 | k + 1 => by
  obtain ⟨ih0, ih1⟩ := spec_AreasAt.mono_l k
  refine ⟨?_, ?_⟩
  ·
   intro y0 y1 y2 y3 y4
   unfold spec_AreasAt.j0
   repeat' first
   | (with_reducible exact ih0 _ _ _ _ _)
   | (with_reducible exact ih1 _ _ _ _ _)
   | (with_reducible exact spec_l14List.mono _ _)
   | (with_reducible exact spec_l15Greatest.mono _ _ _ _)
   | (with_reducible exact LeO.refl _)
   | (with_reducible exact LeO.none _)
   | (with_reducible refine LeO.ite ?_ ?_)
   | (with_reducible refine LeO.bind ?_ (fun _ => ?_))
   | exact ih0 _ _ _ _ _
   | exact ih1 _ _ _ _ _
   | exact spec_l14List.mono _ _
   | exact spec_l15Greatest.mono _ _ _ _
   | exact LeO.none _
   | refine LeO.ite ?_ ?_
   | refine LeO.bind ?_ (fun _ => ?_)
  ·
   intro y0 y1 y2 y3 y4
   unfold spec_AreasAt.l0
   repeat' first
   | (with_reducible exact ih0 _ _ _ _ _)
   | (with_reducible exact ih1 _ _ _ _ _)
   | (with_reducible exact spec_l14List.mono _ _)
   | (with_reducible exact spec_l15Greatest.mono _ _ _ _)
   | (with_reducible exact LeO.refl _)
   | (with_reducible exact LeO.none _)
   | (with_reducible refine LeO.ite ?_ ?_)
   | (with_reducible refine LeO.bind ?_ (fun _ => ?_))
   | exact ih0 _ _ _ _ _
   | exact ih1 _ _ _ _ _
   | exact spec_l14List.mono _ _
   | exact spec_l15Greatest.mono _ _ _ _
   | exact LeO.none _
   | refine LeO.ite ?_ ?_
   | refine LeO.bind ?_ (fun _ => ?_)
theorem spec_AreasAt.mono : ∀ a0 a1 a2 k, LeO (spec_AreasAt.f k a0 a1 a2) (spec_AreasAt.f (k + 1) a0 a1 a2) := by
 intro a0 a1 a2 k
 obtain ⟨ih0, ih1⟩ := spec_AreasAt.mono_l k
 unfold spec_AreasAt.f
 repeat' first
   | (with_reducible exact ih0 _ _ _ _ _)
   | (with_reducible exact ih1 _ _ _ _ _)
   | (with_reducible exact spec_l14List.mono _ _)
   | (with_reducible exact spec_l15Greatest.mono _ _ _ _)
   | (with_reducible exact LeO.refl _)
   | (with_reducible exact LeO.none _)
   | (with_reducible refine LeO.ite ?_ ?_)
   | (with_reducible refine LeO.bind ?_ (fun _ => ?_))
   | exact ih0 _ _ _ _ _
   | exact ih1 _ _ _ _ _
   | exact spec_l14List.mono _ _
   | exact spec_l15Greatest.mono _ _ _ _
   | exact LeO.none _
   | refine LeO.ite ?_ ?_
   | refine LeO.bind ?_ (fun _ => ?_)
set_option maxHeartbeats 8000000 in
set_option maxRecDepth 100000 in
theorem spec_AreasAt.calls (k : Nat) (A0 : Option Addr) (c0 : Nat) (l0 : List (S31)) (a1 : Int) (a2 : Int) (r1 : List Int) (r2 : Bool) (w : World) (hr0 : Kd.C k31 w A0 l0.length l0) (hc0 : l0.length ≤ c0) (h : spec_AreasAt.f k l0 a1 a2 = some (r1, r2)) :
  Calls Try.prog 53 #[.slice A0 l0.length c0, .int .i64 a1, .int .i64 a2] w fun e w' => ∃ v0_ : Value, e = .returned (.tuple #[v0_, .bool r2]) ∧ Kd.R (Kd.int .i64) 3 w' w.heap.size (fun _ => True) v0_ r1 ∧ Below w.heap.size w w' := by
 have HR0 := Aside0.mk hr0
 have HC0 := Aside0.mk hc0
 clear hr0 hc0
 have HB := Aside0.mk (Below.refl w.heap.size w)
 have H : ((some (([] : List Int) : List Int)).bind fun y1042 => ((spec_l14List.f k l0).bind fun t1045 => (if t1045 = true then ((spec_l1In.f a1 1 3).bind fun t1046 => (if t1046 = true then ((spec_l15Hour.f a2).bind fun t1047 => (spec_AreasAt.j0 k l0 a1 a2 y1042 (!t1047))) else (spec_AreasAt.j0 k l0 a1 a2 y1042 true))) else (spec_AreasAt.j0 k l0 a1 a2 y1042 true)))) = some (r1, r2) := h
 clear h
 obtain ⟨y1042, hy1042⟩ : ∃ y_ : List Int, y_ = (([] : List Int)) := ⟨_, rfl⟩
 replace H : ((spec_l14List.f k l0).bind fun t1045 => (if t1045 = true then ((spec_l1In.f a1 1 3).bind fun t1046 => (if t1046 = true then ((spec_l15Hour.f a2).bind fun t1047 => (spec_AreasAt.j0 k l0 a1 a2 y1042 (!t1047))) else (spec_AreasAt.j0 k l0 a1 a2 y1042 true))) else (spec_AreasAt.j0 k l0 a1 a2 y1042 true))) = some (r1, r2) := zqH hy1042 H
 have Ny1042 := Aside0.mk hy1042
 clear hy1042
 have HC4 := Aside0.mk H
 clear H
 go_enter Try.func53, Try.ntmps53
 go_upto_region 2 with (first | ((with_reducible refine gate_dst (N := 10) rfl ?_); refine Kd.R_lit (Kd.int .i64) _ 3 ?hg (N := 10) ?hd (xs := ([] : List Int)) (inner := []) (ok := fun _ => True) (okp := fun _ => True) ?hr ?hp (fun _ hk => hk) trivial (Below.refl _ _) (Nat.le_refl _) (by simp) ?_; (case hd => rfl); (case hg => rfl); (case hr => exact zqS); (case hp => exact (Reps.none _ _)); intro v1043 w5 ho6 hb hg_ hnew_; clear hg_ hnew_; (first | rw [← Ny1042.out] at ho6 | (simp only [Int.reduceToNat] at ho6; rw [← Ny1042.out] at ho6)); have n0_ := Aside0.mk (Kd.R_lower ho6 (below_size zq0)); have n1_ := Aside0.mk (below_step zq0 hb); clear HB; have HO1044 := n0_; have HB := n1_; clear n0_ n1_; clear hb ho6))
 (try simp only [Act.put, List.setIfInBounds_toArray, List.set_cons_zero, List.set_cons_succ])
 go_cut [23] (fun v23 wc => ∃ (kq : Nat) (x23_3 : Bool), v23 = .bool x23_3 ∧ Aside0 (spec_AreasAt.j0 kq l0 a1 a2 y1042 x23_3 = some (r1, r2)) ∧ Aside0 (kq ≤ k) ∧ Aside0 (Kd.R (Kd.int .i64) 3 wc w.heap.size (fun _ => True) v1043 y1042) ∧ Aside0 (Below w.heap.size w wc))
 case first =>
  have H := HC4.out
  clear HC4
  replace H := Option.bind_eq_some_iff.mp H
  obtain ⟨t1045, A70, H⟩ := H
  replace H : (if t1045 = true then ((spec_l1In.f a1 1 3).bind fun t1046 => (if t1046 = true then ((spec_l15Hour.f a2).bind fun t1047 => (spec_AreasAt.j0 k l0 a1 a2 y1042 (!t1047))) else (spec_AreasAt.j0 k l0 a1 a2 y1042 true))) else (spec_AreasAt.j0 k l0 a1 a2 y1042 true)) = some (r1, r2) := H
  have A7 := Aside0.mk A70
  clear A70
  by_cases c8 : t1045 = true
  case neg =>
   replace c8 := Bool.eq_false_iff.mpr c8
   subst c8
   have H1 : (spec_AreasAt.j0 k l0 a1 a2 y1042 true) = some (r1, r2) := by rw [if_neg (show ¬ (false = true) by decide)] at H; exact H
   clear H
   have H := H1
   clear H1
   have H' := Aside0.mk H
   clear H
   go_wp2_with (first | ((with_reducible refine gate_callee (f := 63) rfl ?_); refine goesL_ (some 12) rfl rfl Try.func63 (by kernel_rfl) rfl #[.slice A0 l0.length c0] rfl zq1 ?_; (with_reducible refine (spec_l14List.calls k _ _ l0 false _ ?side1 ?side2 A7.out).mono ?_); (case side1 => exact zqC (Kd.C_below HR0.out HB.out)); (case side2 => exact HC0.out); rintro e w14 ⟨rfl, hb⟩; refine ⟨_, rfl, ?_⟩; have n0_ := Aside0.mk (Kd.R_below (zqR HO1044.out) hb); have n1_ := Aside0.mk (below_step zq0 hb); clear HO1044; clear HB; have HO1044 := n0_; have HB := n1_; clear n0_ n1_; (try clear hb); (try clear hb2); (try clear hk); (try clear hi)))
   go_meet
   case rel => exact ⟨_, (true), (by first | rfl | (simp; done) | (simp [*]; done)), H', ⟨by first | omega | exact Nat.le_refl _⟩, ⟨zqR HO1044.out⟩, ⟨zq0⟩⟩
  subst c8
  have H1 : ((spec_l1In.f a1 1 3).bind fun t1046 => (if t1046 = true then ((spec_l15Hour.f a2).bind fun t1047 => (spec_AreasAt.j0 k l0 a1 a2 y1042 (!t1047))) else (spec_AreasAt.j0 k l0 a1 a2 y1042 true))) = some (r1, r2) := by rw [if_pos rfl] at H; exact H
  clear H
  have H := H1
  clear H1
  replace H := Option.bind_eq_some_iff.mp H
  obtain ⟨t1046, A90, H⟩ := H
  replace H : (if t1046 = true then ((spec_l15Hour.f a2).bind fun t1047 => (spec_AreasAt.j0 k l0 a1 a2 y1042 (!t1047))) else (spec_AreasAt.j0 k l0 a1 a2 y1042 true)) = some (r1, r2) := H
  have A9 := Aside0.mk A90
  clear A90
  by_cases c10 : t1046 = true
  case neg =>
   replace c10 := Bool.eq_false_iff.mpr c10
   subst c10
   have H1 : (spec_AreasAt.j0 k l0 a1 a2 y1042 true) = some (r1, r2) := by rw [if_neg (show ¬ (false = true) by decide)] at H; exact H
   clear H
   have H := H1
   clear H1
   have H' := Aside0.mk H
   clear H
   go_wp2_with (first | ((with_reducible refine gate_callee (f := 63) rfl ?_); refine goesL_ (some 12) rfl rfl Try.func63 (by kernel_rfl) rfl #[.slice A0 l0.length c0] rfl zq1 ?_; (with_reducible refine (spec_l14List.calls k _ _ l0 true _ ?side1 ?side2 A7.out).mono ?_); (case side1 => exact zqC (Kd.C_below HR0.out HB.out)); (case side2 => exact HC0.out); rintro e w13 ⟨rfl, hb⟩; refine ⟨_, rfl, ?_⟩; have n0_ := Aside0.mk (Kd.R_below (zqR HO1044.out) hb); have n1_ := Aside0.mk (below_step zq0 hb); clear HO1044; clear HB; have HO1044 := n0_; have HB := n1_; clear n0_ n1_; (try clear hb); (try clear hb2); (try clear hk); (try clear hi)) | (go_at_call 101; (with_reducible refine (spec_l1In.calls a1 1 3 false _ A9.out).mono ?_); rintro e w' ⟨rfl, ⟨nd, rfl⟩⟩))
   go_meet
   case rel => exact ⟨_, (true), (by first | rfl | (simp; done) | (simp [*]; done)), H', ⟨by first | omega | exact Nat.le_refl _⟩, ⟨zqR HO1044.out⟩, ⟨zq0⟩⟩
  subst c10
  have H1 : ((spec_l15Hour.f a2).bind fun t1047 => (spec_AreasAt.j0 k l0 a1 a2 y1042 (!t1047))) = some (r1, r2) := by rw [if_pos rfl] at H; exact H
  clear H
  have H := H1
  clear H1
  replace H := Option.bind_eq_some_iff.mp H
  obtain ⟨t1047, A110, H⟩ := H
  replace H : (spec_AreasAt.j0 k l0 a1 a2 y1042 (!t1047)) = some (r1, r2) := H
  have A11 := Aside0.mk A110
  clear A110
  have H' := Aside0.mk H
  clear H
  go_wp2_with (first | ((with_reducible refine gate_callee (f := 63) rfl ?_); refine goesL_ (some 12) rfl rfl Try.func63 (by kernel_rfl) rfl #[.slice A0 l0.length c0] rfl zq1 ?_; (with_reducible refine (spec_l14List.calls k _ _ l0 true _ ?side1 ?side2 A7.out).mono ?_); (case side1 => exact zqC (Kd.C_below HR0.out HB.out)); (case side2 => exact HC0.out); rintro e w12 ⟨rfl, hb⟩; refine ⟨_, rfl, ?_⟩; have n0_ := Aside0.mk (Kd.R_below (zqR HO1044.out) hb); have n1_ := Aside0.mk (below_step zq0 hb); clear HO1044; clear HB; have HO1044 := n0_; have HB := n1_; clear n0_ n1_; (try clear hb); (try clear hb2); (try clear hk); (try clear hi)) | (go_at_call 101; (with_reducible refine (spec_l1In.calls a1 1 3 true _ A9.out).mono ?_); rintro e w' ⟨rfl, ⟨nd, rfl⟩⟩) | (go_at_call 87; (with_reducible refine (spec_l15Hour.calls a2 t1047 _ A11.out).mono ?_); rintro e w' ⟨rfl, ⟨nd, rfl⟩⟩))
  go_meet
  case rel => exact ⟨_, (!t1047), (by first | rfl | (simp; done) | (simp [*]; done)), H', ⟨by first | omega | exact Nat.le_refl _⟩, ⟨zqR HO1044.out⟩, ⟨zq0⟩⟩
 clear HC4
 try clear c1
 try clear p2
 try clear c5
 try clear c6
 try clear c8
 try clear c10
 obtain ⟨kq, x23_3, rfl, HA, HJ3, HO_8, HB⟩ := hcut
 cases kq with
 | zero => exact absurd HA.out (by simp [spec_AreasAt.j0])
 | succ kj3 =>
  have H := HA.out
  clear HA
  simp only [spec_AreasAt.j0] at H
  by_cases c15 : x23_3 = true
  case pos =>
   subst c15
   have H1 : (some (y1042, false)) = some (r1, r2) := by rw [if_pos rfl] at H; exact H
   clear H
   have H := H1
   clear H1
   simp only [Option.some.injEq, Prod.mk.injEq] at H
   obtain ⟨rfl, rfl⟩ := H
   go_wp2
   go_ret2
   exact ⟨_, by first | rfl | (simp [errW_none, errW_some] <;> rfl) | (simp [*, errW_none, errW_some] <;> rfl), zqR HO_8.out, zq0⟩
  replace c15 := Bool.eq_false_iff.mpr c15
  subst c15
  have H1 : (spec_AreasAt.l0 kj3 l0 a1 a2 y1042 1) = some (r1, r2) := by rw [if_neg (show ¬ (false = true) by decide)] at H; exact H
  clear H
  have H := H1
  clear H1
  have H' := Aside0.mk H
  clear H
  go_wp2
  go_loopg [8, 9] kj3 (fun kq v8 v9 w' => ∃ (x8_2 : List Int) (x9_2 : Int), v9 = .int .i64 x9_2 ∧ Aside0 (spec_AreasAt.l0 kq l0 a1 a2 x8_2 x9_2 = some (r1, r2)) ∧ Aside0 (kq ≤ kj3) ∧ Aside0 (Kd.R (Kd.int .i64) 3 w' w.heap.size (fun _ => True) v8 x8_2) ∧ Aside0 (Below w.heap.size w w'))
  case atStart => exact ⟨(y1042), (1), (by first | rfl | (simp; done) | (simp [*]; done)), H', ⟨Nat.le_refl _⟩, ⟨zqR HO_8.out⟩, ⟨zq0⟩⟩
  clear H'
  try clear c1
  try clear p2
  try clear c5
  try clear c6
  try clear c8
  try clear c10
  try clear c15
  try clear p2
  obtain ⟨x8_2, x9_2, rfl, HA, HK2, HO_8, HB⟩ := hrel
  cases gk with
  | zero => exact absurd HA.out (by simp [spec_AreasAt.l0])
  | succ k2 =>
   have H := HA.out
   clear HA
   simp only [spec_AreasAt.l0] at H
   by_cases c16 : x9_2 ≤ 9
   case neg =>
    rw [if_neg c16] at H
    have c16b0 : decide (x9_2 ≤ 9) = false := decide_eq_false c16
    clear c16
    simp only [Option.some.injEq, Prod.mk.injEq] at H
    obtain ⟨rfl, rfl⟩ := H
    go_wp2
    go_ret2
    exact ⟨_, by first | rfl | (simp [errW_none, errW_some] <;> rfl) | (simp [*, errW_none, errW_some] <;> rfl), zqR HO_8.out, zq0⟩
   rw [if_pos c16] at H
   have c16b0 : decide (x9_2 ≤ 9) = true := decide_eq_true c16
   clear c16
   replace H := Option.bind_eq_some_iff.mp H
   obtain ⟨t1048, A170, H⟩ := H
   replace H : (if t1048 ≥ a1 then (if x8_2.length < 17592186044416 then (spec_AreasAt.l0 k2 l0 a1 a2 (x8_2 ++ [x9_2]) (wrap64 (x9_2 + 1))) else (none)) else (spec_AreasAt.l0 k2 l0 a1 a2 x8_2 (wrap64 (x9_2 + 1)))) = some (r1, r2) := H
   have A17 := Aside0.mk A170
   clear A170
   by_cases c18 : t1048 ≥ a1
   case neg =>
    rw [if_neg c18] at H
    have c18b0 : decide (a1 ≤ t1048) = false := decide_eq_false c18
    clear c18
    have H' := Aside0.mk H
    clear H
    go_wp2_with (first | ((with_reducible refine gate_callee (f := 88) rfl ?_); refine goesL_ (some 32) rfl rfl Try.func88 (by kernel_rfl) rfl #[.slice A0 l0.length c0, .int .i64 x9_2, .int .i64 a2] rfl zq1 ?_; (with_reducible refine (spec_l15Greatest.calls k2 _ _ l0 x9_2 a2 t1048 _ ?side1 ?side2 A17.out).mono ?_); (case side1 => exact zqC (Kd.C_below HR0.out HB.out)); (case side2 => exact HC0.out); rintro e w22 ⟨rfl, hb⟩; refine ⟨_, rfl, ?_⟩; have n0_ := Aside0.mk (Kd.R_below (zqR HO_8.out) hb); have n1_ := Aside0.mk (below_step zq0 hb); clear HO_8; clear HB; have HO_8 := n0_; have HB := n1_; clear n0_ n1_; (try clear hb); (try clear hb2); (try clear hk); (try clear hi)))
    go_roundg k2
    case measure => have := HJ3.out; have := HK2.out; omega
    case rel => exact ⟨(x8_2), (wrap64 (x9_2 + 1)), (by first | rfl | (simp; done) | (simp [*]; done)), H', ⟨by have := HJ3.out; have := HK2.out; omega⟩, ⟨zqR HO_8.out⟩, ⟨zq0⟩⟩
   rw [if_pos c18] at H
   have c18b0 : decide (a1 ≤ t1048) = true := decide_eq_true c18
   clear c18
   by_cases c19 : x8_2.length < 17592186044416
   case neg =>
    rw [if_neg c19] at H
    exact absurd H (by simp)
   rw [if_pos c19] at H
   have LMc19 := Aside0.mk c19
   clear c19
   obtain ⟨y1049, hy1049⟩ : ∃ y_ : List Int, y_ = (x8_2 ++ [x9_2]) := ⟨_, rfl⟩
   replace H : (spec_AreasAt.l0 k2 l0 a1 a2 y1049 (wrap64 (x9_2 + 1))) = some (r1, r2) := zqH hy1049 H
   have Ny1049 := Aside0.mk hy1049
   clear hy1049
   have H' := Aside0.mk H
   clear H
   go_wp2_with (first | ((with_reducible refine gate_callee (f := 88) rfl ?_); refine goesL_ (some 32) rfl rfl Try.func88 (by kernel_rfl) rfl #[.slice A0 l0.length c0, .int .i64 x9_2, .int .i64 a2] rfl zq1 ?_; (with_reducible refine (spec_l15Greatest.calls k2 _ _ l0 x9_2 a2 t1048 _ ?side1 ?side2 A17.out).mono ?_); (case side1 => exact zqC (Kd.C_below HR0.out HB.out)); (case side2 => exact HC0.out); rintro e w20 ⟨rfl, hb⟩; refine ⟨_, rfl, ?_⟩; have n0_ := Aside0.mk (Kd.R_below (zqR HO_8.out) hb); have n1_ := Aside0.mk (below_step zq0 hb); clear HO_8; clear HB; have HO_8 := n0_; have HB := n1_; clear n0_ n1_; (try clear hb); (try clear hb2); (try clear hk); (try clear hi)) | ((with_reducible refine gate_builtin (b := .append) (xs := #[.tmp 35, .tmp 37]) rfl ?_); at_builtin; refine Kd.R_append (Kd.int .i64) (w0 := w) w.heap.size rfl (.tmp 35) (.tmp 37) 54 3 (.int .i64 0) 8 rfl Try.underlying54 info3 rfl (by decide) (by omega) u8 x8_2 x9_2 [.int .i64 x9_2] (fun _ => True) (fun _ => False) rfl rfl ?aP (fun _ hk => hk.elim) ?aF ?aO ?aB ?aS ?aL ?_; (case aP => exact rfl); (case aB => exact zq0); (case aF => exact (fun _ _ => trivial)); (case aO => exact (zqR HO_8.out)); (case aS => exact (below_size zq0)); (case aL => have := LMc19.out; omega); intro v1050 w21 ho hb hg hat; rw [← Ny1049.out] at ho; have n0_ := Aside0.mk (hb); have n1_ := Aside0.mk (ho); clear HB; clear HO_8; have HB := n0_; have HO1051 := n1_; clear n0_ n1_; clear ho hb hg hat))
   go_roundg k2
   case measure => have := HJ3.out; have := HK2.out; omega
   case rel => exact ⟨(y1049), (wrap64 (x9_2 + 1)), (by first | rfl | (simp; done) | (simp [*]; done)), H', ⟨by have := HJ3.out; have := HK2.out; omega⟩, ⟨zqR HO1051.out⟩, ⟨zq0⟩⟩

/-! ### laws_FnJoining: function 6 -/
mutual
def laws_FnJoining.j0 : Nat → List Int → List (S31) → List (S31) → Bool → Bool → Option (Bool)
 | 0, _, _, _, _, _ => none
 | k + 1, x0, x3, x4, x5, x53 => if x53 = true then (none) else (if x5 = true then ((impl_SameStates.f k x3 x4).bind fun bt1065 => ((impl_JoinWarnings.f k x4).bind fun bt1067 => (if bt1065.2 = true then (if bt1065.1 = true then (if bt1067.2 = true then ((laws_vWarnings.f k bt1067.1 x4).bind fun t1071 => (if t1071 = true then (if (x4.length : Int) > (x3.length : Int) then (none) else (laws_FnJoining.j1 k x0)) else (none))) else (none)) else (none)) else (none)))) else (laws_FnJoining.j1 k x0))
def laws_FnJoining.j1 : Nat → List Int → Option (Bool)
 | 0, _ => none
 | k + 1, x0 => (spec_DrawSameStates.f k x0).bind fun bt1072 => ((impl_SameStates.f k bt1072.1 bt1072.2).bind fun bt1078 => ((spec_SameStates.f k bt1072.1 bt1072.2).bind fun bt1080 => (if (bt1078.1 != bt1080.1) = true then (none) else (laws_FnJoining.j2 k x0 bt1072.1 bt1072.2 bt1078.1 bt1078.2 (bt1078.2 != bt1080.2)))))
def laws_FnJoining.j2 : Nat → List Int → List (S31) → List (S31) → Bool → Bool → Bool → Option (Bool)
 | 0, _, _, _, _, _, _ => none
 | k + 1, x0, x12, x13, x14, x15, x113 => if x113 = true then (none) else ((impl_ChangeHours.f k x12).bind fun bt1082 => ((spec_ChangeHours.f k x12).bind fun bt1086 => (if (bt1082.2 != bt1086.2) = true then (none) else ((laws_vInts.f k bt1082.1 bt1086.1).bind fun t1090 => (laws_FnJoining.j3 k x0 x13 x14 x15 bt1082.1 (!t1090))))))
def laws_FnJoining.j3 : Nat → List Int → List (S31) → Bool → Bool → List Int → Bool → Option (Bool)
 | 0, _, _, _, _, _, _ => none
 | k + 1, x0, x13, x14, x15, x18, x132 => if x132 = true then (none) else (if x15 = true then (laws_FnJoining.j4 k x0 x13 x18 x14) else (laws_FnJoining.j4 k x0 x13 x18 false))
def laws_FnJoining.j4 : Nat → List Int → List (S31) → List Int → Bool → Option (Bool)
 | 0, _, _, _, _ => none
 | k + 1, x0, x13, x18, x136 => if x136 = true then ((impl_ChangeHours.f k x13).bind fun bt1091 => (if bt1091.2 = true then ((laws_vInts.f k bt1091.1 x18).bind fun t1095 => (if t1095 = true then (laws_FnJoining.j5 k x0) else (none))) else (none))) else (laws_FnJoining.j5 k x0)
def laws_FnJoining.j5 : Nat → List Int → Option (Bool)
 | 0, _ => none
 | k + 1, x0 => (spec_DrawAreasAt.f k x0).bind fun bt1096 => ((impl_AreasAt.f k bt1096.1 bt1096.2.1 bt1096.2.2).bind fun bt1101 => ((spec_AreasAt.f k bt1096.1 bt1096.2.1 bt1096.2.2).bind fun bt1105 => (if (bt1101.2 == bt1105.2) = true then ((laws_vInts.f k bt1101.1 bt1105.1).bind fun t1109 => (some t1109)) else (none))))
end
def laws_FnJoining.f (k : Nat) (l0 : List Int) : Option (Bool) := (laws_vBig.f l0).bind fun t1052 => (if t1052 = true then (some true) else ((spec_DrawJoinWarnings.f k l0).bind fun t1053 => ((impl_JoinWarnings.f k t1053).bind fun bt1056 => ((spec_JoinWarnings.f k t1053).bind fun bt1060 => (if (bt1056.2 != bt1060.2) = true then (none) else ((laws_vWarnings.f k bt1056.1 bt1060.1).bind fun t1064 => (laws_FnJoining.j0 k l0 t1053 bt1056.1 bt1056.2 (!t1064))))))))
theorem laws_FnJoining.mono_l : ∀ k, (∀ y0 y1 y2 y3 y4, LeO (laws_FnJoining.j0 k y0 y1 y2 y3 y4) (laws_FnJoining.j0 (k + 1) y0 y1 y2 y3 y4)) ∧ (∀ y0, LeO (laws_FnJoining.j1 k y0) (laws_FnJoining.j1 (k + 1) y0)) ∧ (∀ y0 y1 y2 y3 y4 y5, LeO (laws_FnJoining.j2 k y0 y1 y2 y3 y4 y5) (laws_FnJoining.j2 (k + 1) y0 y1 y2 y3 y4 y5)) ∧ (∀ y0 y1 y2 y3 y4 y5, LeO (laws_FnJoining.j3 k y0 y1 y2 y3 y4 y5) (laws_FnJoining.j3 (k + 1) y0 y1 y2 y3 y4 y5)) ∧ (∀ y0 y1 y2 y3, LeO (laws_FnJoining.j4 k y0 y1 y2 y3) (laws_FnJoining.j4 (k + 1) y0 y1 y2 y3)) ∧ (∀ y0, LeO (laws_FnJoining.j5 k y0) (laws_FnJoining.j5 (k + 1) y0))
 | 0 => ⟨fun _ _ _ _ _ r h => by simp [laws_FnJoining.j0] at h, fun _ r h => by simp [laws_FnJoining.j1] at h, fun _ _ _ _ _ _ r h => by simp [laws_FnJoining.j2] at h, fun _ _ _ _ _ _ r h => by simp [laws_FnJoining.j3] at h, fun _ _ _ _ r h => by simp [laws_FnJoining.j4] at h, fun _ r h => by simp [laws_FnJoining.j5] at h⟩
 | k + 1 => by
  obtain ⟨ih0, ih1, ih2, ih3, ih4, ih5⟩ := laws_FnJoining.mono_l k
  refine ⟨?_, ?_, ?_, ?_, ?_, ?_⟩
  ·
   intro y0 y1 y2 y3 y4
   unfold laws_FnJoining.j0
   repeat' first
   | (with_reducible exact ih0 _ _ _ _ _)
   | (with_reducible exact ih1 _)
   | (with_reducible exact ih2 _ _ _ _ _ _)
   | (with_reducible exact ih3 _ _ _ _ _ _)
   | (with_reducible exact ih4 _ _ _ _)
   | (with_reducible exact ih5 _)
   | (with_reducible exact impl_AreasAt.mono _ _ _ _)
   | (with_reducible exact impl_ChangeHours.mono _ _)
   | (with_reducible exact impl_JoinWarnings.mono _ _)
   | (with_reducible exact impl_SameStates.mono _ _ _)
   | (with_reducible exact laws_vInts.mono _ _ _)
   | (with_reducible exact laws_vWarnings.mono _ _ _)
   | (with_reducible exact spec_AreasAt.mono _ _ _ _)
   | (with_reducible exact spec_ChangeHours.mono _ _)
   | (with_reducible exact spec_DrawAreasAt.mono _ _)
   | (with_reducible exact spec_DrawJoinWarnings.mono _ _)
   | (with_reducible exact spec_DrawSameStates.mono _ _)
   | (with_reducible exact spec_JoinWarnings.mono _ _)
   | (with_reducible exact spec_SameStates.mono _ _ _)
   | (with_reducible exact LeO.refl _)
   | (with_reducible exact LeO.none _)
   | (with_reducible refine LeO.ite ?_ ?_)
   | (with_reducible refine LeO.bind ?_ (fun _ => ?_))
   | exact ih0 _ _ _ _ _
   | exact ih1 _
   | exact ih2 _ _ _ _ _ _
   | exact ih3 _ _ _ _ _ _
   | exact ih4 _ _ _ _
   | exact ih5 _
   | exact impl_AreasAt.mono _ _ _ _
   | exact impl_ChangeHours.mono _ _
   | exact impl_JoinWarnings.mono _ _
   | exact impl_SameStates.mono _ _ _
   | exact laws_vInts.mono _ _ _
   | exact laws_vWarnings.mono _ _ _
   | exact spec_AreasAt.mono _ _ _ _
   | exact spec_ChangeHours.mono _ _
   | exact spec_DrawAreasAt.mono _ _
   | exact spec_DrawJoinWarnings.mono _ _
   | exact spec_DrawSameStates.mono _ _
   | exact spec_JoinWarnings.mono _ _
   | exact spec_SameStates.mono _ _ _
   | exact LeO.none _
   | refine LeO.ite ?_ ?_
   | refine LeO.bind ?_ (fun _ => ?_)
  ·
   intro y0
   unfold laws_FnJoining.j1
   repeat' first
   | (with_reducible exact ih0 _ _ _ _ _)
   | (with_reducible exact ih1 _)
   | (with_reducible exact ih2 _ _ _ _ _ _)
   | (with_reducible exact ih3 _ _ _ _ _ _)
   | (with_reducible exact ih4 _ _ _ _)
   | (with_reducible exact ih5 _)
   | (with_reducible exact impl_AreasAt.mono _ _ _ _)
   | (with_reducible exact impl_ChangeHours.mono _ _)
   | (with_reducible exact impl_JoinWarnings.mono _ _)
   | (with_reducible exact impl_SameStates.mono _ _ _)
   | (with_reducible exact laws_vInts.mono _ _ _)
   | (with_reducible exact laws_vWarnings.mono _ _ _)
   | (with_reducible exact spec_AreasAt.mono _ _ _ _)
   | (with_reducible exact spec_ChangeHours.mono _ _)
   | (with_reducible exact spec_DrawAreasAt.mono _ _)
   | (with_reducible exact spec_DrawJoinWarnings.mono _ _)
   | (with_reducible exact spec_DrawSameStates.mono _ _)
   | (with_reducible exact spec_JoinWarnings.mono _ _)
   | (with_reducible exact spec_SameStates.mono _ _ _)
   | (with_reducible exact LeO.refl _)
   | (with_reducible exact LeO.none _)
   | (with_reducible refine LeO.ite ?_ ?_)
   | (with_reducible refine LeO.bind ?_ (fun _ => ?_))
   | exact ih0 _ _ _ _ _
   | exact ih1 _
   | exact ih2 _ _ _ _ _ _
   | exact ih3 _ _ _ _ _ _
   | exact ih4 _ _ _ _
   | exact ih5 _
   | exact impl_AreasAt.mono _ _ _ _
   | exact impl_ChangeHours.mono _ _
   | exact impl_JoinWarnings.mono _ _
   | exact impl_SameStates.mono _ _ _
   | exact laws_vInts.mono _ _ _
   | exact laws_vWarnings.mono _ _ _
   | exact spec_AreasAt.mono _ _ _ _
   | exact spec_ChangeHours.mono _ _
   | exact spec_DrawAreasAt.mono _ _
   | exact spec_DrawJoinWarnings.mono _ _
   | exact spec_DrawSameStates.mono _ _
   | exact spec_JoinWarnings.mono _ _
   | exact spec_SameStates.mono _ _ _
   | exact LeO.none _
   | refine LeO.ite ?_ ?_
   | refine LeO.bind ?_ (fun _ => ?_)
  ·
   intro y0 y1 y2 y3 y4 y5
   unfold laws_FnJoining.j2
   repeat' first
   | (with_reducible exact ih0 _ _ _ _ _)
   | (with_reducible exact ih1 _)
   | (with_reducible exact ih2 _ _ _ _ _ _)
   | (with_reducible exact ih3 _ _ _ _ _ _)
   | (with_reducible exact ih4 _ _ _ _)
   | (with_reducible exact ih5 _)
   | (with_reducible exact impl_AreasAt.mono _ _ _ _)
   | (with_reducible exact impl_ChangeHours.mono _ _)
   | (with_reducible exact impl_JoinWarnings.mono _ _)
   | (with_reducible exact impl_SameStates.mono _ _ _)
   | (with_reducible exact laws_vInts.mono _ _ _)
   | (with_reducible exact laws_vWarnings.mono _ _ _)
   | (with_reducible exact spec_AreasAt.mono _ _ _ _)
   | (with_reducible exact spec_ChangeHours.mono _ _)
   | (with_reducible exact spec_DrawAreasAt.mono _ _)
   | (with_reducible exact spec_DrawJoinWarnings.mono _ _)
   | (with_reducible exact spec_DrawSameStates.mono _ _)
   | (with_reducible exact spec_JoinWarnings.mono _ _)
   | (with_reducible exact spec_SameStates.mono _ _ _)
   | (with_reducible exact LeO.refl _)
   | (with_reducible exact LeO.none _)
   | (with_reducible refine LeO.ite ?_ ?_)
   | (with_reducible refine LeO.bind ?_ (fun _ => ?_))
   | exact ih0 _ _ _ _ _
   | exact ih1 _
   | exact ih2 _ _ _ _ _ _
   | exact ih3 _ _ _ _ _ _
   | exact ih4 _ _ _ _
   | exact ih5 _
   | exact impl_AreasAt.mono _ _ _ _
   | exact impl_ChangeHours.mono _ _
   | exact impl_JoinWarnings.mono _ _
   | exact impl_SameStates.mono _ _ _
   | exact laws_vInts.mono _ _ _
   | exact laws_vWarnings.mono _ _ _
   | exact spec_AreasAt.mono _ _ _ _
   | exact spec_ChangeHours.mono _ _
   | exact spec_DrawAreasAt.mono _ _
   | exact spec_DrawJoinWarnings.mono _ _
   | exact spec_DrawSameStates.mono _ _
   | exact spec_JoinWarnings.mono _ _
   | exact spec_SameStates.mono _ _ _
   | exact LeO.none _
   | refine LeO.ite ?_ ?_
   | refine LeO.bind ?_ (fun _ => ?_)
  ·
   intro y0 y1 y2 y3 y4 y5
   unfold laws_FnJoining.j3
   repeat' first
   | (with_reducible exact ih0 _ _ _ _ _)
   | (with_reducible exact ih1 _)
   | (with_reducible exact ih2 _ _ _ _ _ _)
   | (with_reducible exact ih3 _ _ _ _ _ _)
   | (with_reducible exact ih4 _ _ _ _)
   | (with_reducible exact ih5 _)
   | (with_reducible exact impl_AreasAt.mono _ _ _ _)
   | (with_reducible exact impl_ChangeHours.mono _ _)
   | (with_reducible exact impl_JoinWarnings.mono _ _)
   | (with_reducible exact impl_SameStates.mono _ _ _)
   | (with_reducible exact laws_vInts.mono _ _ _)
   | (with_reducible exact laws_vWarnings.mono _ _ _)
   | (with_reducible exact spec_AreasAt.mono _ _ _ _)
   | (with_reducible exact spec_ChangeHours.mono _ _)
   | (with_reducible exact spec_DrawAreasAt.mono _ _)
   | (with_reducible exact spec_DrawJoinWarnings.mono _ _)
   | (with_reducible exact spec_DrawSameStates.mono _ _)
   | (with_reducible exact spec_JoinWarnings.mono _ _)
   | (with_reducible exact spec_SameStates.mono _ _ _)
   | (with_reducible exact LeO.refl _)
   | (with_reducible exact LeO.none _)
   | (with_reducible refine LeO.ite ?_ ?_)
   | (with_reducible refine LeO.bind ?_ (fun _ => ?_))
   | exact ih0 _ _ _ _ _
   | exact ih1 _
   | exact ih2 _ _ _ _ _ _
   | exact ih3 _ _ _ _ _ _
   | exact ih4 _ _ _ _
   | exact ih5 _
   | exact impl_AreasAt.mono _ _ _ _
   | exact impl_ChangeHours.mono _ _
   | exact impl_JoinWarnings.mono _ _
   | exact impl_SameStates.mono _ _ _
   | exact laws_vInts.mono _ _ _
   | exact laws_vWarnings.mono _ _ _
   | exact spec_AreasAt.mono _ _ _ _
   | exact spec_ChangeHours.mono _ _
   | exact spec_DrawAreasAt.mono _ _
   | exact spec_DrawJoinWarnings.mono _ _
   | exact spec_DrawSameStates.mono _ _
   | exact spec_JoinWarnings.mono _ _
   | exact spec_SameStates.mono _ _ _
   | exact LeO.none _
   | refine LeO.ite ?_ ?_
   | refine LeO.bind ?_ (fun _ => ?_)
  ·
   intro y0 y1 y2 y3
   unfold laws_FnJoining.j4
   repeat' first
   | (with_reducible exact ih0 _ _ _ _ _)
   | (with_reducible exact ih1 _)
   | (with_reducible exact ih2 _ _ _ _ _ _)
   | (with_reducible exact ih3 _ _ _ _ _ _)
   | (with_reducible exact ih4 _ _ _ _)
   | (with_reducible exact ih5 _)
   | (with_reducible exact impl_AreasAt.mono _ _ _ _)
   | (with_reducible exact impl_ChangeHours.mono _ _)
   | (with_reducible exact impl_JoinWarnings.mono _ _)
   | (with_reducible exact impl_SameStates.mono _ _ _)
   | (with_reducible exact laws_vInts.mono _ _ _)
   | (with_reducible exact laws_vWarnings.mono _ _ _)
   | (with_reducible exact spec_AreasAt.mono _ _ _ _)
   | (with_reducible exact spec_ChangeHours.mono _ _)
   | (with_reducible exact spec_DrawAreasAt.mono _ _)
   | (with_reducible exact spec_DrawJoinWarnings.mono _ _)
   | (with_reducible exact spec_DrawSameStates.mono _ _)
   | (with_reducible exact spec_JoinWarnings.mono _ _)
   | (with_reducible exact spec_SameStates.mono _ _ _)
   | (with_reducible exact LeO.refl _)
   | (with_reducible exact LeO.none _)
   | (with_reducible refine LeO.ite ?_ ?_)
   | (with_reducible refine LeO.bind ?_ (fun _ => ?_))
   | exact ih0 _ _ _ _ _
   | exact ih1 _
   | exact ih2 _ _ _ _ _ _
   | exact ih3 _ _ _ _ _ _
   | exact ih4 _ _ _ _
   | exact ih5 _
   | exact impl_AreasAt.mono _ _ _ _
   | exact impl_ChangeHours.mono _ _
   | exact impl_JoinWarnings.mono _ _
   | exact impl_SameStates.mono _ _ _
   | exact laws_vInts.mono _ _ _
   | exact laws_vWarnings.mono _ _ _
   | exact spec_AreasAt.mono _ _ _ _
   | exact spec_ChangeHours.mono _ _
   | exact spec_DrawAreasAt.mono _ _
   | exact spec_DrawJoinWarnings.mono _ _
   | exact spec_DrawSameStates.mono _ _
   | exact spec_JoinWarnings.mono _ _
   | exact spec_SameStates.mono _ _ _
   | exact LeO.none _
   | refine LeO.ite ?_ ?_
   | refine LeO.bind ?_ (fun _ => ?_)
  ·
   intro y0
   unfold laws_FnJoining.j5
   repeat' first
   | (with_reducible exact ih0 _ _ _ _ _)
   | (with_reducible exact ih1 _)
   | (with_reducible exact ih2 _ _ _ _ _ _)
   | (with_reducible exact ih3 _ _ _ _ _ _)
   | (with_reducible exact ih4 _ _ _ _)
   | (with_reducible exact ih5 _)
   | (with_reducible exact impl_AreasAt.mono _ _ _ _)
   | (with_reducible exact impl_ChangeHours.mono _ _)
   | (with_reducible exact impl_JoinWarnings.mono _ _)
   | (with_reducible exact impl_SameStates.mono _ _ _)
   | (with_reducible exact laws_vInts.mono _ _ _)
   | (with_reducible exact laws_vWarnings.mono _ _ _)
   | (with_reducible exact spec_AreasAt.mono _ _ _ _)
   | (with_reducible exact spec_ChangeHours.mono _ _)
   | (with_reducible exact spec_DrawAreasAt.mono _ _)
   | (with_reducible exact spec_DrawJoinWarnings.mono _ _)
   | (with_reducible exact spec_DrawSameStates.mono _ _)
   | (with_reducible exact spec_JoinWarnings.mono _ _)
   | (with_reducible exact spec_SameStates.mono _ _ _)
   | (with_reducible exact LeO.refl _)
   | (with_reducible exact LeO.none _)
   | (with_reducible refine LeO.ite ?_ ?_)
   | (with_reducible refine LeO.bind ?_ (fun _ => ?_))
   | exact ih0 _ _ _ _ _
   | exact ih1 _
   | exact ih2 _ _ _ _ _ _
   | exact ih3 _ _ _ _ _ _
   | exact ih4 _ _ _ _
   | exact ih5 _
   | exact impl_AreasAt.mono _ _ _ _
   | exact impl_ChangeHours.mono _ _
   | exact impl_JoinWarnings.mono _ _
   | exact impl_SameStates.mono _ _ _
   | exact laws_vInts.mono _ _ _
   | exact laws_vWarnings.mono _ _ _
   | exact spec_AreasAt.mono _ _ _ _
   | exact spec_ChangeHours.mono _ _
   | exact spec_DrawAreasAt.mono _ _
   | exact spec_DrawJoinWarnings.mono _ _
   | exact spec_DrawSameStates.mono _ _
   | exact spec_JoinWarnings.mono _ _
   | exact spec_SameStates.mono _ _ _
   | exact LeO.none _
   | refine LeO.ite ?_ ?_
   | refine LeO.bind ?_ (fun _ => ?_)
theorem laws_FnJoining.mono : ∀ a0 k, LeO (laws_FnJoining.f k a0) (laws_FnJoining.f (k + 1) a0) := by
 intro a0 k
 obtain ⟨ih0, ih1, ih2, ih3, ih4, ih5⟩ := laws_FnJoining.mono_l k
 unfold laws_FnJoining.f
 repeat' first
   | (with_reducible exact ih0 _ _ _ _ _)
   | (with_reducible exact ih1 _)
   | (with_reducible exact ih2 _ _ _ _ _ _)
   | (with_reducible exact ih3 _ _ _ _ _ _)
   | (with_reducible exact ih4 _ _ _ _)
   | (with_reducible exact ih5 _)
   | (with_reducible exact impl_AreasAt.mono _ _ _ _)
   | (with_reducible exact impl_ChangeHours.mono _ _)
   | (with_reducible exact impl_JoinWarnings.mono _ _)
   | (with_reducible exact impl_SameStates.mono _ _ _)
   | (with_reducible exact laws_vInts.mono _ _ _)
   | (with_reducible exact laws_vWarnings.mono _ _ _)
   | (with_reducible exact spec_AreasAt.mono _ _ _ _)
   | (with_reducible exact spec_ChangeHours.mono _ _)
   | (with_reducible exact spec_DrawAreasAt.mono _ _)
   | (with_reducible exact spec_DrawJoinWarnings.mono _ _)
   | (with_reducible exact spec_DrawSameStates.mono _ _)
   | (with_reducible exact spec_JoinWarnings.mono _ _)
   | (with_reducible exact spec_SameStates.mono _ _ _)
   | (with_reducible exact LeO.refl _)
   | (with_reducible exact LeO.none _)
   | (with_reducible refine LeO.ite ?_ ?_)
   | (with_reducible refine LeO.bind ?_ (fun _ => ?_))
   | exact ih0 _ _ _ _ _
   | exact ih1 _
   | exact ih2 _ _ _ _ _ _
   | exact ih3 _ _ _ _ _ _
   | exact ih4 _ _ _ _
   | exact ih5 _
   | exact impl_AreasAt.mono _ _ _ _
   | exact impl_ChangeHours.mono _ _
   | exact impl_JoinWarnings.mono _ _
   | exact impl_SameStates.mono _ _ _
   | exact laws_vInts.mono _ _ _
   | exact laws_vWarnings.mono _ _ _
   | exact spec_AreasAt.mono _ _ _ _
   | exact spec_ChangeHours.mono _ _
   | exact spec_DrawAreasAt.mono _ _
   | exact spec_DrawJoinWarnings.mono _ _
   | exact spec_DrawSameStates.mono _ _
   | exact spec_JoinWarnings.mono _ _
   | exact spec_SameStates.mono _ _ _
   | exact LeO.none _
   | refine LeO.ite ?_ ?_
   | refine LeO.bind ?_ (fun _ => ?_)
set_option maxHeartbeats 8000000 in
set_option maxRecDepth 100000 in
theorem laws_FnJoining.calls (k : Nat) (A0 : Option Addr) (c0 : Nat) (l0 : List Int) (r : Bool) (w : World) (hr0 : Kd.C (Kd.int .u8) w A0 l0.length l0) (hc0 : l0.length ≤ c0) (h : laws_FnJoining.f k l0 = some r) :
  Calls Try.prog 6 #[.slice A0 l0.length c0] w fun e w' => e = .returned (.bool r) ∧ Below w.heap.size w w' := by
 have HR0 := Aside0.mk hr0
 have HC0 := Aside0.mk hc0
 clear hr0 hc0
 have HB := Aside0.mk (Below.refl w.heap.size w)
 have H : ((laws_vBig.f l0).bind fun t1052 => (if t1052 = true then (some true) else ((spec_DrawJoinWarnings.f k l0).bind fun t1053 => ((impl_JoinWarnings.f k t1053).bind fun bt1056 => ((spec_JoinWarnings.f k t1053).bind fun bt1060 => (if (bt1056.2 != bt1060.2) = true then (none) else ((laws_vWarnings.f k bt1056.1 bt1060.1).bind fun t1064 => (laws_FnJoining.j0 k l0 t1053 bt1056.1 bt1056.2 (!t1064))))))))) = some r := h
 clear h
 replace H := Option.bind_eq_some_iff.mp H
 obtain ⟨t1052, A20, H⟩ := H
 replace H : (if t1052 = true then (some true) else ((spec_DrawJoinWarnings.f k l0).bind fun t1053 => ((impl_JoinWarnings.f k t1053).bind fun bt1056 => ((spec_JoinWarnings.f k t1053).bind fun bt1060 => (if (bt1056.2 != bt1060.2) = true then (none) else ((laws_vWarnings.f k bt1056.1 bt1060.1).bind fun t1064 => (laws_FnJoining.j0 k l0 t1053 bt1056.1 bt1056.2 (!t1064)))))))) = some r := H
 have A2 := Aside0.mk A20
 clear A20
 by_cases c3 : t1052 = true
 case pos =>
  subst c3
  have H1 : (some true) = some r := by rw [if_pos rfl] at H; exact H
  clear H
  have H := H1
  clear H1
  obtain rfl := Option.some.inj H
  go_enter Try.func6, Try.ntmps6
  go_wp2_with (first | ((with_reducible refine gate_callee (f := 7) rfl ?_); refine goesL_ (some 32) rfl rfl Try.func7 (by kernel_rfl) rfl #[.slice A0 l0.length c0] rfl zq1 ?_; (with_reducible refine (laws_vBig.calls _ _ l0 true _ ?side1 ?side2 A2.out).mono ?_); (case side1 => exact zqC HR0.out); (case side2 => exact HC0.out); rintro e w' ⟨rfl, ⟨nd, rfl⟩⟩; refine ⟨_, rfl, ?_⟩))
  go_ret
  exact ⟨zqE, zq0⟩
 replace c3 := Bool.eq_false_iff.mpr c3
 subst c3
 have H1 : ((spec_DrawJoinWarnings.f k l0).bind fun t1053 => ((impl_JoinWarnings.f k t1053).bind fun bt1056 => ((spec_JoinWarnings.f k t1053).bind fun bt1060 => (if (bt1056.2 != bt1060.2) = true then (none) else ((laws_vWarnings.f k bt1056.1 bt1060.1).bind fun t1064 => (laws_FnJoining.j0 k l0 t1053 bt1056.1 bt1056.2 (!t1064))))))) = some r := by rw [if_neg (show ¬ (false = true) by decide)] at H; exact H
 clear H
 have H := H1
 clear H1
 replace H := Option.bind_eq_some_iff.mp H
 obtain ⟨t1053, A40, H⟩ := H
 replace H : ((impl_JoinWarnings.f k t1053).bind fun bt1056 => ((spec_JoinWarnings.f k t1053).bind fun bt1060 => (if (bt1056.2 != bt1060.2) = true then (none) else ((laws_vWarnings.f k bt1056.1 bt1060.1).bind fun t1064 => (laws_FnJoining.j0 k l0 t1053 bt1056.1 bt1056.2 (!t1064)))))) = some r := H
 have A4 := Aside0.mk A40
 clear A40
 replace H := Option.bind_eq_some_iff.mp H
 obtain ⟨⟨t1056, t1057⟩, A50, H⟩ := H
 replace H : ((spec_JoinWarnings.f k t1053).bind fun bt1060 => (if (t1057 != bt1060.2) = true then (none) else ((laws_vWarnings.f k t1056 bt1060.1).bind fun t1064 => (laws_FnJoining.j0 k l0 t1053 t1056 t1057 (!t1064))))) = some r := H
 have A5 := Aside0.mk A50
 clear A50
 replace H := Option.bind_eq_some_iff.mp H
 obtain ⟨⟨t1060, t1061⟩, A60, H⟩ := H
 replace H : (if (t1057 != t1061) = true then (none) else ((laws_vWarnings.f k t1056 t1060).bind fun t1064 => (laws_FnJoining.j0 k l0 t1053 t1056 t1057 (!t1064)))) = some r := H
 have A6 := Aside0.mk A60
 clear A60
 have HC7 := Aside0.mk H
 clear H
 go_enter Try.func6, Try.ntmps6
 go_upto_region 6 with (first | ((with_reducible refine gate_callee (f := 7) rfl ?_); refine goesL_ (some 32) rfl rfl Try.func7 (by kernel_rfl) rfl #[.slice A0 l0.length c0] rfl zq1 ?_; (with_reducible refine (laws_vBig.calls _ _ l0 false _ ?side1 ?side2 A2.out).mono ?_); (case side1 => exact zqC HR0.out); (case side2 => exact HC0.out); rintro e w' ⟨rfl, ⟨nd, rfl⟩⟩; refine ⟨_, rfl, ?_⟩) | ((with_reducible refine gate_callee (f := 43) rfl ?_); refine goesL_ (some 34) rfl rfl Try.func43 (by kernel_rfl) rfl #[.slice A0 l0.length c0] rfl zq1 ?_; (with_reducible refine (spec_DrawJoinWarnings.calls k _ _ l0 t1053 _ ?side1 ?side2 A4.out).mono ?_); (case side1 => exact zqC HR0.out); (case side2 => exact HC0.out); rintro e w8 ⟨v1054, rfl, ho0, hb⟩; refine ⟨_, rfl, ?_⟩; have n0_ := Aside0.mk (Kd.R_lower ho0 (below_size zq0)); have n1_ := Aside0.mk (below_step zq0 hb); clear HB; have HO1055 := n0_; have HB := n1_; clear n0_ n1_; (try clear hb); (try clear hb2); (try clear hk); (try clear hi); (try clear ho0); obtain ⟨Ao9, co9, eo9⟩ := Kd.R_slice HO1055.out; subst eo9) | ((with_reducible refine gate_callee (f := 44) rfl ?_); refine goesL_ (some 37) rfl rfl Try.func44 (by kernel_rfl) rfl #[.slice Ao9 t1053.length co9] rfl zq1 ?_; (with_reducible refine (impl_JoinWarnings.calls k _ _ t1053 t1056 t1057 _ ?side1 ?side2 A5.out).mono ?_); (case side1 => exact zqC (Kd.R_reads' HO1055.out).2.2); (case side2 => exact (Kd.R_reads' HO1055.out).2.1); rintro e w10 ⟨v1058, rfl, ho0, hb⟩; refine ⟨_, rfl, ?_⟩; have n0_ := Aside0.mk (Kd.R_elder' (zqR HO1055.out) (Kd.R_base ho0) hb); have n1_ := Aside0.mk (Kd.R_lower (Kd.R_new' ho0 (Kd.R_lt (zqR HO1055.out))) (below_size zq0)); have n2_ := Aside0.mk (below_step zq0 hb); clear HO1055; clear HB; have HO1055 := n0_; have HO1059 := n1_; have HB := n2_; clear n0_ n1_ n2_; (try clear hb); (try clear hb2); (try clear hk); (try clear hi); (try clear ho0)) | ((with_reducible refine gate_callee (f := 45) rfl ?_); refine goesL_ (some 42) rfl rfl Try.func45 (by kernel_rfl) rfl #[.slice Ao9 t1053.length co9] rfl zq1 ?_; (with_reducible refine (spec_JoinWarnings.calls k _ _ t1053 t1060 t1061 _ ?side1 ?side2 A6.out).mono ?_); (case side1 => exact zqC (Kd.R_reads' HO1055.out).2.2); (case side2 => exact (Kd.R_reads' HO1055.out).2.1); rintro e w11 ⟨v1062, rfl, ho0, hb⟩; refine ⟨_, rfl, ?_⟩; have n0_ := Aside0.mk (Kd.R_elder' (zqR HO1055.out) (Kd.R_base ho0) hb); have n1_ := Aside0.mk (Kd.R_elder' (zqR HO1059.out) (Kd.R_base ho0) hb); have n2_ := Aside0.mk (Kd.R_lower (Kd.R_new' (Kd.R_new' ho0 (Kd.R_lt (zqR HO1055.out))) (Kd.R_lt (zqR HO1059.out))) (below_size zq0)); have n3_ := Aside0.mk (below_step zq0 hb); clear HO1055; clear HO1059; clear HB; have HO1055 := n0_; have HO1059 := n1_; have HO1063 := n2_; have HB := n3_; clear n0_ n1_ n2_ n3_; (try clear hb); (try clear hb2); (try clear hk); (try clear hi); (try clear ho0)))
 (try simp only [Act.put, List.setIfInBounds_toArray, List.set_cons_zero, List.set_cons_succ])
 go_cut [53] (fun v53 wc => ∃ (kq : Nat) (x53_6 : Bool), v53 = .bool x53_6 ∧ Aside0 (laws_FnJoining.j0 kq l0 t1053 t1056 t1057 x53_6 = some r) ∧ Aside0 (kq ≤ k) ∧ Aside0 (Kd.R k31 31 wc w.heap.size (fun k_ => some k_ ≠ (v1058 : Value).ownBlock) (.slice Ao9 t1053.length co9) t1053) ∧ Aside0 (Kd.R k31 31 wc w.heap.size (fun k_ => some k_ ≠ ((.slice Ao9 t1053.length co9) : Value).ownBlock) v1058 t1056) ∧ Aside0 (Below w.heap.size w wc))
 case first =>
  have H := HC7.out
  clear HC7
  by_cases c12 : (t1057 != t1061) = true
  case pos =>
   rw [if_pos c12] at H
   exact absurd H (by simp)
  rw [if_neg c12] at H
  have c12b0 : (t1057 != t1061) = false := by simpa using c12
  (try (have c12b1 : decide (t1057 = t1061) = true := by simpa using c12))
  (try (have c12b2 : (t1057 == t1061) = true := by simpa using c12))
  clear c12
  (first | rw [c12b0] | (simp only [i64_w, i32_w]; rw [c12b0]) | rw [c12b1] | skip)
  replace H := Option.bind_eq_some_iff.mp H
  obtain ⟨t1064, A130, H⟩ := H
  replace H : (laws_FnJoining.j0 k l0 t1053 t1056 t1057 (!t1064)) = some r := H
  have A13 := Aside0.mk A130
  clear A130
  have H' := Aside0.mk H
  clear H
  obtain ⟨Ao14, co14, eo14⟩ := Kd.R_slice HO1059.out
  subst eo14
  obtain ⟨Ao15, co15, eo15⟩ := Kd.R_slice HO1063.out
  subst eo15
  go_wp2_with (first | (go_at_call 11; (with_reducible refine (laws_vWarnings.calls k _ _ t1056 _ _ t1060 t1064 _ ?side1 ?side2 ?side3 ?side4 A13.out).mono ?_); (case side1 => exact zqC (Kd.R_reads' HO1059.out).2.2); (case side2 => exact (Kd.R_reads' HO1059.out).2.1); (case side3 => exact zqC (Kd.R_reads' HO1063.out).2.2); (case side4 => exact (Kd.R_reads' HO1063.out).2.1); rintro e w' ⟨rfl, ⟨nd, rfl⟩⟩))
  go_meet
  case rel => exact ⟨_, (!t1064), (by first | rfl | (simp; done) | (simp [*]; done)), H', ⟨by first | omega | exact Nat.le_refl _⟩, ⟨by (with_reducible repeat (first | apply Kd.R_alloc | apply Kd.R_drewN | apply Kd.R_drew)); exact Kd.R_mono HO1055.out (fun _ hk => hk.1.2)⟩, ⟨by (with_reducible repeat (first | apply Kd.R_alloc | apply Kd.R_drewN | apply Kd.R_drew)); exact Kd.R_mono HO1059.out (fun _ hk => hk.1.2)⟩, ⟨zq0⟩⟩
 clear HC7
 try clear c1
 try clear p2
 try clear c3
 try clear c4
 try clear c6
 try clear c7
 try clear c12
 try clear c12b0
 try clear c12b1
 try clear c12b2
 obtain ⟨kq, x53_6, rfl, HA, HJ6, HO_3, HO_4, HB⟩ := hcut
 cases kq with
 | zero => exact absurd HA.out (by simp [laws_FnJoining.j0])
 | succ kj6 =>
  have H := HA.out
  clear HA
  simp only [laws_FnJoining.j0] at H
  by_cases c16 : x53_6 = true
  case pos =>
   subst c16
   have H1 : (none) = some r := by rw [if_pos rfl] at H; exact H
   clear H
   have H := H1
   clear H1
   exact absurd H (by simp)
  replace c16 := Bool.eq_false_iff.mpr c16
  subst c16
  have H1 : (if t1057 = true then ((impl_SameStates.f kj6 t1053 t1056).bind fun bt1065 => ((impl_JoinWarnings.f kj6 t1056).bind fun bt1067 => (if bt1065.2 = true then (if bt1065.1 = true then (if bt1067.2 = true then ((laws_vWarnings.f kj6 bt1067.1 t1056).bind fun t1071 => (if t1071 = true then (if (t1056.length : Int) > (t1053.length : Int) then (none) else (laws_FnJoining.j1 kj6 l0)) else (none))) else (none)) else (none)) else (none)))) else (laws_FnJoining.j1 kj6 l0)) = some r := by rw [if_neg (show ¬ (false = true) by decide)] at H; exact H
  clear H
  have H := H1
  clear H1
  have HC17 := Aside0.mk H
  clear H
  go_upto_if 54 with (fail)
  go_cut [] (fun wc => ∃ (kq : Nat), Aside0 (laws_FnJoining.j1 kq l0 = some r) ∧ Aside0 (kq ≤ kj6) ∧ Aside0 (Below w.heap.size w wc))
  case first =>
   have H := HC17.out
   clear HC17
   by_cases c18 : t1057 = true
   case neg =>
    replace c18 := Bool.eq_false_iff.mpr c18
    subst c18
    have H1 : (laws_FnJoining.j1 kj6 l0) = some r := by rw [if_neg (show ¬ (false = true) by decide)] at H; exact H
    clear H
    have H := H1
    clear H1
    have H' := Aside0.mk H
    clear H
    go_wp2
    go_meet
    case rel => exact ⟨_, H', ⟨by have := HJ6.out; first | omega | exact Nat.le_refl _⟩, ⟨zq0⟩⟩
   subst c18
   have H1 : ((impl_SameStates.f kj6 t1053 t1056).bind fun bt1065 => ((impl_JoinWarnings.f kj6 t1056).bind fun bt1067 => (if bt1065.2 = true then (if bt1065.1 = true then (if bt1067.2 = true then ((laws_vWarnings.f kj6 bt1067.1 t1056).bind fun t1071 => (if t1071 = true then (if (t1056.length : Int) > (t1053.length : Int) then (none) else (laws_FnJoining.j1 kj6 l0)) else (none))) else (none)) else (none)) else (none)))) = some r := by rw [if_pos rfl] at H; exact H
   clear H
   have H := H1
   clear H1
   replace H := Option.bind_eq_some_iff.mp H
   obtain ⟨⟨t1065, t1066⟩, A190, H⟩ := H
   replace H : ((impl_JoinWarnings.f kj6 t1056).bind fun bt1067 => (if t1066 = true then (if t1065 = true then (if bt1067.2 = true then ((laws_vWarnings.f kj6 bt1067.1 t1056).bind fun t1071 => (if t1071 = true then (if (t1056.length : Int) > (t1053.length : Int) then (none) else (laws_FnJoining.j1 kj6 l0)) else (none))) else (none)) else (none)) else (none))) = some r := H
   have A19 := Aside0.mk A190
   clear A190
   replace H := Option.bind_eq_some_iff.mp H
   obtain ⟨⟨t1067, t1068⟩, A200, H⟩ := H
   replace H : (if t1066 = true then (if t1065 = true then (if t1068 = true then ((laws_vWarnings.f kj6 t1067 t1056).bind fun t1071 => (if t1071 = true then (if (t1056.length : Int) > (t1053.length : Int) then (none) else (laws_FnJoining.j1 kj6 l0)) else (none))) else (none)) else (none)) else (none)) = some r := H
   have A20 := Aside0.mk A200
   clear A200
   by_cases c21 : t1066 = true
   case neg =>
    replace c21 := Bool.eq_false_iff.mpr c21
    subst c21
    have H1 : (none) = some r := by rw [if_neg (show ¬ (false = true) by decide)] at H; exact H
    clear H
    have H := H1
    clear H1
    exact absurd H (by simp)
   subst c21
   have H1 : (if t1065 = true then (if t1068 = true then ((laws_vWarnings.f kj6 t1067 t1056).bind fun t1071 => (if t1071 = true then (if (t1056.length : Int) > (t1053.length : Int) then (none) else (laws_FnJoining.j1 kj6 l0)) else (none))) else (none)) else (none)) = some r := by rw [if_pos rfl] at H; exact H
   clear H
   have H := H1
   clear H1
   by_cases c22 : t1065 = true
   case neg =>
    replace c22 := Bool.eq_false_iff.mpr c22
    subst c22
    have H1 : (none) = some r := by rw [if_neg (show ¬ (false = true) by decide)] at H; exact H
    clear H
    have H := H1
    clear H1
    exact absurd H (by simp)
   subst c22
   have H1 : (if t1068 = true then ((laws_vWarnings.f kj6 t1067 t1056).bind fun t1071 => (if t1071 = true then (if (t1056.length : Int) > (t1053.length : Int) then (none) else (laws_FnJoining.j1 kj6 l0)) else (none))) else (none)) = some r := by rw [if_pos rfl] at H; exact H
   clear H
   have H := H1
   clear H1
   by_cases c23 : t1068 = true
   case neg =>
    replace c23 := Bool.eq_false_iff.mpr c23
    subst c23
    have H1 : (none) = some r := by rw [if_neg (show ¬ (false = true) by decide)] at H; exact H
    clear H
    have H := H1
    clear H1
    exact absurd H (by simp)
   subst c23
   have H1 : ((laws_vWarnings.f kj6 t1067 t1056).bind fun t1071 => (if t1071 = true then (if (t1056.length : Int) > (t1053.length : Int) then (none) else (laws_FnJoining.j1 kj6 l0)) else (none))) = some r := by rw [if_pos rfl] at H; exact H
   clear H
   have H := H1
   clear H1
   replace H := Option.bind_eq_some_iff.mp H
   obtain ⟨t1071, A240, H⟩ := H
   replace H : (if t1071 = true then (if (t1056.length : Int) > (t1053.length : Int) then (none) else (laws_FnJoining.j1 kj6 l0)) else (none)) = some r := H
   have A24 := Aside0.mk A240
   clear A240
   by_cases c25 : t1071 = true
   case neg =>
    replace c25 := Bool.eq_false_iff.mpr c25
    subst c25
    have H1 : (none) = some r := by rw [if_neg (show ¬ (false = true) by decide)] at H; exact H
    clear H
    have H := H1
    clear H1
    exact absurd H (by simp)
   subst c25
   have H1 : (if (t1056.length : Int) > (t1053.length : Int) then (none) else (laws_FnJoining.j1 kj6 l0)) = some r := by rw [if_pos rfl] at H; exact H
   clear H
   have H := H1
   clear H1
   by_cases c26 : (t1056.length : Int) > (t1053.length : Int)
   case pos =>
    rw [if_pos c26] at H
    exact absurd H (by simp)
   rw [if_neg c26] at H
   have c26b0 : decide ((t1053.length : Int) < (t1056.length : Int)) = false := decide_eq_false c26
   have c26b1 : decide (t1053.length < t1056.length) = false := decide_eq_false (fun h => c26 (Int.ofNat_lt.mpr h))
   clear c26
   (first | rw [c26b0] | (simp only [i64_w, i32_w]; rw [c26b0]) | rw [c26b1] | skip)
   have H' := Aside0.mk H
   clear H
   obtain ⟨Ao27, co27, eo27⟩ := Kd.R_slice HO_4.out
   subst eo27
   go_wp2_with (first | ((with_reducible refine gate_callee (f := 46) rfl ?_); refine goesL_ (some 58) rfl rfl Try.func46 (by kernel_rfl) rfl #[.slice Ao9 t1053.length co9, .slice Ao27 t1056.length co27] rfl zq1 ?_; (with_reducible refine (impl_SameStates.calls kj6 _ _ t1053 _ _ t1056 true true _ ?side1 ?side2 ?side3 ?side4 A19.out).mono ?_); (case side1 => exact zqC (Kd.R_reads' HO_3.out).2.2); (case side2 => exact (Kd.R_reads' HO_3.out).2.1); (case side3 => exact zqC (Kd.R_reads' HO_4.out).2.2); (case side4 => exact (Kd.R_reads' HO_4.out).2.1); rintro e w28 ⟨rfl, hb⟩; refine ⟨_, rfl, ?_⟩; have n0_ := Aside0.mk (Kd.R_below (zqR HO_3.out) hb); have n1_ := Aside0.mk (Kd.R_below (zqR HO_4.out) hb); have n2_ := Aside0.mk (below_step zq0 hb); clear HO_3; clear HO_4; clear HB; have HO_3 := n0_; have HO_4 := n1_; have HB := n2_; clear n0_ n1_ n2_; (try clear hb); (try clear hb2); (try clear hk); (try clear hi)) | ((with_reducible refine gate_callee (f := 44) rfl ?_); refine goesL_ (some 63) rfl rfl Try.func44 (by kernel_rfl) rfl #[.slice Ao27 t1056.length co27] rfl zq1 ?_; (with_reducible refine (impl_JoinWarnings.calls kj6 _ _ t1056 t1067 true _ ?side1 ?side2 A20.out).mono ?_); (case side1 => exact zqC (Kd.R_reads' HO_4.out).2.2); (case side2 => exact (Kd.R_reads' HO_4.out).2.1); rintro e w29 ⟨v1069, rfl, ho0, hb⟩; refine ⟨_, rfl, ?_⟩; have n0_ := Aside0.mk (Kd.R_elder' (zqR HO_3.out) (Kd.R_base ho0) hb); have n1_ := Aside0.mk (Kd.R_elder' (zqR HO_4.out) (Kd.R_base ho0) hb); have n2_ := Aside0.mk (Kd.R_lower (Kd.R_new' (Kd.R_new' ho0 (Kd.R_lt (zqR HO_3.out))) (Kd.R_lt (zqR HO_4.out))) (below_size zq0)); have n3_ := Aside0.mk (below_step zq0 hb); clear HO_3; clear HO_4; clear HB; have HO_3 := n0_; have HO_4 := n1_; have HO1070 := n2_; have HB := n3_; clear n0_ n1_ n2_ n3_; (try clear hb); (try clear hb2); (try clear hk); (try clear hi); (try clear ho0); obtain ⟨Ao30, co30, eo30⟩ := Kd.R_slice HO1070.out; subst eo30) | (go_at_call 11; (with_reducible refine (laws_vWarnings.calls kj6 _ _ t1067 _ _ t1056 true _ ?side1 ?side2 ?side3 ?side4 A24.out).mono ?_); (case side1 => exact zqC (Kd.R_reads' HO1070.out).2.2); (case side2 => exact (Kd.R_reads' HO1070.out).2.1); (case side3 => exact zqC (Kd.R_reads' HO_4.out).2.2); (case side4 => exact (Kd.R_reads' HO_4.out).2.1); rintro e w' ⟨rfl, ⟨nd, rfl⟩⟩))
   go_meet
   case rel => exact ⟨_, H', ⟨by have := HJ6.out; first | omega | exact Nat.le_refl _⟩, ⟨zq0⟩⟩
  clear HC17
  try clear c1
  try clear c2
  try clear p2
  try clear c3
  try clear c4
  try clear c6
  try clear c7
  try clear c12
  try clear c12b0
  try clear c12b1
  try clear c12b2
  try clear c16
  try clear c18
  try clear c21
  try clear c22
  try clear c23
  try clear c25
  try clear c26
  try clear c26b0
  try clear c26b1
  try clear p2
  obtain ⟨kq, HA, HJ16, HB⟩ := hcut
  cases kq with
  | zero => exact absurd HA.out (by simp [laws_FnJoining.j1])
  | succ kj16 =>
   have H := HA.out
   clear HA
   simp only [laws_FnJoining.j1] at H
   replace H := Option.bind_eq_some_iff.mp H
   obtain ⟨⟨t1072, t1073⟩, A310, H⟩ := H
   replace H : ((impl_SameStates.f kj16 t1072 t1073).bind fun bt1078 => ((spec_SameStates.f kj16 t1072 t1073).bind fun bt1080 => (if (bt1078.1 != bt1080.1) = true then (none) else (laws_FnJoining.j2 kj16 l0 t1072 t1073 bt1078.1 bt1078.2 (bt1078.2 != bt1080.2))))) = some r := H
   have A31 := Aside0.mk A310
   clear A310
   replace H := Option.bind_eq_some_iff.mp H
   obtain ⟨⟨t1078, t1079⟩, A320, H⟩ := H
   replace H : ((spec_SameStates.f kj16 t1072 t1073).bind fun bt1080 => (if (t1078 != bt1080.1) = true then (none) else (laws_FnJoining.j2 kj16 l0 t1072 t1073 t1078 t1079 (t1079 != bt1080.2)))) = some r := H
   have A32 := Aside0.mk A320
   clear A320
   replace H := Option.bind_eq_some_iff.mp H
   obtain ⟨⟨t1080, t1081⟩, A330, H⟩ := H
   replace H : (if (t1078 != t1080) = true then (none) else (laws_FnJoining.j2 kj16 l0 t1072 t1073 t1078 t1079 (t1079 != t1081))) = some r := H
   have A33 := Aside0.mk A330
   clear A330
   have HC34 := Aside0.mk H
   clear H
   go_upto_region 16 with (first | ((with_reducible refine gate_callee (f := 47) rfl ?_); refine goesL_ (some 91) rfl rfl Try.func47 (by kernel_rfl) rfl #[.slice A0 l0.length c0] rfl zq1 ?_; (with_reducible refine (spec_DrawSameStates.calls kj16 _ _ l0 t1072 t1073 _ ?side1 ?side2 A31.out).mono ?_); (case side1 => exact zqC (Kd.C_below HR0.out HB.out)); (case side2 => exact HC0.out); rintro e w35 ⟨v1074, v1076, rfl, ho0, ho1, hb⟩; refine ⟨_, rfl, ?_⟩; have n0_ := Aside0.mk (Kd.R_lower ho0 (below_size zq0)); have n1_ := Aside0.mk (Kd.R_lower ho1 (below_size zq0)); have n2_ := Aside0.mk (below_step zq0 hb); clear HB; have HO1075 := n0_; have HO1077 := n1_; have HB := n2_; clear n0_ n1_ n2_; (try clear hb); (try clear hb2); (try clear hk); (try clear hi); (try clear ho0); (try clear ho1); obtain ⟨Ao36, co36, eo36⟩ := Kd.R_slice HO1075.out; subst eo36; obtain ⟨Ao37, co37, eo37⟩ := Kd.R_slice HO1077.out; subst eo37) | ((with_reducible refine gate_callee (f := 46) rfl ?_); refine goesL_ (some 97) rfl rfl Try.func46 (by kernel_rfl) rfl #[.slice Ao36 t1072.length co36, .slice Ao37 t1073.length co37] rfl zq1 ?_; (with_reducible refine (impl_SameStates.calls kj16 _ _ t1072 _ _ t1073 t1078 t1079 _ ?side1 ?side2 ?side3 ?side4 A32.out).mono ?_); (case side1 => exact zqC (Kd.R_reads' HO1075.out).2.2); (case side2 => exact (Kd.R_reads' HO1075.out).2.1); (case side3 => exact zqC (Kd.R_reads' HO1077.out).2.2); (case side4 => exact (Kd.R_reads' HO1077.out).2.1); rintro e w38 ⟨rfl, hb⟩; refine ⟨_, rfl, ?_⟩; have n0_ := Aside0.mk (Kd.R_below (zqR HO1075.out) hb); have n1_ := Aside0.mk (Kd.R_below (zqR HO1077.out) hb); have n2_ := Aside0.mk (below_step zq0 hb); clear HO1075; clear HO1077; clear HB; have HO1075 := n0_; have HO1077 := n1_; have HB := n2_; clear n0_ n1_ n2_; (try clear hb); (try clear hb2); (try clear hk); (try clear hi)) | ((with_reducible refine gate_callee (f := 48) rfl ?_); refine goesL_ (some 103) rfl rfl Try.func48 (by kernel_rfl) rfl #[.slice Ao36 t1072.length co36, .slice Ao37 t1073.length co37] rfl zq1 ?_; (with_reducible refine (spec_SameStates.calls kj16 _ _ t1072 _ _ t1073 t1080 t1081 _ ?side1 ?side2 ?side3 ?side4 A33.out).mono ?_); (case side1 => exact zqC (Kd.R_reads' HO1075.out).2.2); (case side2 => exact (Kd.R_reads' HO1075.out).2.1); (case side3 => exact zqC (Kd.R_reads' HO1077.out).2.2); (case side4 => exact (Kd.R_reads' HO1077.out).2.1); rintro e w39 ⟨rfl, hb⟩; refine ⟨_, rfl, ?_⟩; have n0_ := Aside0.mk (Kd.R_below (zqR HO1075.out) hb); have n1_ := Aside0.mk (Kd.R_below (zqR HO1077.out) hb); have n2_ := Aside0.mk (below_step zq0 hb); clear HO1075; clear HO1077; clear HB; have HO1075 := n0_; have HO1077 := n1_; have HB := n2_; clear n0_ n1_ n2_; (try clear hb); (try clear hb2); (try clear hk); (try clear hi)))
   (try simp only [Act.put, List.setIfInBounds_toArray, List.set_cons_zero, List.set_cons_succ])
   go_cut [113] (fun v113 wc => ∃ (kq : Nat) (x113_33 : Bool), v113 = .bool x113_33 ∧ Aside0 (laws_FnJoining.j2 kq l0 t1072 t1073 t1078 t1079 x113_33 = some r) ∧ Aside0 (kq ≤ kj16) ∧ Aside0 (Kd.R k31 31 wc w.heap.size (fun k_ => some k_ ≠ ((.slice Ao37 t1073.length co37) : Value).ownBlock) (.slice Ao36 t1072.length co36) t1072) ∧ Aside0 (Kd.R k31 31 wc w.heap.size (fun k_ => some k_ ≠ ((.slice Ao36 t1072.length co36) : Value).ownBlock) (.slice Ao37 t1073.length co37) t1073) ∧ Aside0 (Below w.heap.size w wc))
   case first =>
    have H := HC34.out
    clear HC34
    by_cases c40 : (t1078 != t1080) = true
    case pos =>
     rw [if_pos c40] at H
     exact absurd H (by simp)
    rw [if_neg c40] at H
    have c40b0 : (t1078 != t1080) = false := by simpa using c40
    (try (have c40b1 : decide (t1078 = t1080) = true := by simpa using c40))
    (try (have c40b2 : (t1078 == t1080) = true := by simpa using c40))
    clear c40
    (first | rw [c40b0] | (simp only [i64_w, i32_w]; rw [c40b0]) | rw [c40b1] | skip)
    have H' := Aside0.mk H
    clear H
    go_wp2
    go_meet
    case rel => exact ⟨_, ((t1079 != t1081)), (by first | rfl | (simp; done) | (simp [*]; done)), H', ⟨by have := HJ6.out; have := HJ16.out; first | omega | exact Nat.le_refl _⟩, ⟨zqR HO1075.out⟩, ⟨zqR HO1077.out⟩, ⟨zq0⟩⟩
   clear HC34
   try clear c1
   try clear c2
   try clear p2
   try clear c3
   try clear c4
   try clear c6
   try clear c7
   try clear c12
   try clear c12b0
   try clear c12b1
   try clear c12b2
   try clear c16
   try clear c18
   try clear c21
   try clear c22
   try clear c23
   try clear c25
   try clear c26
   try clear c26b0
   try clear c26b1
   try clear c40
   try clear c40b0
   try clear c40b1
   try clear c40b2
   try clear p2
   obtain ⟨kq, x113_33, rfl, HA, HJ33, HO_12, HO_13, HB⟩ := hcut
   cases kq with
   | zero => exact absurd HA.out (by simp [laws_FnJoining.j2])
   | succ kj33 =>
    have H := HA.out
    clear HA
    simp only [laws_FnJoining.j2] at H
    by_cases c41 : x113_33 = true
    case pos =>
     subst c41
     have H1 : (none) = some r := by rw [if_pos rfl] at H; exact H
     clear H
     have H := H1
     clear H1
     exact absurd H (by simp)
    replace c41 := Bool.eq_false_iff.mpr c41
    subst c41
    have H1 : ((impl_ChangeHours.f kj33 t1072).bind fun bt1082 => ((spec_ChangeHours.f kj33 t1072).bind fun bt1086 => (if (bt1082.2 != bt1086.2) = true then (none) else ((laws_vInts.f kj33 bt1082.1 bt1086.1).bind fun t1090 => (laws_FnJoining.j3 kj33 l0 t1073 t1078 t1079 bt1082.1 (!t1090)))))) = some r := by rw [if_neg (show ¬ (false = true) by decide)] at H; exact H
    clear H
    have H := H1
    clear H1
    replace H := Option.bind_eq_some_iff.mp H
    obtain ⟨⟨t1082, t1083⟩, A420, H⟩ := H
    replace H : ((spec_ChangeHours.f kj33 t1072).bind fun bt1086 => (if (t1083 != bt1086.2) = true then (none) else ((laws_vInts.f kj33 t1082 bt1086.1).bind fun t1090 => (laws_FnJoining.j3 kj33 l0 t1073 t1078 t1079 t1082 (!t1090))))) = some r := H
    have A42 := Aside0.mk A420
    clear A420
    replace H := Option.bind_eq_some_iff.mp H
    obtain ⟨⟨t1086, t1087⟩, A430, H⟩ := H
    replace H : (if (t1083 != t1087) = true then (none) else ((laws_vInts.f kj33 t1082 t1086).bind fun t1090 => (laws_FnJoining.j3 kj33 l0 t1073 t1078 t1079 t1082 (!t1090)))) = some r := H
    have A43 := Aside0.mk A430
    clear A430
    have HC44 := Aside0.mk H
    clear H
    go_upto_region 20 with (first | ((with_reducible refine gate_callee (f := 49) rfl ?_); refine goesL_ (some 116) rfl rfl Try.func49 (by kernel_rfl) rfl #[.slice Ao36 t1072.length co36] rfl zq1 ?_; (with_reducible refine (impl_ChangeHours.calls kj33 _ _ t1072 t1082 t1083 _ ?side1 ?side2 A42.out).mono ?_); (case side1 => exact zqC (Kd.R_reads' HO_12.out).2.2); (case side2 => exact (Kd.R_reads' HO_12.out).2.1); rintro e w45 ⟨v1084, rfl, ho0, hb⟩; refine ⟨_, rfl, ?_⟩; have n0_ := Aside0.mk (Kd.R_below (zqR HO_12.out) hb); have n1_ := Aside0.mk (Kd.R_below (zqR HO_13.out) hb); have n2_ := Aside0.mk (Kd.R_lower ho0 (below_size zq0)); have n3_ := Aside0.mk (below_step zq0 hb); clear HO_12; clear HO_13; clear HB; have HO_12 := n0_; have HO_13 := n1_; have HO1085 := n2_; have HB := n3_; clear n0_ n1_ n2_ n3_; (try clear hb); (try clear hb2); (try clear hk); (try clear hi); (try clear ho0)) | ((with_reducible refine gate_callee (f := 50) rfl ?_); refine goesL_ (some 121) rfl rfl Try.func50 (by kernel_rfl) rfl #[.slice Ao36 t1072.length co36] rfl zq1 ?_; (with_reducible refine (spec_ChangeHours.calls kj33 _ _ t1072 t1086 t1087 _ ?side1 ?side2 A43.out).mono ?_); (case side1 => exact zqC (Kd.R_reads' HO_12.out).2.2); (case side2 => exact (Kd.R_reads' HO_12.out).2.1); rintro e w46 ⟨v1088, rfl, ho0, hb⟩; refine ⟨_, rfl, ?_⟩; have n0_ := Aside0.mk (Kd.R_below (zqR HO_12.out) hb); have n1_ := Aside0.mk (Kd.R_below (zqR HO_13.out) hb); have n2_ := Aside0.mk (Kd.R_elder' (zqR HO1085.out) (Kd.R_base ho0) hb); have n3_ := Aside0.mk (Kd.R_lower (Kd.R_new' ho0 (Kd.R_lt (zqR HO1085.out))) (below_size zq0)); have n4_ := Aside0.mk (below_step zq0 hb); clear HO_12; clear HO_13; clear HO1085; clear HB; have HO_12 := n0_; have HO_13 := n1_; have HO1085 := n2_; have HO1089 := n3_; have HB := n4_; clear n0_ n1_ n2_ n3_ n4_; (try clear hb); (try clear hb2); (try clear hk); (try clear hi); (try clear ho0)))
    (try simp only [Act.put, List.setIfInBounds_toArray, List.set_cons_zero, List.set_cons_succ])
    go_cut [132] (fun v132 wc => ∃ (kq : Nat) (x132_43 : Bool), v132 = .bool x132_43 ∧ Aside0 (laws_FnJoining.j3 kq l0 t1073 t1078 t1079 t1082 x132_43 = some r) ∧ Aside0 (kq ≤ kj33) ∧ Aside0 (Kd.R k31 31 wc w.heap.size (fun _ => True) (.slice Ao37 t1073.length co37) t1073) ∧ Aside0 (Kd.R (Kd.int .i64) 3 wc w.heap.size (fun _ => True) v1084 t1082) ∧ Aside0 (Below w.heap.size w wc))
    case first =>
     have H := HC44.out
     clear HC44
     by_cases c47 : (t1083 != t1087) = true
     case pos =>
      rw [if_pos c47] at H
      exact absurd H (by simp)
     rw [if_neg c47] at H
     have c47b0 : (t1083 != t1087) = false := by simpa using c47
     (try (have c47b1 : decide (t1083 = t1087) = true := by simpa using c47))
     (try (have c47b2 : (t1083 == t1087) = true := by simpa using c47))
     clear c47
     (first | rw [c47b0] | (simp only [i64_w, i32_w]; rw [c47b0]) | rw [c47b1] | skip)
     replace H := Option.bind_eq_some_iff.mp H
     obtain ⟨t1090, A480, H⟩ := H
     replace H : (laws_FnJoining.j3 kj33 l0 t1073 t1078 t1079 t1082 (!t1090)) = some r := H
     have A48 := Aside0.mk A480
     clear A480
     have H' := Aside0.mk H
     clear H
     obtain ⟨Ao49, co49, eo49⟩ := Kd.R_slice HO1085.out
     subst eo49
     obtain ⟨Ao50, co50, eo50⟩ := Kd.R_slice HO1089.out
     subst eo50
     go_wp2_with (first | (go_at_call 38; (with_reducible refine (laws_vInts.calls kj33 _ _ t1082 _ _ t1086 t1090 _ ?side1 ?side2 ?side3 ?side4 A48.out).mono ?_); (case side1 => exact zqC (Kd.R_reads' HO1085.out).2.2); (case side2 => exact (Kd.R_reads' HO1085.out).2.1); (case side3 => exact zqC (Kd.R_reads' HO1089.out).2.2); (case side4 => exact (Kd.R_reads' HO1089.out).2.1); rintro e w' ⟨rfl, ⟨nd, rfl⟩⟩))
     go_meet
     case rel => exact ⟨_, (!t1090), (by first | rfl | (simp; done) | (simp [*]; done)), H', ⟨by have := HJ6.out; have := HJ16.out; have := HJ33.out; first | omega | exact Nat.le_refl _⟩, ⟨by (with_reducible repeat (first | apply Kd.R_alloc | apply Kd.R_drewN | apply Kd.R_drew)); exact Kd.R_mono HO_13.out (fun _ hk => trivial)⟩, ⟨by (with_reducible repeat (first | apply Kd.R_alloc | apply Kd.R_drewN | apply Kd.R_drew)); exact Kd.R_mono HO1085.out (fun _ hk => trivial)⟩, ⟨zq0⟩⟩
    clear HC44
    try clear c1
    try clear c2
    try clear p2
    try clear c3
    try clear c4
    try clear c5
    try clear c6
    try clear c7
    try clear c12
    try clear c12b0
    try clear c12b1
    try clear c12b2
    try clear c16
    try clear c18
    try clear c21
    try clear c22
    try clear c23
    try clear c25
    try clear c26
    try clear c26b0
    try clear c26b1
    try clear c40
    try clear c40b0
    try clear c40b1
    try clear c40b2
    try clear c41
    try clear c43
    try clear c44
    try clear c45
    try clear c46
    try clear c47
    try clear c47b0
    try clear c47b1
    try clear c47b2
    try clear c48
    try clear c49
    try clear c50
    try clear p2
    obtain ⟨kq, x132_43, rfl, HA, HJ43, HO_13, HO_18, HB⟩ := hcut
    cases kq with
    | zero => exact absurd HA.out (by simp [laws_FnJoining.j3])
    | succ kj43 =>
     have H := HA.out
     clear HA
     simp only [laws_FnJoining.j3] at H
     by_cases c51 : x132_43 = true
     case pos =>
      subst c51
      have H1 : (none) = some r := by rw [if_pos rfl] at H; exact H
      clear H
      have H := H1
      clear H1
      exact absurd H (by simp)
     replace c51 := Bool.eq_false_iff.mpr c51
     subst c51
     have H1 : (if t1079 = true then (laws_FnJoining.j4 kj43 l0 t1073 t1082 t1078) else (laws_FnJoining.j4 kj43 l0 t1073 t1082 false)) = some r := by rw [if_neg (show ¬ (false = true) by decide)] at H; exact H
     clear H
     have H := H1
     clear H1
     have HC52 := Aside0.mk H
     clear H
     go_upto_region 22 with (fail)
     go_cut [136] (fun v136 wc => ∃ (kq : Nat) (x136_51 : Bool), v136 = .bool x136_51 ∧ Aside0 (laws_FnJoining.j4 kq l0 t1073 t1082 x136_51 = some r) ∧ Aside0 (kq ≤ kj43) ∧ Aside0 (Kd.R k31 31 wc w.heap.size (fun _ => True) (.slice Ao37 t1073.length co37) t1073) ∧ Aside0 (Kd.R (Kd.int .i64) 3 wc w.heap.size (fun _ => True) v1084 t1082) ∧ Aside0 (Below w.heap.size w wc))
     case first =>
      have H := HC52.out
      clear HC52
      by_cases c53 : t1079 = true
      case pos =>
       subst c53
       have H1 : (laws_FnJoining.j4 kj43 l0 t1073 t1082 t1078) = some r := by rw [if_pos rfl] at H; exact H
       clear H
       have H := H1
       clear H1
       have H' := Aside0.mk H
       clear H
       go_wp2
       go_meet
       case rel => exact ⟨_, (t1078), (by first | rfl | (simp; done) | (simp [*]; done)), H', ⟨by have := HJ6.out; have := HJ16.out; have := HJ33.out; have := HJ43.out; first | omega | exact Nat.le_refl _⟩, ⟨zqR HO_13.out⟩, ⟨zqR HO_18.out⟩, ⟨zq0⟩⟩
      replace c53 := Bool.eq_false_iff.mpr c53
      subst c53
      have H1 : (laws_FnJoining.j4 kj43 l0 t1073 t1082 false) = some r := by rw [if_neg (show ¬ (false = true) by decide)] at H; exact H
      clear H
      have H := H1
      clear H1
      have H' := Aside0.mk H
      clear H
      go_wp2
      go_meet
      case rel => exact ⟨_, (false), (by first | rfl | (simp; done) | (simp [*]; done)), H', ⟨by have := HJ6.out; have := HJ16.out; have := HJ33.out; have := HJ43.out; first | omega | exact Nat.le_refl _⟩, ⟨zqR HO_13.out⟩, ⟨zqR HO_18.out⟩, ⟨zq0⟩⟩
     clear HC52
     try clear c1
     try clear c2
     try clear p2
     try clear c3
     try clear c4
     try clear c5
     try clear c6
     try clear c7
     try clear c12
     try clear c12b0
     try clear c12b1
     try clear c12b2
     try clear c16
     try clear c18
     try clear c21
     try clear c22
     try clear c23
     try clear c25
     try clear c26
     try clear c26b0
     try clear c26b1
     try clear c40
     try clear c40b0
     try clear c40b1
     try clear c40b2
     try clear c41
     try clear c43
     try clear c44
     try clear c45
     try clear c46
     try clear c47
     try clear c47b0
     try clear c47b1
     try clear c47b2
     try clear c48
     try clear c49
     try clear c50
     try clear c51
     try clear c53
     try clear p2
     obtain ⟨kq, x136_51, rfl, HA, HJ51, HO_13, HO_18, HB⟩ := hcut
     cases kq with
     | zero => exact absurd HA.out (by simp [laws_FnJoining.j4])
     | succ kj51 =>
      have H := HA.out
      clear HA
      simp only [laws_FnJoining.j4] at H
      have HC54 := Aside0.mk H
      clear H
      go_upto_if 136 with (fail)
      go_cut [] (fun wc => ∃ (kq : Nat), Aside0 (laws_FnJoining.j5 kq l0 = some r) ∧ Aside0 (kq ≤ kj51) ∧ Aside0 (Below w.heap.size w wc))
      case first =>
       have H := HC54.out
       clear HC54
       by_cases c55 : x136_51 = true
       case neg =>
        replace c55 := Bool.eq_false_iff.mpr c55
        subst c55
        have H1 : (laws_FnJoining.j5 kj51 l0) = some r := by rw [if_neg (show ¬ (false = true) by decide)] at H; exact H
        clear H
        have H := H1
        clear H1
        have H' := Aside0.mk H
        clear H
        go_wp2
        go_meet
        case rel => exact ⟨_, H', ⟨by have := HJ6.out; have := HJ16.out; have := HJ33.out; have := HJ43.out; have := HJ51.out; first | omega | exact Nat.le_refl _⟩, ⟨zq0⟩⟩
       subst c55
       have H1 : ((impl_ChangeHours.f kj51 t1073).bind fun bt1091 => (if bt1091.2 = true then ((laws_vInts.f kj51 bt1091.1 t1082).bind fun t1095 => (if t1095 = true then (laws_FnJoining.j5 kj51 l0) else (none))) else (none))) = some r := by rw [if_pos rfl] at H; exact H
       clear H
       have H := H1
       clear H1
       replace H := Option.bind_eq_some_iff.mp H
       obtain ⟨⟨t1091, t1092⟩, A560, H⟩ := H
       replace H : (if t1092 = true then ((laws_vInts.f kj51 t1091 t1082).bind fun t1095 => (if t1095 = true then (laws_FnJoining.j5 kj51 l0) else (none))) else (none)) = some r := H
       have A56 := Aside0.mk A560
       clear A560
       by_cases c57 : t1092 = true
       case neg =>
        replace c57 := Bool.eq_false_iff.mpr c57
        subst c57
        have H1 : (none) = some r := by rw [if_neg (show ¬ (false = true) by decide)] at H; exact H
        clear H
        have H := H1
        clear H1
        exact absurd H (by simp)
       subst c57
       have H1 : ((laws_vInts.f kj51 t1091 t1082).bind fun t1095 => (if t1095 = true then (laws_FnJoining.j5 kj51 l0) else (none))) = some r := by rw [if_pos rfl] at H; exact H
       clear H
       have H := H1
       clear H1
       replace H := Option.bind_eq_some_iff.mp H
       obtain ⟨t1095, A580, H⟩ := H
       replace H : (if t1095 = true then (laws_FnJoining.j5 kj51 l0) else (none)) = some r := H
       have A58 := Aside0.mk A580
       clear A580
       by_cases c59 : t1095 = true
       case neg =>
        replace c59 := Bool.eq_false_iff.mpr c59
        subst c59
        have H1 : (none) = some r := by rw [if_neg (show ¬ (false = true) by decide)] at H; exact H
        clear H
        have H := H1
        clear H1
        exact absurd H (by simp)
       subst c59
       have H1 : (laws_FnJoining.j5 kj51 l0) = some r := by rw [if_pos rfl] at H; exact H
       clear H
       have H := H1
       clear H1
       have H' := Aside0.mk H
       clear H
       go_wp2_with (first | ((with_reducible refine gate_callee (f := 49) rfl ?_); refine goesL_ (some 139) rfl rfl Try.func49 (by kernel_rfl) rfl #[.slice Ao37 t1073.length co37] rfl zq1 ?_; (with_reducible refine (impl_ChangeHours.calls kj51 _ _ t1073 t1091 true _ ?side1 ?side2 A56.out).mono ?_); (case side1 => exact zqC (Kd.R_reads' HO_13.out).2.2); (case side2 => exact (Kd.R_reads' HO_13.out).2.1); rintro e w60 ⟨v1093, rfl, ho0, hb⟩; refine ⟨_, rfl, ?_⟩; have n0_ := Aside0.mk (Kd.R_below (zqR HO_13.out) hb); have n1_ := Aside0.mk (Kd.R_elder' (zqR HO_18.out) (Kd.R_base ho0) hb); have n2_ := Aside0.mk (Kd.R_lower (Kd.R_new' ho0 (Kd.R_lt (zqR HO_18.out))) (below_size zq0)); have n3_ := Aside0.mk (below_step zq0 hb); clear HO_13; clear HO_18; clear HB; have HO_13 := n0_; have HO_18 := n1_; have HO1094 := n2_; have HB := n3_; clear n0_ n1_ n2_ n3_; (try clear hb); (try clear hb2); (try clear hk); (try clear hi); (try clear ho0); obtain ⟨Ao61, co61, eo61⟩ := Kd.R_slice HO1094.out; subst eo61; obtain ⟨Ao62, co62, eo62⟩ := Kd.R_slice HO_18.out; subst eo62) | (go_at_call 38; (with_reducible refine (laws_vInts.calls kj51 _ _ t1091 _ _ t1082 true _ ?side1 ?side2 ?side3 ?side4 A58.out).mono ?_); (case side1 => exact zqC (Kd.R_reads' HO1094.out).2.2); (case side2 => exact (Kd.R_reads' HO1094.out).2.1); (case side3 => exact zqC (Kd.R_reads' HO_18.out).2.2); (case side4 => exact (Kd.R_reads' HO_18.out).2.1); rintro e w' ⟨rfl, ⟨nd, rfl⟩⟩))
       go_meet
       case rel => exact ⟨_, H', ⟨by have := HJ6.out; have := HJ16.out; have := HJ33.out; have := HJ43.out; have := HJ51.out; first | omega | exact Nat.le_refl _⟩, ⟨zq0⟩⟩
      clear HC54
      try clear c1
      try clear c2
      try clear p2
      try clear c3
      try clear c4
      try clear c5
      try clear c6
      try clear c7
      try clear c12
      try clear c12b0
      try clear c12b1
      try clear c12b2
      try clear c16
      try clear c18
      try clear c21
      try clear c22
      try clear c23
      try clear c25
      try clear c26
      try clear c26b0
      try clear c26b1
      try clear c40
      try clear c40b0
      try clear c40b1
      try clear c40b2
      try clear c41
      try clear c43
      try clear c44
      try clear c45
      try clear c46
      try clear c47
      try clear c47b0
      try clear c47b1
      try clear c47b2
      try clear c48
      try clear c49
      try clear c50
      try clear c51
      try clear c53
      try clear c55
      try clear c57
      try clear c59
      try clear p2
      obtain ⟨kq, HA, HJ53, HB⟩ := hcut
      cases kq with
      | zero => exact absurd HA.out (by simp [laws_FnJoining.j5])
      | succ kj53 =>
       have H := HA.out
       clear HA
       simp only [laws_FnJoining.j5] at H
       replace H := Option.bind_eq_some_iff.mp H
       obtain ⟨⟨t1096, t1097, t1098⟩, A630, H⟩ := H
       replace H : ((impl_AreasAt.f kj53 t1096 t1097 t1098).bind fun bt1101 => ((spec_AreasAt.f kj53 t1096 t1097 t1098).bind fun bt1105 => (if (bt1101.2 == bt1105.2) = true then ((laws_vInts.f kj53 bt1101.1 bt1105.1).bind fun t1109 => (some t1109)) else (none)))) = some r := H
       have A63 := Aside0.mk A630
       clear A630
       replace H := Option.bind_eq_some_iff.mp H
       obtain ⟨⟨t1101, t1102⟩, A640, H⟩ := H
       replace H : ((spec_AreasAt.f kj53 t1096 t1097 t1098).bind fun bt1105 => (if (t1102 == bt1105.2) = true then ((laws_vInts.f kj53 t1101 bt1105.1).bind fun t1109 => (some t1109)) else (none))) = some r := H
       have A64 := Aside0.mk A640
       clear A640
       replace H := Option.bind_eq_some_iff.mp H
       obtain ⟨⟨t1105, t1106⟩, A650, H⟩ := H
       replace H : (if (t1102 == t1106) = true then ((laws_vInts.f kj53 t1101 t1105).bind fun t1109 => (some t1109)) else (none)) = some r := H
       have A65 := Aside0.mk A650
       clear A650
       by_cases c66 : (t1102 == t1106) = true
       case neg =>
        rw [if_neg c66] at H
        exact absurd H (by simp)
       rw [if_pos c66] at H
       have c66b0 : (t1102 == t1106) = true := c66
       (try (have c66b1 : decide (t1102 = t1106) = true := by simpa using c66))
       (try (have c66b2 : (t1102 == t1106) = true := by simpa using c66))
       clear c66
       replace H := Option.bind_eq_some_iff.mp H
       obtain ⟨t1109, A670, H⟩ := H
       replace H : (some t1109) = some r := H
       have A67 := Aside0.mk A670
       clear A670
       obtain rfl := Option.some.inj H
       go_wp2_with (first | ((with_reducible refine gate_callee (f := 51) rfl ?_); refine goesL_ (some 152) rfl rfl Try.func51 (by kernel_rfl) rfl #[.slice A0 l0.length c0] rfl zq1 ?_; (with_reducible refine (spec_DrawAreasAt.calls kj53 _ _ l0 t1096 t1097 t1098 _ ?side1 ?side2 A63.out).mono ?_); (case side1 => exact zqC (Kd.C_below HR0.out HB.out)); (case side2 => exact HC0.out); rintro e w68 ⟨v1099, rfl, ho0, hb⟩; refine ⟨_, rfl, ?_⟩; have n0_ := Aside0.mk (Kd.R_lower ho0 (below_size zq0)); have n1_ := Aside0.mk (below_step zq0 hb); clear HB; have HO1100 := n0_; have HB := n1_; clear n0_ n1_; (try clear hb); (try clear hb2); (try clear hk); (try clear hi); (try clear ho0); obtain ⟨Ao69, co69, eo69⟩ := Kd.R_slice HO1100.out; subst eo69) | ((with_reducible refine gate_callee (f := 52) rfl ?_); refine goesL_ (some 160) rfl rfl Try.func52 (by kernel_rfl) rfl #[.slice Ao69 t1096.length co69, .int .i64 t1097, .int .i64 t1098] rfl zq1 ?_; (with_reducible refine (impl_AreasAt.calls kj53 _ _ t1096 t1097 t1098 t1101 t1102 _ ?side1 ?side2 A64.out).mono ?_); (case side1 => exact zqC (Kd.R_reads' HO1100.out).2.2); (case side2 => exact (Kd.R_reads' HO1100.out).2.1); rintro e w70 ⟨v1103, rfl, ho0, hb⟩; refine ⟨_, rfl, ?_⟩; have n0_ := Aside0.mk (Kd.R_below (zqR HO1100.out) hb); have n1_ := Aside0.mk (Kd.R_lower ho0 (below_size zq0)); have n2_ := Aside0.mk (below_step zq0 hb); clear HO1100; clear HB; have HO1100 := n0_; have HO1104 := n1_; have HB := n2_; clear n0_ n1_ n2_; (try clear hb); (try clear hb2); (try clear hk); (try clear hi); (try clear ho0)) | ((with_reducible refine gate_callee (f := 53) rfl ?_); refine goesL_ (some 167) rfl rfl Try.func53 (by kernel_rfl) rfl #[.slice Ao69 t1096.length co69, .int .i64 t1097, .int .i64 t1098] rfl zq1 ?_; (with_reducible refine (spec_AreasAt.calls kj53 _ _ t1096 t1097 t1098 t1105 t1106 _ ?side1 ?side2 A65.out).mono ?_); (case side1 => exact zqC (Kd.R_reads' HO1100.out).2.2); (case side2 => exact (Kd.R_reads' HO1100.out).2.1); rintro e w71 ⟨v1107, rfl, ho0, hb⟩; refine ⟨_, rfl, ?_⟩; have n0_ := Aside0.mk (Kd.R_below (zqR HO1100.out) hb); have n1_ := Aside0.mk (Kd.R_elder' (zqR HO1104.out) (Kd.R_base ho0) hb); have n2_ := Aside0.mk (Kd.R_lower (Kd.R_new' ho0 (Kd.R_lt (zqR HO1104.out))) (below_size zq0)); have n3_ := Aside0.mk (below_step zq0 hb); clear HO1100; clear HO1104; clear HB; have HO1100 := n0_; have HO1104 := n1_; have HO1108 := n2_; have HB := n3_; clear n0_ n1_ n2_ n3_; (try clear hb); (try clear hb2); (try clear hk); (try clear hi); (try clear ho0); obtain ⟨Ao72, co72, eo72⟩ := Kd.R_slice HO1104.out; subst eo72; obtain ⟨Ao73, co73, eo73⟩ := Kd.R_slice HO1108.out; subst eo73) | (go_at_call 38; (with_reducible refine (laws_vInts.calls kj53 _ _ t1101 _ _ t1105 t1109 _ ?side1 ?side2 ?side3 ?side4 A67.out).mono ?_); (case side1 => exact zqC (Kd.R_reads' HO1104.out).2.2); (case side2 => exact (Kd.R_reads' HO1104.out).2.1); (case side3 => exact zqC (Kd.R_reads' HO1108.out).2.2); (case side4 => exact (Kd.R_reads' HO1108.out).2.1); rintro e w' ⟨rfl, ⟨nd, rfl⟩⟩))
       go_ret
       exact ⟨zqE, zq0⟩

/-! ### spec_IsConsistent: function 32 -/
def spec_IsConsistent.f (k : Nat) (l0 : List (S31)) : Option (Bool) := (spec_l14List.f k l0).bind fun t760 => (some t760)
theorem spec_IsConsistent.mono : ∀ a0 k, LeO (spec_IsConsistent.f k a0) (spec_IsConsistent.f (k + 1) a0) := by
 intro a0 k
 unfold spec_IsConsistent.f
 repeat' first
   | (with_reducible exact spec_l14List.mono _ _)
   | (with_reducible exact LeO.refl _)
   | (with_reducible exact LeO.none _)
   | (with_reducible refine LeO.ite ?_ ?_)
   | (with_reducible refine LeO.bind ?_ (fun _ => ?_))
   | exact spec_l14List.mono _ _
   | exact LeO.none _
   | refine LeO.ite ?_ ?_
   | refine LeO.bind ?_ (fun _ => ?_)
set_option maxHeartbeats 8000000 in
set_option maxRecDepth 100000 in
theorem spec_IsConsistent.calls (k : Nat) (A0 : Option Addr) (c0 : Nat) (l0 : List (S31)) (r : Bool) (w : World) (hr0 : Kd.C k31 w A0 l0.length l0) (hc0 : l0.length ≤ c0) (h : spec_IsConsistent.f k l0 = some r) :
  Calls Try.prog 32 #[.slice A0 l0.length c0] w fun e w' => e = .returned (.bool r) ∧ Below w.heap.size w w' := by
 have HR0 := Aside0.mk hr0
 have HC0 := Aside0.mk hc0
 clear hr0 hc0
 have HB := Aside0.mk (Below.refl w.heap.size w)
 have H : ((spec_l14List.f k l0).bind fun t760 => (some t760)) = some r := h
 clear h
 replace H := Option.bind_eq_some_iff.mp H
 obtain ⟨t760, A20, H⟩ := H
 replace H : (some t760) = some r := H
 have A2 := Aside0.mk A20
 clear A20
 obtain rfl := Option.some.inj H
 go_enter Try.func32, Try.ntmps32
 go_wp2_with (first | ((with_reducible refine gate_callee (f := 63) rfl ?_); refine goesL_ (some 4) rfl rfl Try.func63 (by kernel_rfl) rfl #[.slice A0 l0.length c0] rfl zq1 ?_; (with_reducible refine (spec_l14List.calls k _ _ l0 t760 _ ?side1 ?side2 A2.out).mono ?_); (case side1 => exact zqC HR0.out); (case side2 => exact HC0.out); rintro e w3 ⟨rfl, hb⟩; refine ⟨_, rfl, ?_⟩; have n0_ := Aside0.mk (below_step zq0 hb); clear HB; have HB := n0_; clear n0_; (try clear hb); (try clear hb2); (try clear hk); (try clear hi)))
 go_ret
 exact ⟨zqE, zq0⟩
end Go.Proofs.Ytklepiechbnenaa.Q
/- Lists of warnings in plain words: which are valid, which lists are consistent; what both programs say of it. -/
namespace Go.Proofs.Ytklepiechbnenaa.Q
open Go.RowKit Go.Proofs.YtklepiechbnenaaW.PrintWords Go.Proofs.Ytklepiechbnenaa.Gen Go.Proofs.Ytklepiechbnenaa.Tells
set_option linter.unusedVariables false
set_option linter.unusedSimpArgs false

def okW (x : S31) : Bool := decide (1 ≤ x.f0 ∧ x.f0 ≤ 999 ∧ 1 ≤ x.f1 ∧ x.f1 ≤ 5 ∧ 1 ≤ x.f2 ∧ x.f2 ≤ 3 ∧ 1 ≤ x.f3 ∧ x.f3 ≤ 9 ∧ 0 ≤ x.f4 ∧ x.f4 < x.f5 ∧ x.f5 ≤ 240)
theorem l1In_f (a b c : Int) : spec_l1In.f a b c = some (decide (b ≤ a ∧ a ≤ c)) := by
  unfold spec_l1In.f
  by_cases h1 : a ≥ b <;> by_cases h2 : a ≤ c <;> simp [h1, h2] <;> omega
theorem l14Good_f (x : S31) : spec_l14Good.f x.f0 x.f1 x.f2 x.f3 x.f4 x.f5 = some (okW x) := by
  unfold spec_l14Good.f okW
  simp only [l1In_f, Option.bind_some, decide_eq_true_eq]
  repeat' split
  all_goals (congr 1; first | (apply decide_eq_decide.2; unfold wrap64; omega) | (symm; apply decide_eq_false; omega))
theorem isValidW_f (x : S31) : impl_IsValidWarning.f x.f0 x.f1 x.f2 x.f3 x.f4 x.f5 = some (okW x) := by
  unfold impl_IsValidWarning.f okW
  simp only [within_f, Option.bind_some, decide_eq_true_eq]
  repeat' split
  all_goals (congr 1; first | (apply decide_eq_decide.2; omega) | (symm; apply decide_eq_false; omega))
theorem l14Meet_f (a b : S31) : spec_l14Meet.f a.f0 a.f1 a.f2 a.f3 a.f4 a.f5 b.f0 b.f1 b.f2 b.f3 b.f4 b.f5 = some (meetB a b) := by
  unfold spec_l14Meet.f meetB
  by_cases h1 : a.f1 = b.f1 <;> by_cases h2 : a.f3 = b.f3 <;> by_cases h3 : a.f4 < b.f5 <;> simp [h1, h2, h3]
theorem meetB_comm (a b : S31) : meetB a b = meetB b a := by
  unfold meetB
  rw [Bool.eq_iff_iff]
  simp only [Bool.and_eq_true, decide_eq_true_eq]
  constructor <;> (rintro ⟨h1, h2, h3, h4⟩; exact ⟨h1.symm, h2.symm, h4, h3⟩)
theorem rdW (l : List S31) (i : Nat) : rd_T31 l (i : Int) = l.getD i z31 := rfl

/-- The warning at place i is valid and its number is greater than the one before. -/
def stepB (l : List S31) (i : Nat) : Bool := okW (l.getD i z31) && (i == 0 || decide ((l.getD (i - 1) z31).f0 < (l.getD i z31).f0))
def clearB (l : List S31) (i : Nat) : Bool := !((l.take i).any fun o => meetB (l.getD i z31) o)
/-- A consistent list of warnings. -/
def consB (l : List S31) : Bool := decide (l.length ≤ 12) && decide (∀ j, j < l.length → (stepB l j && clearB l j) = true)

theorem any_take (l : List S31) (q : S31 → Bool) (i : Nat) (hi : i ≤ l.length) : (l.take i).any q = decide (∃ j, j < i ∧ q (l.getD j z31) = true) := by
  rw [Bool.eq_iff_iff, List.any_eq_true, decide_eq_true_eq]
  constructor
  · rintro ⟨x, hx, hq⟩
    obtain ⟨j, hj, rfl⟩ := List.getElem_of_mem hx
    have hj' : j < i := by rw [List.length_take] at hj; omega
    refine ⟨j, hj', ?_⟩
    rw [getD_lt l _ j (by omega)]
    simpa using hq
  · rintro ⟨j, hj, hq⟩
    refine ⟨l.getD j z31, ?_, hq⟩
    rw [getD_lt l _ j (by omega)]
    exact List.mem_take_iff_getElem.2 ⟨j, by omega, rfl⟩

/-- The inner loop of the reference: does a warning before place i meet it? -/
theorem ev_l14_l1 (l : List S31) (hl : l.length ≤ 12) (i : Nat) (hi : i < l.length) (r : Bool) (hr : Ev (fun k => spec_l14List.l0 k l ((i + 1 : Nat) : Int)) r) :
    Ev (fun k => spec_l14List.l1 k l (i : Int) 0) (if clearB l i = true then r else false) := by
  have key := ev_run (fun k (_ : Unit) j => spec_l14List.l1 k l (i : Int) j) i (fun j _ => if (!(meetB (l.getD j z31) (l.getD i z31))) = true then .inr () else .inl false) (fun _ => r) (fun _ _ => True)
    (by
      intro j s b hj _ h
      have hm : meetB (l.getD j z31) (l.getD i z31) = true := by
        cases hm : meetB (l.getD j z31) (l.getD i z31)
        · rw [hm] at h; simp at h
        · rfl
      have hb : b = false := by rw [hm] at h; simp at h; exact h
      subst hb
      refine Ev.eq_now fun k => ?_
      simp only [spec_l14List.l1]
      rw [if_pos (by omega), if_pos (by omega), if_pos (by omega), if_pos (by omega), if_pos (by omega), rdW, rdW, l14Meet_f, hm]
      rfl)
    (by
      intro j s s' r' hj _ h
      have hm : meetB (l.getD j z31) (l.getD i z31) = false := by
        cases hm : meetB (l.getD j z31) (l.getD i z31)
        · rfl
        · rw [hm] at h; simp at h
      refine ⟨trivial, fun he => ?_⟩
      refine Ev.congr (fun k => ?_) he
      simp only [spec_l14List.l1]
      rw [if_pos (by omega), if_pos (by omega), if_pos (by omega), if_pos (by omega), if_pos (by omega), rdW, rdW, l14Meet_f, hm, wrapS j (by omega)]
      rfl)
    (by
      intro s _
      refine Ev.congr (fun k => ?_) hr
      simp only [spec_l14List.l1]
      rw [if_neg (by omega), wrapS i (by omega)])
    i 0 () (by omega) trivial
  rw [run_all (fun j => !(meetB (l.getD j z31) (l.getD i z31))) false r i i 0 (by omega)] at key
  have e : (∀ j, j < i → 0 ≤ j → (!(meetB (l.getD j z31) (l.getD i z31))) = true) ↔ clearB l i = true := by
    unfold clearB
    rw [any_take l _ i (by omega)]
    simp only [Bool.not_eq_true', decide_eq_false_iff_not, not_exists, not_and, Bool.not_eq_true]
    constructor
    · intro h j hj; rw [meetB_comm]; exact h j hj (Nat.zero_le _)
    · intro h j hj _; rw [meetB_comm]; exact h j hj
  by_cases hc : clearB l i = true
  · rw [if_pos hc]; rw [if_pos (e.2 hc)] at key; exact key
  · rw [if_neg hc]; rw [if_neg (fun h => hc (e.1 h))] at key; exact key

theorem l14_round (l : List S31) (hl : l.length ≤ 12) (i : Nat) (hi : i < l.length) (k : Nat) : spec_l14List.l0 (k + 1) l (i : Int) = spec_l14List.j1 k l (i : Int) (!stepB l i) := by
  simp only [spec_l14List.l0]
  rw [if_pos (by omega), if_pos (by omega), rdW, l14Good_f]
  simp only [Option.bind_some]
  unfold stepB
  cases hg : okW (l.getD i z31) with
  | false => rfl
  | true =>
    rw [if_pos rfl]
    by_cases h0 : i = 0
    · subst h0
      rw [if_neg (by omega)]
      rfl
    · rw [if_pos (by omega), wrapP i (by omega) (by omega), if_pos (by omega), if_pos (by omega), rdW]
      congr 1
      rw [show (i == 0) = false from by simpa using h0]
      by_cases hlt : (l.getD (i - 1) z31).f0 < (l.getD i z31).f0
      · rw [decide_eq_false (by omega), decide_eq_true hlt]; rfl
      · rw [decide_eq_true (by omega), decide_eq_false hlt]; rfl

theorem ev_l14List (l : List S31) : Ev (fun k => spec_l14List.f k l) (consB l) := by
  unfold spec_l14List.f consB
  by_cases hl : l.length ≤ 12
  · refine Ev.congr (f := fun k => spec_l14List.l0 k l ((0 : Nat) : Int)) (fun k => by rw [if_neg (by omega)]; rfl) ?_
    have key := ev_run (fun k (_ : Unit) i => spec_l14List.l0 k l i) l.length (fun j _ => if (stepB l j && clearB l j) = true then .inr () else .inl false) (fun _ => true) (fun _ _ => True)
      (by
        intro i s b hi _ h
        have hm : (stepB l i && clearB l i) = false := by
          cases hm : (stepB l i && clearB l i)
          · rfl
          · rw [hm] at h; simp at h
        have hb : b = false := by rw [hm] at h; simp at h; exact h
        subst hb
        refine Ev.congr (l14_round l hl i hi) (Ev.unr ?_)
        cases hs : stepB l i with
        | false => exact Ev.eq_now fun k => by simp only [spec_l14List.j1]; rfl
        | true =>
          refine Ev.congr (f := fun k => spec_l14List.l1 k l (i : Int) 0) (fun k => by simp only [spec_l14List.j1]; rfl) ?_
          have hc : clearB l i = false := by rw [hs] at hm; simpa using hm
          obtain ⟨K, hK⟩ : ∃ K : Nat, True := ⟨0, trivial⟩
          have key := ev_run (fun k (_ : Unit) j => spec_l14List.l1 k l (i : Int) j) i (fun j _ => if (!(meetB (l.getD j z31) (l.getD i z31))) = true then .inr () else .inl false) (fun _ => false) (fun j _ => ∃ q, j ≤ q ∧ q < i ∧ meetB (l.getD q z31) (l.getD i z31) = true)
            (by
              intro j s b hj _ h
              have hm : meetB (l.getD j z31) (l.getD i z31) = true := by
                cases hm : meetB (l.getD j z31) (l.getD i z31)
                · rw [hm] at h; simp at h
                · rfl
              have hb : b = false := by rw [hm] at h; simp at h; exact h
              subst hb
              refine Ev.eq_now fun k => ?_
              simp only [spec_l14List.l1]
              rw [if_pos (by omega), if_pos (by omega), if_pos (by omega), if_pos (by omega), if_pos (by omega), rdW, rdW, l14Meet_f, hm]
              rfl)
            (by
              intro j s s' r' hj hI h
              have hm : meetB (l.getD j z31) (l.getD i z31) = false := by
                cases hm : meetB (l.getD j z31) (l.getD i z31)
                · rfl
                · rw [hm] at h; simp at h
              obtain ⟨q, h1, h2, h3⟩ := hI
              refine ⟨⟨q, ?_, h2, h3⟩, fun he => ?_⟩
              · have : q ≠ j := by rintro rfl; rw [hm] at h3; cases h3
                omega
              refine Ev.congr (fun k => ?_) he
              simp only [spec_l14List.l1]
              rw [if_pos (by omega), if_pos (by omega), if_pos (by omega), if_pos (by omega), if_pos (by omega), rdW, rdW, l14Meet_f, hm, wrapS j (by omega)]
              rfl)
            (by
              rintro s ⟨q, h1, h2, _⟩
              omega)
            i 0 () (by omega) (by
              unfold clearB at hc
              rw [any_take l _ i (by omega)] at hc
              simp only [Bool.not_eq_false', decide_eq_true_eq] at hc
              obtain ⟨q, h1, h2⟩ := hc
              exact ⟨q, Nat.zero_le _, h1, by rw [meetB_comm]; exact h2⟩)
          have hv : run (fun j (_ : Unit) => if (!(meetB (l.getD j z31) (l.getD i z31))) = true then .inr () else .inl false) (fun _ => false) i 0 () = false :=
            run_inv (n := i) (fun _ _ => True) (fun b => b = false) (fun j s b _ _ h => by
              split at h
              · cases h
              · exact (Sum.inl.inj h).symm) (fun _ _ _ _ _ _ => trivial) (fun _ _ => rfl) i 0 () (by omega) trivial
          rw [hv] at key
          exact key)
      (by
        intro i s s' r hi _ h
        have hm : stepB l i = true ∧ clearB l i = true := by
          cases h1 : stepB l i <;> cases h2 : clearB l i <;> simp [h1, h2] at h <;> simp
        refine ⟨trivial, fun he => Ev.congr (l14_round l hl i hi) (Ev.unr ?_)⟩
        rw [hm.1]
        refine Ev.congr (f := fun k => spec_l14List.l1 k l (i : Int) 0) (fun k => by simp only [spec_l14List.j1]; rfl) ?_
        have key := ev_l14_l1 l hl i hi r he
        rw [if_pos hm.2] at key
        exact key)
      (by
        intro s _
        refine Ev.eq_now fun k => ?_
        simp only [spec_l14List.l0]
        rw [if_neg (by omega)])
      l.length 0 () (by omega) trivial
    rw [run_all (fun j => stepB l j && clearB l j) false true l.length l.length 0 (by omega)] at key
    rw [decide_eq_true hl, Bool.true_and]
    by_cases hp : ∀ j, j < l.length → (stepB l j && clearB l j) = true
    · rw [decide_eq_true hp]
      rw [if_pos (fun j hj _ => hp j hj)] at key
      exact key
    · rw [decide_eq_false hp]
      rw [if_neg (fun h => hp (fun j hj => h j hj (Nat.zero_le _)))] at key
      exact key
  · refine Ev.eq_now fun k => ?_
    rw [if_pos (by omega), decide_eq_false hl]
    rfl

theorem areW_round (l : List S31) (hl : l.length ≤ 4611686018427387904) (i : Nat) (hi : i < l.length) (k : Nat) : impl_areWarnings.l0 (k + 1) l l (l.length : Int) (i : Int) = if stepB l i = true then impl_areWarnings.l0 k l l (l.length : Int) ((i + 1 : Nat) : Int) else some false := by
  simp only [impl_areWarnings.l0]
  rw [if_pos (by omega), if_pos (by omega), if_pos (by omega), rdW, isValidW_f, wrapS i (by omega)]
  simp only [Option.bind_some]
  unfold stepB
  cases hg : okW (l.getD i z31) with
  | false => rfl
  | true =>
    rw [if_pos rfl]
    by_cases h0 : i = 0
    · subst h0
      rw [if_neg (by omega)]
      rfl
    · rw [if_pos (by omega), wrapP i (by omega) (by omega), if_pos (by omega), if_pos (by omega), rdW]
      rw [show (i == 0) = false from by simpa using h0]
      by_cases hlt : (l.getD (i - 1) z31).f0 < (l.getD i z31).f0
      · rw [if_neg (by omega), decide_eq_true hlt]; rfl
      · rw [if_pos (by omega), decide_eq_false hlt]; rfl
theorem ev_areWarnings (l : List S31) (hb : l.length ≤ 4611686018427387904) : Ev (fun k => impl_areWarnings.f k l) (decide (l.length ≤ 12) && decide (∀ j, j < l.length → stepB l j = true)) := by
  unfold impl_areWarnings.f
  have key := ev_run (fun k (_ : Unit) i => impl_areWarnings.l0 k l l (l.length : Int) i) l.length (fun j _ => if stepB l j = true then .inr () else .inl false) (fun _ => decide (l.length ≤ 12)) (fun _ _ => True)
    (by
      intro i s b hi _ h
      refine Ev.eq_now fun k => ?_
      rw [areW_round l hb i hi]
      cases hs : stepB l i <;> simp [hs] at h ⊢
      exact h)
    (by
      intro i s s' r hi _ h
      refine ⟨trivial, fun he => Ev.congr (fun k => ?_) he⟩
      rw [areW_round l hb i hi]
      cases hs : stepB l i <;> simp [hs] at h ⊢)
    (by
      intro s _
      refine Ev.eq_now fun k => ?_
      simp only [impl_areWarnings.l0]
      rw [if_neg (by omega)]
      congr 1
      exact decide_eq_decide.2 (by omega))
    l.length 0 () (by omega) trivial
  rw [run_all (fun j => stepB l j) false (decide (l.length ≤ 12)) l.length l.length 0 (by omega)] at key
  by_cases hp : ∀ j, j < l.length → stepB l j = true
  · rw [decide_eq_true hp, Bool.and_true]
    rw [if_pos (fun j hj _ => hp j hj)] at key
    exact key
  · rw [decide_eq_false hp, Bool.and_false]
    rw [if_neg (fun h => hp (fun j hj => h j hj (Nat.zero_le _)))] at key
    exact key

theorem ev_IsConsistent (l : List S31) (hb : l.length ≤ 4611686018427387904) : Ev (fun k => impl_IsConsistent.f k l) (consB l) := by
  unfold impl_IsConsistent.f
  refine Ev.bind (f := fun _ t => some (t && apartB l)) (ev_areWarnings l hb) (Ev.eq_now fun k => ?_)
  congr 1
  unfold consB apartB
  rw [Bool.and_assoc]
  congr 1
  rw [Bool.eq_iff_iff]
  simp only [Bool.and_eq_true, decide_eq_true_eq, List.all_eq_true, List.mem_range]
  constructor
  · rintro ⟨h1, h2⟩ j hj
    exact ⟨h1 j hj, h2 j hj⟩
  · intro h
    exact ⟨fun j hj => (h j hj).1, fun j hj => (h j hj).2⟩

theorem ev_specCons (l : List S31) : Ev (fun k => spec_IsConsistent.f k l) (consB l) := by
  unfold spec_IsConsistent.f
  exact Ev.bind (f := fun _ t => some t) (ev_l14List l) (Ev.now _)
end Go.Proofs.Ytklepiechbnenaa.Q
/- Copying a list of warnings, setting one, taking one out. -/
namespace Go.Proofs.Ytklepiechbnenaa.Q
open Go.RowKit Go.Proofs.YtklepiechbnenaaW.PrintWords Go.Proofs.Ytklepiechbnenaa.Gen
set_option linter.unusedVariables false
set_option linter.unusedSimpArgs false
theorem getD_set (l : List S31) (q j : Nat) (hq : q < l.length) (y : S31) : (l.set q y).getD j z31 = if j = q then y else l.getD j z31 := by
  rw [List.getD_eq_getElem?_getD, List.getD_eq_getElem?_getD]
  by_cases e : j = q
  · subst e; rw [if_pos rfl, List.getElem?_set_self hq]; rfl
  · rw [if_neg e, List.getElem?_set_ne (by omega)]
theorem delete_f (l : List S31) (q : Nat) (hq : q < l.length) (hl : l.length ≤ 2097152) : impl_Warning_74.f l (q : Int) (wrap64 ((q : Int) + 1)) = some (l.eraseIdx q) := by
  unfold impl_Warning_74.f
  rw [if_pos ⟨by omega, by unfold wrap64; omega, by omega⟩, Int.toNat_natCast]
theorem erase_eq (l : List S31) (q : Nat) : l.eraseIdx q = l.take q ++ l.drop (q + 1) := List.eraseIdx_eq_take_drop_succ l q
theorem erase_len (l : List S31) (q : Nat) : (l.eraseIdx q).length ≤ l.length := by
  rw [List.length_eraseIdx]; split <;> omega
theorem clone_f (l : List S31) (hl : l.length ≤ 2097152) : impl_Warning_61.f l = some l := if_pos (by omega)
/- Joining warnings: what both programs do. -/
/-- Two warnings can be joined. -/
def joinsB (a b : S31) : Bool := decide (a.f1 = b.f1) && (decide (a.f3 = b.f3) && (decide (a.f2 = b.f2) && (decide (a.f5 = b.f4) || decide (b.f5 = a.f4))))
theorem joinsB_iff (a b : S31) : joinsB a b = true ↔ a.f1 = b.f1 ∧ a.f3 = b.f3 ∧ a.f2 = b.f2 ∧ (a.f5 = b.f4 ∨ b.f5 = a.f4) := by
  unfold joinsB
  simp only [Bool.and_eq_true, Bool.or_eq_true, decide_eq_true_eq]
def joinW (a b : S31) : S31 := ⟨a.f0, a.f1, a.f2, a.f3, mn a.f4 b.f4, mx a.f5 b.f5⟩
def joinAt (l : List S31) (i q : Nat) : List S31 := (l.set i (joinW (l.getD i z31) (l.getD q z31))).eraseIdx q
def nextK (l : List S31) (i : Nat) : Nat → Nat → Option Nat
  | _, 0 => none
  | q, d + 1 => if joinsB (l.getD i z31) (l.getD q z31) = true then some q else nextK l i (q + 1) d
def firstFrom (l : List S31) : Nat → Nat → Option (Nat × Nat)
  | _, 0 => none
  | i, d + 1 => match nextK l i (i + 1) (l.length - (i + 1)) with
    | some q => some (i, q)
    | none => firstFrom l (i + 1) d
def firstP (l : List S31) : Option (Nat × Nat) := firstFrom l 0 l.length
def joinF : Nat → List S31 → List S31
  | 0, l => l
  | n + 1, l => match firstP l with
    | none => l
    | some p => joinF n (joinAt l p.1 p.2)
theorem nextK_some (l : List S31) (i : Nat) : ∀ d q r, nextK l i q d = some r → q ≤ r ∧ r < q + d ∧ joinsB (l.getD i z31) (l.getD r z31) = true := by
  intro d
  induction d with
  | zero => intro q r h; cases h
  | succ d ih =>
    intro q r h
    unfold nextK at h
    by_cases e : joinsB (l.getD i z31) (l.getD q z31) = true
    · rw [if_pos e] at h
      obtain rfl := Option.some.inj h
      exact ⟨Nat.le_refl _, by omega, e⟩
    · rw [if_neg e] at h
      have := ih (q + 1) r h
      exact ⟨by omega, by omega, this.2.2⟩
theorem firstFrom_some (l : List S31) : ∀ d i p, i + d = l.length → firstFrom l i d = some p → p.1 < p.2 ∧ p.2 < l.length ∧ joinsB (l.getD p.1 z31) (l.getD p.2 z31) = true := by
  intro d
  induction d with
  | zero => intro i p _ h; cases h
  | succ d ih =>
    intro i p hd h
    unfold firstFrom at h
    cases hn : nextK l i (i + 1) (l.length - (i + 1)) with
    | some q =>
      rw [hn] at h
      obtain rfl := Option.some.inj h
      have := nextK_some l i _ _ _ hn
      exact ⟨by show i < q; omega, by show q < _; omega, this.2.2⟩
    | none =>
      rw [hn] at h
      exact ih (i + 1) p (by omega) h
theorem joinAt_len (l : List S31) (i q : Nat) (hq : q < l.length) : (joinAt l i q).length = l.length - 1 := by
  unfold joinAt
  rw [List.length_eraseIdx, List.length_set, if_pos hq]
theorem joinF_len : ∀ n l, (joinF n l).length ≤ l.length := by
  intro n
  induction n with
  | zero => intro l; exact Nat.le_refl _
  | succ n ih =>
    intro l
    unfold joinF
    cases hp : firstP l with
    | none => exact Nat.le_refl _
    | some p =>
      have h := firstFrom_some l _ _ p (Nat.zero_add _) hp
      have h1 := ih (joinAt l p.1 p.2)
      have h2 := joinAt_len l p.1 p.2 h.2.1
      exact Nat.le_trans h1 (by omega)
/-- What the program's search answers. -/
def pairR (p : Option (Nat × Nat)) : Int × Int × Bool := match p with
  | some p => ((p.1 : Int), (p.2 : Int), true)
  | none => (0, 0, false)
theorem ev_joint_l1 (l : List S31) (hl : l.length ≤ 2097152) (i : Nat) (hi : i < l.length) (R : Int × Int × Bool) (hR : Ev (fun k => impl_firstJoint.l0 k l l (l.length : Int) ((i + 1 : Nat) : Int)) R) :
    ∀ (d q : Nat), q + d = l.length → Ev (fun k => impl_firstJoint.l1 k l (i : Int) (q : Int) l (l.length : Int) (i : Int) (l.getD i z31).f0 (l.getD i z31).f1 (l.getD i z31).f2 (l.getD i z31).f3 (l.getD i z31).f4 (l.getD i z31).f5) (match nextK l i q d with | some q => ((i : Int), (q : Int), true) | none => R) := by
  intro d
  induction d with
  | zero =>
    intro q hq
    refine Ev.unr ?_
    simp only [impl_firstJoint.l1]
    refine Ev.congr (fun k => if_neg (by omega)) ?_
    rw [wrapS i (by omega)]
    exact hR
  | succ d ih =>
    intro q hq
    have hn := ih (q + 1) (by omega)
    refine Ev.unr ?_
    simp only [impl_firstJoint.l1]
    refine Ev.congr (fun k => if_pos (by omega)) ?_
    refine Ev.congr (fun k => if_pos (by omega)) ?_
    rw [rdW, wrapS q (by omega)]
    unfold nextK
    by_cases h1 : (l.getD i z31).f1 = (l.getD q z31).f1
    · refine Ev.congr (fun k => if_pos h1) ?_
      by_cases h2 : (l.getD i z31).f3 = (l.getD q z31).f3
      · refine Ev.congr (fun k => if_pos h2) ?_
        by_cases h3 : (l.getD i z31).f2 = (l.getD q z31).f2
        · refine Ev.congr (fun k => if_pos h3) ?_
          by_cases h4 : (l.getD i z31).f5 = (l.getD q z31).f4
          · refine Ev.congr (fun k => if_pos h4) ?_
            rw [if_pos ((joinsB_iff _ _).2 ⟨h1, h2, h3, .inl h4⟩)]
            exact Ev.now _
          · refine Ev.congr (fun k => if_neg h4) ?_
            by_cases h5 : (l.getD q z31).f5 = (l.getD i z31).f4
            · refine Ev.congr (fun k => if_pos h5) ?_
              rw [if_pos ((joinsB_iff _ _).2 ⟨h1, h2, h3, .inr h5⟩)]
              exact Ev.now _
            · refine Ev.congr (fun k => if_neg h5) ?_
              rw [if_neg (fun e => ((joinsB_iff _ _).1 e).2.2.2.elim h4 h5)]
              exact hn
        · refine Ev.congr (fun k => if_neg h3) ?_
          rw [if_neg (fun e => h3 ((joinsB_iff _ _).1 e).2.2.1)]
          exact hn
      · refine Ev.congr (fun k => if_neg h2) ?_
        rw [if_neg (fun e => h2 ((joinsB_iff _ _).1 e).2.1)]
        exact hn
    · refine Ev.congr (fun k => if_neg h1) ?_
      rw [if_neg (fun e => h1 ((joinsB_iff _ _).1 e).1)]
      exact hn
theorem ev_joint_l0 (l : List S31) (hl : l.length ≤ 2097152) : ∀ (d i : Nat), i + d = l.length → Ev (fun k => impl_firstJoint.l0 k l l (l.length : Int) (i : Int)) (pairR (firstFrom l i d)) := by
  intro d
  induction d with
  | zero =>
    intro i hi
    refine Ev.unr (Ev.eq_now fun k => ?_)
    simp only [impl_firstJoint.l0]
    rw [if_neg (by omega)]
    rfl
  | succ d ih =>
    intro i hi
    refine Ev.unr ?_
    simp only [impl_firstJoint.l0]
    refine Ev.congr (fun k => if_pos (by omega)) ?_
    refine Ev.congr (fun k => if_pos (by omega)) ?_
    refine Ev.congr (fun k => if_pos (by omega)) ?_
    rw [rdW, wrapS i (by omega)]
    have key := ev_joint_l1 l hl i (by omega) _ (ih (i + 1) (by omega)) (l.length - (i + 1)) (i + 1) (by omega)
    unfold firstFrom
    cases hn : nextK l i (i + 1) (l.length - (i + 1)) with
    | some q => rw [hn] at key; exact key
    | none => rw [hn] at key; exact key
theorem ev_joint (l : List S31) (hl : l.length ≤ 2097152) : Ev (fun k => impl_firstJoint.f k l) (pairR (firstP l)) := ev_joint_l0 l hl l.length 0 (by omega)
theorem join_set (l : List S31) (i q : Nat) (hi : i < l.length) :
    (l.set (i : Int).toNat ⟨(rd_T31 l (i : Int)).f0, (rd_T31 l (i : Int)).f1, (rd_T31 l (i : Int)).f2, (rd_T31 l (i : Int)).f3, mn (rd_T31 l (i : Int)).f4 (rd_T31 l (q : Int)).f4, (rd_T31 l (i : Int)).f5⟩).set (i : Int).toNat ⟨(rd_T31 (l.set (i : Int).toNat ⟨(rd_T31 l (i : Int)).f0, (rd_T31 l (i : Int)).f1, (rd_T31 l (i : Int)).f2, (rd_T31 l (i : Int)).f3, mn (rd_T31 l (i : Int)).f4 (rd_T31 l (q : Int)).f4, (rd_T31 l (i : Int)).f5⟩) (i : Int)).f0, (rd_T31 (l.set (i : Int).toNat ⟨(rd_T31 l (i : Int)).f0, (rd_T31 l (i : Int)).f1, (rd_T31 l (i : Int)).f2, (rd_T31 l (i : Int)).f3, mn (rd_T31 l (i : Int)).f4 (rd_T31 l (q : Int)).f4, (rd_T31 l (i : Int)).f5⟩) (i : Int)).f1, (rd_T31 (l.set (i : Int).toNat ⟨(rd_T31 l (i : Int)).f0, (rd_T31 l (i : Int)).f1, (rd_T31 l (i : Int)).f2, (rd_T31 l (i : Int)).f3, mn (rd_T31 l (i : Int)).f4 (rd_T31 l (q : Int)).f4, (rd_T31 l (i : Int)).f5⟩) (i : Int)).f2, (rd_T31 (l.set (i : Int).toNat ⟨(rd_T31 l (i : Int)).f0, (rd_T31 l (i : Int)).f1, (rd_T31 l (i : Int)).f2, (rd_T31 l (i : Int)).f3, mn (rd_T31 l (i : Int)).f4 (rd_T31 l (q : Int)).f4, (rd_T31 l (i : Int)).f5⟩) (i : Int)).f3, (rd_T31 (l.set (i : Int).toNat ⟨(rd_T31 l (i : Int)).f0, (rd_T31 l (i : Int)).f1, (rd_T31 l (i : Int)).f2, (rd_T31 l (i : Int)).f3, mn (rd_T31 l (i : Int)).f4 (rd_T31 l (q : Int)).f4, (rd_T31 l (i : Int)).f5⟩) (i : Int)).f4, mx (rd_T31 l (i : Int)).f5 (rd_T31 l (q : Int)).f5⟩ = l.set i (joinW (l.getD i z31) (l.getD q z31)) := by
  rw [Int.toNat_natCast, rdW, rdW, rdW, getD_set l i i hi, if_pos rfl, List.set_set]
  rfl
theorem ev_implJoinL : ∀ n (l : List S31), l.length ≤ n → n ≤ 2097152 → Ev (fun k => impl_JoinWarnings.l0 k l) (joinF n l, true) := by
  intro n
  induction n with
  | zero =>
    intro l hl _
    have e : l = [] := List.length_eq_zero_iff.1 (by omega)
    subst e
    refine Ev.unr ?_
    simp only [impl_JoinWarnings.l0]
    refine Ev.bind (f := fun k t => _) (ev_joint _ (by simp)) ?_
    exact Ev.congr (fun k => if_neg (by decide)) (Ev.now _)
  | succ n ih =>
    intro l hl hn
    refine Ev.unr ?_
    simp only [impl_JoinWarnings.l0]
    refine Ev.bind (f := fun k t => _) (ev_joint l (by omega)) ?_
    unfold joinF
    cases hp : firstP l with
    | none => exact Ev.congr (fun k => if_neg (by simp [pairR])) (Ev.now _)
    | some p =>
      obtain ⟨i, q⟩ := p
      have hj := firstFrom_some l _ _ (i, q) (Nat.zero_add _) hp
      dsimp only at hj
      simp only [pairR]
      refine Ev.congr (fun k => if_pos trivial) ?_
      refine Ev.congr (fun k => if_pos (by omega)) ?_
      refine Ev.congr (fun k => if_pos (by omega)) ?_
      refine Ev.congr (fun k => if_pos (by omega)) ?_
      refine Ev.congr (fun k => if_pos (by omega)) ?_
      refine Ev.bind (f := fun k t => _) (Ev.now _) ?_
      refine Ev.bind (f := fun k t => _) (Ev.eq_now fun k => (congrArg (fun z => impl_Warning_74.f z (q : Int) (wrap64 ((q : Int) + 1))) (join_set l i q (by omega))).trans (delete_f _ q (by rw [List.length_set]; omega) (by rw [List.length_set]; omega))) ?_
      have hlen : (joinAt l i q).length ≤ n := by have := joinAt_len l i q hj.2.1; omega
      exact ih (joinAt l i q) hlen (by omega)
theorem least_f (a b : Int) : spec_l1Least.f a b = some (mn a b) := by
  unfold spec_l1Least.f mn
  by_cases h : a < b
  · rw [if_pos h]; congr 1; split <;> omega
  · rw [if_neg h]; congr 1; split <;> omega
theorem most_f2 (a b : Int) : spec_l1Most.f a b = some (mx a b) := by
  unfold spec_l1Most.f mx
  by_cases h : a > b
  · rw [if_pos h]; congr 1; split <;> omega
  · rw [if_neg h]; congr 1; split <;> omega
theorem joins_f (a b : S31) : spec_l15Joins.f a.f0 a.f1 a.f2 a.f3 a.f4 a.f5 b.f0 b.f1 b.f2 b.f3 b.f4 b.f5 = some (joinsB a b) := by
  unfold spec_l15Joins.f joinsB
  by_cases h1 : a.f1 = b.f1 <;> by_cases h2 : a.f3 = b.f3 <;> by_cases h3 : a.f2 = b.f2 <;> by_cases h4 : a.f5 = b.f4 <;> by_cases h5 : b.f5 = a.f4 <;> simp [h1, h2, h3, h4, h5]
/-- The reference's inner loop behind a join: it ends, and the outer loop starts again. -/
theorem ev_spec_again (m : List S31) (R : List S31 × Bool) (hR : Ev (fun k => spec_JoinWarnings.l0 k m true) R) (i q : Int) : Ev (fun k => spec_JoinWarnings.l2 k m true i q) R := by
  refine Ev.unr ?_
  simp only [spec_JoinWarnings.l2, Bool.not_true]
  refine Ev.congr (f := fun k => spec_JoinWarnings.j4 k m true i q false) (fun k => by split <;> rfl) (Ev.unr ?_)
  simp only [spec_JoinWarnings.j4]
  refine Ev.congr (fun k => if_neg (by simp)) (Ev.unr ?_)
  simp only [spec_JoinWarnings.l1, Bool.not_true]
  refine Ev.congr (f := fun k => spec_JoinWarnings.j2 k m true (wrap64 (i + 1)) false) (fun k => by split <;> rfl) (Ev.unr ?_)
  simp only [spec_JoinWarnings.j2]
  exact Ev.congr (fun k => if_neg (by simp)) hR
theorem ev_spec_l2 (l : List S31) (hl : l.length ≤ 2097152) (i : Nat) (hi : i < l.length) (R : List S31 × Bool) (S : Nat → List S31 × Bool) (hR : Ev (fun k => spec_JoinWarnings.l1 k l false ((i + 1 : Nat) : Int)) R)
    (hS : ∀ q, i < q → q < l.length → joinsB (l.getD i z31) (l.getD q z31) = true → Ev (fun k => spec_JoinWarnings.l0 k (joinAt l i q) true) (S q)) :
    ∀ (d q : Nat), i < q → q + d = l.length → Ev (fun k => spec_JoinWarnings.l2 k l false (i : Int) (q : Int)) (match nextK l i q d with | some q => S q | none => R) := by
  intro d
  induction d with
  | zero =>
    intro q _ hq
    refine Ev.unr ?_
    simp only [spec_JoinWarnings.l2]
    refine Ev.congr (fun k => if_neg (by omega)) (Ev.unr ?_)
    simp only [spec_JoinWarnings.j4]
    refine Ev.congr (fun k => if_neg (by simp)) ?_
    rw [wrapS i (by omega)]
    exact hR
  | succ d ih =>
    intro q hiq hq
    have hn := ih (q + 1) (by omega) (by omega)
    refine Ev.unr ?_
    simp only [spec_JoinWarnings.l2, Bool.not_false]
    refine Ev.congr (fun k => if_pos (by omega)) (Ev.unr ?_)
    simp only [spec_JoinWarnings.j4]
    refine Ev.congr (fun k => if_pos (by trivial)) ?_
    refine Ev.congr (fun k => if_pos (by omega)) ?_
    refine Ev.congr (fun k => if_pos (by omega)) ?_
    refine Ev.congr (fun k => if_pos (by omega)) ?_
    refine Ev.congr (fun k => if_pos (by omega)) ?_
    simp only [rdW]
    refine Ev.bind (f := fun k t => _) (Ev.eq_now fun k => joins_f _ _) ?_
    unfold nextK
    by_cases hj : joinsB (l.getD i z31) (l.getD q z31) = true
    · rw [if_pos hj]
      refine Ev.congr (fun k => if_pos hj) ?_
      rw [wrapS q (by omega)]
      refine Ev.bind (f := fun k t => _) (Ev.eq_now fun k => least_f _ _) ?_
      refine Ev.bind (f := fun k t => _) (Ev.eq_now fun k => most_f2 _ _) ?_
      simp only [Option.bind_some, List.nil_append, List.length_nil, Nat.zero_add, Int.toNat_natCast]
      refine Ev.congr (fun k => if_pos (by omega)) ?_
      refine Ev.congr (fun k => if_pos (by rw [List.length_take, List.length_set]; omega)) ?_
      refine Ev.congr (fun k => if_pos (by omega)) ?_
      refine Ev.congr (fun k => if_pos (by omega)) ?_
      refine Ev.congr (fun k => if_pos (by rw [List.length_take, List.length_drop, List.length_set]; omega)) ?_
      refine ev_spec_again _ _ ?_ _ _
      have := hS q hiq (by omega) hj
      unfold joinAt at this
      rw [erase_eq] at this
      exact this
    · rw [if_neg hj]
      refine Ev.congr (fun k => if_neg hj) ?_
      rw [wrapS q (by omega)]
      exact hn
theorem ev_spec_l1 (l : List S31) (hl : l.length ≤ 2097152) (S : Nat → Nat → List S31 × Bool)
    (hS : ∀ i q, i < q → q < l.length → joinsB (l.getD i z31) (l.getD q z31) = true → Ev (fun k => spec_JoinWarnings.l0 k (joinAt l i q) true) (S i q)) :
    ∀ (d i : Nat), i + d = l.length → Ev (fun k => spec_JoinWarnings.l1 k l false (i : Int)) (match firstFrom l i d with | some p => S p.1 p.2 | none => (l, true)) := by
  intro d
  induction d with
  | zero =>
    intro i hi
    refine Ev.unr ?_
    simp only [spec_JoinWarnings.l1]
    refine Ev.congr (fun k => if_neg (by omega)) (Ev.unr ?_)
    simp only [spec_JoinWarnings.j2]
    refine Ev.congr (fun k => if_neg (by simp)) (Ev.unr (Ev.eq_now fun k => ?_))
    simp only [spec_JoinWarnings.l0]
    rw [if_neg (by simp)]
    rfl
  | succ d ih =>
    intro i hi
    refine Ev.unr ?_
    simp only [spec_JoinWarnings.l1, Bool.not_false]
    refine Ev.congr (fun k => if_pos (by omega)) (Ev.unr ?_)
    simp only [spec_JoinWarnings.j2]
    refine Ev.congr (fun k => if_pos (by trivial)) ?_
    rw [wrapS i (by omega)]
    have key := ev_spec_l2 l hl i (by omega) _ (S i) (ih (i + 1) (by omega)) (hS i) (l.length - (i + 1)) (i + 1) (by omega) (by omega)
    unfold firstFrom
    cases hn : nextK l i (i + 1) (l.length - (i + 1)) with
    | some q => rw [hn] at key; exact key
    | none => rw [hn] at key; exact key
theorem ev_specJoinL : ∀ n (l : List S31), l.length ≤ n → n ≤ 2097152 → Ev (fun k => spec_JoinWarnings.l0 k l true) (joinF n l, true) := by
  intro n
  induction n with
  | zero =>
    intro l hl hn
    have e : l = [] := List.length_eq_zero_iff.1 (by omega)
    subst e
    refine Ev.unr ?_
    simp only [spec_JoinWarnings.l0]
    refine Ev.congr (fun k => if_pos (by trivial)) ?_
    exact ev_spec_l1 [] (by simp) (fun _ _ => ([], true)) (fun i q _ h => by simp at h) 0 0 (by simp)
  | succ n ih =>
    intro l hl hn
    refine Ev.unr ?_
    simp only [spec_JoinWarnings.l0]
    refine Ev.congr (fun k => if_pos (by trivial)) ?_
    have key := ev_spec_l1 l (by omega) (fun i q => (joinF n (joinAt l i q), true)) (fun i q h1 h2 _ => ih _ (by rw [joinAt_len l i q h2]; omega) (by omega)) l.length 0 (by omega)
    unfold joinF
    cases hp : firstP l with
    | some p =>
      have hp' : firstFrom l 0 l.length = some p := hp
      rw [hp'] at key
      exact key
    | none =>
      have hp' : firstFrom l 0 l.length = none := hp
      rw [hp'] at key
      exact key
def joinR (l : List S31) : List S31 × Bool := if consB l = true then (joinF l.length l, true) else ([], false)
theorem joinR_len (l : List S31) : (joinR l).1.length ≤ 12 := by
  unfold joinR
  by_cases h : consB l = true
  · rw [if_pos h]; exact Nat.le_trans (joinF_len _ _) ((by unfold consB at h; simp only [Bool.and_eq_true, decide_eq_true_eq] at h; exact h.1))
  · rw [if_neg h]; exact Nat.zero_le _
theorem ev_specJoin (l : List S31) (hl : l.length ≤ 1048576) : Ev (fun k => spec_JoinWarnings.f k l) (joinR l) := by
  unfold spec_JoinWarnings.f joinR
  refine Ev.bind (f := fun k t => _) (ev_l14List l) ?_
  by_cases h : consB l = true
  · refine Ev.congr (fun k => if_pos h) ?_
    rw [if_pos h]
    simp only [Option.bind_some, List.nil_append, List.length_nil, Nat.zero_add]
    refine Ev.congr (fun k => if_pos (by omega)) ?_
    exact ev_specJoinL l.length l (Nat.le_refl _) (by omega)
  · refine Ev.congr (fun k => if_neg h) ?_
    rw [if_neg h]; exact Ev.now _
theorem ev_implJoin (l : List S31) (hl : l.length ≤ 1048576) : Ev (fun k => impl_JoinWarnings.f k l) (joinR l) := by
  unfold impl_JoinWarnings.f joinR
  refine Ev.bind (f := fun k t => _) (ev_IsConsistent l (by omega)) ?_
  by_cases h : consB l = true
  · refine Ev.congr (fun k => if_pos h) ?_
    rw [if_pos h]
    refine Ev.bind (f := fun k t => _) (Ev.eq_now fun k => clone_f l (by omega)) ?_
    exact ev_implJoinL l.length l (Nat.le_refl _) (by omega)
  · refine Ev.congr (fun k => if_neg h) ?_
    rw [if_neg h]; exact Ev.now _
/- Drawn input: each draw comes to an end (no program's answer is told of, only that there is one, and its bounds). -/
/-- The bytes that a draw reads. -/
def Cod (l : List Int) : Prop := l.length ≤ 1000000 ∧ ∀ x ∈ l, 0 ≤ x ∧ x ≤ 255
theorem and_u64 (X : Int) : 0 ≤ Go.bits .and .u64 ((IntKind.u64.wrap X) / 1099511627776) 255 ∧ Go.bits .and .u64 ((IntKind.u64.wrap X) / 1099511627776) 255 ≤ 255 := by
  have hw : IntKind.u64.wrap X = X % 18446744073709551616 := by simp [IntKind.wrap, IntKind.bits, IntKind.signed]
  have h1 : 0 ≤ X % 18446744073709551616 := by omega
  have h2 : X % 18446744073709551616 < 18446744073709551616 := by omega
  rw [hw]
  generalize X % 18446744073709551616 = Y at h1 h2
  have key := bits_mask .u64 32 (by decide) (fun n h0 h1 => by
    have e : IntKind.u64.wrap n = n % 18446744073709551616 := by simp [IntKind.wrap, IntKind.bits, IntKind.signed]
    rw [e]; omega) 8 (by decide) (Y / 1099511627776) (by omega) (by omega)
  rw [show (2 : Int) ^ 8 - 1 = 255 from rfl] at key
  rw [key]
  omega
theorem next_ok {l : List Int} (h : Cod l) (s q : Int) (h0 : 0 ≤ s) (h1 : s ≤ 1000000000) : ∃ b q', spec_l1Cur_next.f l s q = some (b, s + 1, q') ∧ 0 ≤ b ∧ b ≤ 255 := by
  unfold spec_l1Cur_next.f
  rw [show wrap64 (s + 1) = s + 1 from by unfold wrap64; omega]
  by_cases c : s < (l.length : Int)
  · rw [if_pos c, if_pos h0, if_pos (by omega)]
    have hb : 0 ≤ rd l s ∧ rd l s ≤ 255 := by
      show 0 ≤ l.getD s.toNat 0 ∧ l.getD s.toNat 0 ≤ 255
      rw [getD_lt l 0 s.toNat (by omega)]
      exact h.2 _ (List.getElem_mem _)
    exact ⟨_, _, rfl, by unfold wrap64; omega, by unfold wrap64; omega⟩
  · rw [if_neg c, if_neg (by omega)]
    refine ⟨_, _, rfl, ?_⟩
    have := and_u64 ((IntKind.u64.wrap ((IntKind.u64.wrap (q * 6364136223846793005)) + 0)) + 889889)
    generalize Go.bits .and .u64 ((IntKind.u64.wrap ((IntKind.u64.wrap ((IntKind.u64.wrap (q * 6364136223846793005)) + 0)) + 889889)) / 1099511627776) 255 = z at this ⊢
    unfold wrap64; omega
theorem pick_ok {l : List Int} (h : Cod l) (s q : Int) (h0 : 0 ≤ s) (h1 : s ≤ 999999998) (n : Int) : ∃ x s' q', spec_l1Cur_pick.f l s q n = some (x, s', q') ∧ 0 ≤ x ∧ (x < n ∨ x = 0) ∧ s ≤ s' ∧ s' ≤ s + 2 := by
  unfold spec_l1Cur_pick.f
  by_cases c : n ≤ 1
  · rw [if_pos c]
    exact ⟨0, s, q, rfl, by omega, .inr rfl, by omega, by omega⟩
  · rw [if_neg c]
    obtain ⟨b, q1, e1, b0, b1⟩ := next_ok h s q h0 (by omega)
    rw [e1, Option.bind_some]
    dsimp only
    by_cases c2 : n > 200
    · rw [if_pos c2]
      obtain ⟨d, q2, e2, d0, d1⟩ := next_ok h (s + 1) q1 (by omega) (by omega)
      rw [e2, Option.bind_some]
      dsimp only
      rw [if_neg (by omega), show wrap64 (wrap64 (b * 256) + d) = b * 256 + d from by unfold wrap64; omega]
      exact ⟨_, _, _, rfl, Int.tmod_nonneg _ (by omega), .inl (Int.tmod_lt_of_pos _ (by omega)), by omega, by omega⟩
    · rw [if_neg c2, if_neg (by omega)]
      exact ⟨_, _, _, rfl, Int.tmod_nonneg _ b0, .inl (Int.tmod_lt_of_pos _ (by omega)), by omega, by omega⟩
theorem among_ok {l : List Int} (h : Cod l) (s q : Int) (h0 : 0 ≤ s) (h1 : s ≤ 999999998) (L : List Int) (hL : 0 < L.length) : ∃ x s' q', spec_l1Cur_among.f l s q L = some (x, s', q') ∧ x ∈ L ∧ s ≤ s' ∧ s' ≤ s + 2 := by
  unfold spec_l1Cur_among.f
  obtain ⟨x, s1, q1, e1, x0, x1, s0, s2⟩ := pick_ok h s q h0 h1 (L.length : Int)
  rw [e1, Option.bind_some]
  dsimp only
  rw [if_pos x0, if_pos (by omega)]
  refine ⟨_, _, _, rfl, ?_, s0, s2⟩
  show L.getD x.toNat 0 ∈ L
  rw [getD_lt L 0 x.toNat (by omega)]
  exact List.getElem_mem _
theorem one_ok {l : List Int} (h : Cod l) (s q : Int) (h0 : 0 ≤ s) (h1 : s ≤ 999999998) (n : Int) : ∃ b s' q', spec_l1Cur_one.f l s q n = some (b, s', q') ∧ s ≤ s' ∧ s' ≤ s + 2 := by
  unfold spec_l1Cur_one.f
  obtain ⟨x, s1, q1, e1, _, _, s0, s2⟩ := pick_ok h s q h0 h1 n
  rw [e1, Option.bind_some]
  exact ⟨_, _, _, rfl, s0, s2⟩
end Go.Proofs.Ytklepiechbnenaa.Q
