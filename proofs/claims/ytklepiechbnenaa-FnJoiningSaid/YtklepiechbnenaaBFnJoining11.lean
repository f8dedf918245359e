/- Texts of this seat, put together: Qf50, Qf86, Qf51, Qf71, Qf73, Qf52, Qf87, Qf88. -/
import Derived.Test.YtklepiechbnenaaZFnJoining
import Derived.Test.YtklepiechbnenaaBFnJoining0
import Derived.Test.YtklepiechbnenaaBFnJoining1
import Derived.Test.YtklepiechbnenaaBFnJoining3
import Derived.Test.YtklepiechbnenaaBFnJoining4
import Derived.Test.YtklepiechbnenaaBFnJoining6
import Derived.Test.YtklepiechbnenaaBFnJoining7
import Derived.Test.YtklepiechbnenaaBFnJoining9
namespace Go.Proofs.Ytklepiechbnenaa.Q
open Go.RowKit Go.Proofs.YtklepiechbnenaaW.PrintWords Go.Proofs.YtklepiechbnenaaW.PrintLast Go.Proofs.YtklepiechbnenaaW.PrintMore
attribute [local go_sem] max2_int min2_int max_two min_two max_three min_three max_four min_four   -- for this text's walks alone
set_option linter.unusedVariables false
set_option linter.unusedSimpArgs false

/-! ### spec_ChangeHours: function 50 -/
mutual
def spec_ChangeHours.l0 : Nat → List (S31) → List Int → Int → Option (List Int × Bool)
 | 0, _, _, _ => none
 | k + 1, x0, x4, x5 => if x5 ≤ 240 then (spec_ChangeHours.l1 k x0 x4 x5 false 0) else (some (x4, true))
def spec_ChangeHours.l1 : Nat → List (S31) → List Int → Int → Bool → Int → Option (List Int × Bool)
 | 0, _, _, _, _, _ => none
 | k + 1, x0, x4, x5, x6, x7 => if x7 < (x0.length : Int) then (if 0 ≤ x7 then ((spec_l15Level.f k x0 ((rd_T31 x0 x7).f1) ((rd_T31 x0 x7).f3) (wrap64 (x5 - 1))).bind fun t1015 => ((spec_l15Level.f k x0 ((rd_T31 x0 x7).f1) ((rd_T31 x0 x7).f3) x5).bind fun t1016 => (if x6 = true then (spec_ChangeHours.l1 k x0 x4 x5 true (wrap64 (x7 + 1))) else (spec_ChangeHours.l1 k x0 x4 x5 (t1015 != t1016) (wrap64 (x7 + 1)))))) else (none)) else (if x6 = true then (if x4.length < 17592186044416 then (spec_ChangeHours.l0 k x0 (x4 ++ [x5]) (wrap64 (x5 + 1))) else (none)) else (spec_ChangeHours.l0 k x0 x4 (wrap64 (x5 + 1))))
end
def spec_ChangeHours.f (k : Nat) (l0 : List (S31)) : Option (List Int × Bool) := (some (([] : List Int) : List Int)).bind fun y1009 => ((spec_l14List.f k l0).bind fun t1012 => (if t1012 = true then (spec_ChangeHours.l0 k l0 y1009 0) else (some (y1009, false))))
theorem spec_ChangeHours.mono_l : ∀ k, (∀ y0 y1 y2, LeO (spec_ChangeHours.l0 k y0 y1 y2) (spec_ChangeHours.l0 (k + 1) y0 y1 y2)) ∧ (∀ y0 y1 y2 y3 y4, LeO (spec_ChangeHours.l1 k y0 y1 y2 y3 y4) (spec_ChangeHours.l1 (k + 1) y0 y1 y2 y3 y4))
 | 0 => ⟨fun _ _ _ r h => by simp [spec_ChangeHours.l0] at h, fun _ _ _ _ _ r h => by simp [spec_ChangeHours.l1] at h⟩
 | k + 1 => by
  obtain ⟨ih0, ih1⟩ := spec_ChangeHours.mono_l k
  refine ⟨?_, ?_⟩
  ·
   intro y0 y1 y2
   unfold spec_ChangeHours.l0
   repeat' first
   | (with_reducible exact ih0 _ _ _)
   | (with_reducible exact ih1 _ _ _ _ _)
   | (with_reducible exact spec_l14List.mono _ _)
   | (with_reducible exact spec_l15Level.mono _ _ _ _ _)
   | (with_reducible exact LeO.refl _)
   | (with_reducible exact LeO.none _)
   | (with_reducible refine LeO.ite ?_ ?_)
   | (with_reducible refine LeO.bind ?_ (fun _ => ?_))
   | exact ih0 _ _ _
   | exact ih1 _ _ _ _ _
   | exact spec_l14List.mono _ _
   | exact spec_l15Level.mono _ _ _ _ _
   | exact LeO.none _
   | refine LeO.ite ?_ ?_
   | refine LeO.bind ?_ (fun _ => ?_)
  ·
   intro y0 y1 y2 y3 y4
   unfold spec_ChangeHours.l1
   repeat' first
   | (with_reducible exact ih0 _ _ _)
   | (with_reducible exact ih1 _ _ _ _ _)
   | (with_reducible exact spec_l14List.mono _ _)
   | (with_reducible exact spec_l15Level.mono _ _ _ _ _)
   | (with_reducible exact LeO.refl _)
   | (with_reducible exact LeO.none _)
   | (with_reducible refine LeO.ite ?_ ?_)
   | (with_reducible refine LeO.bind ?_ (fun _ => ?_))
   | exact ih0 _ _ _
   | exact ih1 _ _ _ _ _
   | exact spec_l14List.mono _ _
   | exact spec_l15Level.mono _ _ _ _ _
   | exact LeO.none _
   | refine LeO.ite ?_ ?_
   | refine LeO.bind ?_ (fun _ => ?_)
theorem spec_ChangeHours.mono : ∀ a0 k, LeO (spec_ChangeHours.f k a0) (spec_ChangeHours.f (k + 1) a0) := by
 intro a0 k
 obtain ⟨ih0, ih1⟩ := spec_ChangeHours.mono_l k
 unfold spec_ChangeHours.f
 repeat' first
   | (with_reducible exact ih0 _ _ _)
   | (with_reducible exact ih1 _ _ _ _ _)
   | (with_reducible exact spec_l14List.mono _ _)
   | (with_reducible exact spec_l15Level.mono _ _ _ _ _)
   | (with_reducible exact LeO.refl _)
   | (with_reducible exact LeO.none _)
   | (with_reducible refine LeO.ite ?_ ?_)
   | (with_reducible refine LeO.bind ?_ (fun _ => ?_))
   | exact ih0 _ _ _
   | exact ih1 _ _ _ _ _
   | exact spec_l14List.mono _ _
   | exact spec_l15Level.mono _ _ _ _ _
   | exact LeO.none _
   | refine LeO.ite ?_ ?_
   | refine LeO.bind ?_ (fun _ => ?_)
def spec_ChangeHours.T12 : Bool × List (List Nat × List Nat) := (true, [([], []), ([], []), ([1], [1]), ([], []), ([3], [3]), ([], []), ([5], [5]), ([0, 2, 4, 6], [0, 2, 4, 6]), ([], []), ([], []), ([9], [9]), ([], []), ([11], [11]), ([], []), ([8, 10, 12, 13, 7], [8, 10, 12, 13]), ([7, 14, 0, 1, 2, 3, 4, 5, 6, 7], [7]), ([14, 15, 0, 1, 2, 3, 4, 5, 6, 7, 8, 9, 10, 11, 12, 13, 14, 15], [14])])
def spec_ChangeHours.B12 : List Nat := [0, 0, 2, 0, 8, 0, 32, 127, 0, 0, 512, 0, 2048, 0, 16383, 32767, 65535]
theorem spec_ChangeHours.tab12 : rtab .any (opsOf Try.f50 12) = spec_ChangeHours.T12 := by kernel_rfl
theorem spec_ChangeHours.bits12 : waitsOk spec_ChangeHours.T12.2 spec_ChangeHours.B12 = true := by kernel_rfl
set_option maxHeartbeats 8000000 in
set_option maxRecDepth 100000 in
theorem spec_ChangeHours.calls (k : Nat) (A0 : Option Addr) (c0 : Nat) (l0 : List (S31)) (r1 : List Int) (r2 : Bool) (w : World) (hr0 : Kd.C k31 w A0 l0.length l0) (hc0 : l0.length ≤ c0) (h : spec_ChangeHours.f k l0 = some (r1, r2)) :
  Calls Try.prog 50 #[.slice A0 l0.length c0] w fun e w' => ∃ v0_ : Value, e = .returned (.tuple #[v0_, .bool r2]) ∧ Kd.R (Kd.int .i64) 3 w' w.heap.size (fun _ => True) v0_ r1 ∧ Below w.heap.size w w' := by
 have hu31 := Try.underlying31
 have HR0 := Aside0.mk hr0
 have HC0 := Aside0.mk hc0
 clear hr0 hc0
 have HB := Aside0.mk (Below.refl w.heap.size w)
 have H : ((some (([] : List Int) : List Int)).bind fun y1009 => ((spec_l14List.f k l0).bind fun t1012 => (if t1012 = true then (spec_ChangeHours.l0 k l0 y1009 0) else (some (y1009, false))))) = some (r1, r2) := h
 clear h
 obtain ⟨y1009, hy1009⟩ : ∃ y_ : List Int, y_ = (([] : List Int)) := ⟨_, rfl⟩
 replace H : ((spec_l14List.f k l0).bind fun t1012 => (if t1012 = true then (spec_ChangeHours.l0 k l0 y1009 0) else (some (y1009, false)))) = some (r1, r2) := zqH hy1009 H
 have Ny1009 := Aside0.mk hy1009
 clear hy1009
 replace H := Option.bind_eq_some_iff.mp H
 obtain ⟨t1012, A20, H⟩ := H
 replace H : (if t1012 = true then (spec_ChangeHours.l0 k l0 y1009 0) else (some (y1009, false))) = some (r1, r2) := H
 have A2 := Aside0.mk A20
 clear A20
 by_cases c3 : t1012 = true
 case neg =>
  replace c3 := Bool.eq_false_iff.mpr c3
  subst c3
  have H1 : (some (y1009, false)) = some (r1, r2) := by rw [if_neg (show ¬ (false = true) by decide)] at H; exact H
  clear H
  have H := H1
  clear H1
  simp only [Option.some.injEq, Prod.mk.injEq] at H
  obtain ⟨rfl, rfl⟩ := H
  go_enter Try.func50, Try.ntmps50
  go_wp2_with (first | ((with_reducible refine gate_dst (N := 11) rfl ?_); refine Kd.R_lit (Kd.int .i64) _ 3 ?hg (N := 11) ?hd (xs := ([] : List Int)) (inner := []) (ok := fun _ => True) (okp := fun _ => True) ?hr ?hp (fun _ hk => hk) trivial (Below.refl _ _) (Nat.le_refl _) (by simp) ?_; (case hd => rfl); (case hg => rfl); (case hr => exact zqS); (case hp => exact (Reps.none _ _)); intro v1010 w28 ho29 hb hg_ hnew_; clear hg_ hnew_; (first | rw [← Ny1009.out] at ho29 | (simp only [Int.reduceToNat] at ho29; rw [← Ny1009.out] at ho29)); have n0_ := Aside0.mk (Kd.R_lower ho29 (below_size zq0)); have n1_ := Aside0.mk (below_step zq0 hb); clear HB; have HO1011 := n0_; have HB := n1_; clear n0_ n1_; clear hb ho29) | ((with_reducible refine gate_callee (f := 63) rfl ?_); refine goesL_ (some 13) rfl rfl Try.func63 (by kernel_rfl) rfl #[.slice A0 l0.length c0] rfl zq1 ?_; (with_reducible refine (spec_l14List.calls k _ _ l0 false _ ?side1 ?side2 A2.out).mono ?_); (case side1 => exact zqC (Kd.C_below HR0.out HB.out)); (case side2 => exact HC0.out); rintro e w30 ⟨rfl, hb⟩; refine ⟨_, rfl, ?_⟩; have n0_ := Aside0.mk (Kd.R_below (zqR HO1011.out) hb); have n1_ := Aside0.mk (below_step zq0 hb); clear HO1011; clear HB; have HO1011 := n0_; have HB := n1_; clear n0_ n1_; (try clear hb); (try clear hb2); (try clear hk); (try clear hi)))
  go_ret2
  exact ⟨_, by first | rfl | (simp [errW_none, errW_some] <;> rfl) | (simp [*, errW_none, errW_some] <;> rfl), zqR HO1011.out, zq0⟩
 subst c3
 have H1 : (spec_ChangeHours.l0 k l0 y1009 0) = some (r1, r2) := by rw [if_pos rfl] at H; exact H
 clear H
 have H := H1
 clear H1
 have H' := Aside0.mk H
 clear H
 go_enter Try.func50, Try.ntmps50
 go_wp2_with (first | ((with_reducible refine gate_dst (N := 11) rfl ?_); refine Kd.R_lit (Kd.int .i64) _ 3 ?hg (N := 11) ?hd (xs := ([] : List Int)) (inner := []) (ok := fun _ => True) (okp := fun _ => True) ?hr ?hp (fun _ hk => hk) trivial (Below.refl _ _) (Nat.le_refl _) (by simp) ?_; (case hd => rfl); (case hg => rfl); (case hr => exact zqS); (case hp => exact (Reps.none _ _)); intro v1010 w4 ho5 hb hg_ hnew_; clear hg_ hnew_; (first | rw [← Ny1009.out] at ho5 | (simp only [Int.reduceToNat] at ho5; rw [← Ny1009.out] at ho5)); have n0_ := Aside0.mk (Kd.R_lower ho5 (below_size zq0)); have n1_ := Aside0.mk (below_step zq0 hb); clear HB; have HO1011 := n0_; have HB := n1_; clear n0_ n1_; clear hb ho5) | ((with_reducible refine gate_callee (f := 63) rfl ?_); refine goesL_ (some 13) rfl rfl Try.func63 (by kernel_rfl) rfl #[.slice A0 l0.length c0] rfl zq1 ?_; (with_reducible refine (spec_l14List.calls k _ _ l0 true _ ?side1 ?side2 A2.out).mono ?_); (case side1 => exact zqC (Kd.C_below HR0.out HB.out)); (case side2 => exact HC0.out); rintro e w6 ⟨rfl, hb⟩; refine ⟨_, rfl, ?_⟩; have n0_ := Aside0.mk (Kd.R_below (zqR HO1011.out) hb); have n1_ := Aside0.mk (below_step zq0 hb); clear HO1011; clear HB; have HO1011 := n0_; have HB := n1_; clear n0_ n1_; (try clear hb); (try clear hb2); (try clear hk); (try clear hi)))
 go_loopg [4, 5] k (fun kq v4 v5 w' => ∃ (x4_1 : List Int) (x5_1 : Int), v5 = .int .i64 x5_1 ∧ Aside0 (spec_ChangeHours.l0 kq l0 x4_1 x5_1 = some (r1, r2)) ∧ Aside0 (kq ≤ k) ∧ Aside0 (Kd.R (Kd.int .i64) 3 w' w.heap.size (fun _ => True) v4 x4_1) ∧ Aside0 (Below w.heap.size w w'))
 case atStart => exact ⟨(y1009), (0), (by first | rfl | (simp; done) | (simp [*]; done)), H', ⟨Nat.le_refl _⟩, ⟨zqR HO1011.out⟩, ⟨zq0⟩⟩
 clear H'
 try clear p2
 try clear c3
 try clear c5
 try clear c6
 obtain ⟨x4_1, x5_1, rfl, HA, HK1, HO_4, HB⟩ := hrel
 cases gk with
 | zero => exact absurd HA.out (by simp [spec_ChangeHours.l0])
 | succ k1 =>
  have H := HA.out
  clear HA
  simp only [spec_ChangeHours.l0] at H
  by_cases c7 : x5_1 ≤ 240
  case neg =>
   rw [if_neg c7] at H
   have c7b0 : decide (x5_1 ≤ 240) = false := decide_eq_false c7
   clear c7
   simp only [Option.some.injEq, Prod.mk.injEq] at H
   obtain ⟨rfl, rfl⟩ := H
   go_wp2
   go_ret2
   exact ⟨_, by first | rfl | (simp [errW_none, errW_some] <;> rfl) | (simp [*, errW_none, errW_some] <;> rfl), zqR HO_4.out, zq0⟩
  rw [if_pos c7] at H
  have c7b0 : decide (x5_1 ≤ 240) = true := decide_eq_true c7
  clear c7
  have H' := Aside0.mk H
  clear H
  go_wp2
  go_loopg [6, 7] k1 (fun kq v6 v7 w' => ∃ (x6_2 : Bool) (x7_2 : Int), v6 = .bool x6_2 ∧ v7 = .int .i64 x7_2 ∧ Aside0 (spec_ChangeHours.l1 kq l0 x4_1 x5_1 x6_2 x7_2 = some (r1, r2)) ∧ Aside0 (kq ≤ k1) ∧ Aside0 (Kd.R (Kd.int .i64) 3 w' w.heap.size (fun _ => True) u4 x4_1) ∧ Aside0 (Below w.heap.size w w'))
  case atStart => exact ⟨(false), (0), (by first | rfl | (simp; done) | (simp [*]; done)), (by first | rfl | (simp; done) | (simp [*]; done)), H', ⟨Nat.le_refl _⟩, ⟨zqR HO_4.out⟩, ⟨zq0⟩⟩
  clear H'
  try clear p2
  try clear c3
  try clear c5
  try clear c6
  try clear c7
  try clear c7b0
  try clear p2
  obtain ⟨x6_2, x7_2, rfl, rfl, HA, HK2, HO_4, HB⟩ := hrel
  cases gk with
  | zero => exact absurd HA.out (by simp [spec_ChangeHours.l1])
  | succ k2 =>
   have H := HA.out
   clear HA
   simp only [spec_ChangeHours.l1] at H
   by_cases c8 : x7_2 < (l0.length : Int)
   case neg =>
    rw [if_neg c8] at H
    have c8b0 : decide (x7_2 < (l0.length : Int)) = false := decide_eq_false c8
    clear c8
    by_cases c25 : x6_2 = true
    case neg =>
     replace c25 := Bool.eq_false_iff.mpr c25
     subst c25
     have H1 : (spec_ChangeHours.l0 k2 l0 x4_1 (wrap64 (x5_1 + 1))) = some (r1, r2) := by rw [if_neg (show ¬ (false = true) by decide)] at H; exact H
     clear H
     have H := H1
     clear H1
     have H' := Aside0.mk H
     clear H
     go_wp2
     go_roundg k2
     case measure => have := HK1.out; have := HK2.out; omega
     case rel => exact ⟨(x4_1), (wrap64 (x5_1 + 1)), (by first | rfl | (simp; done) | (simp [*]; done)), H', ⟨by have := HK1.out; have := HK2.out; omega⟩, ⟨zqR HO_4.out⟩, ⟨zq0⟩⟩
    subst c25
    have H1 : (if x4_1.length < 17592186044416 then (spec_ChangeHours.l0 k2 l0 (x4_1 ++ [x5_1]) (wrap64 (x5_1 + 1))) else (none)) = some (r1, r2) := by rw [if_pos rfl] at H; exact H
    clear H
    have H := H1
    clear H1
    by_cases c26 : x4_1.length < 17592186044416
    case neg =>
     rw [if_neg c26] at H
     exact absurd H (by simp)
    rw [if_pos c26] at H
    have LMc26 := Aside0.mk c26
    clear c26
    obtain ⟨y1017, hy1017⟩ : ∃ y_ : List Int, y_ = (x4_1 ++ [x5_1]) := ⟨_, rfl⟩
    replace H : (spec_ChangeHours.l0 k2 l0 y1017 (wrap64 (x5_1 + 1))) = some (r1, r2) := zqH hy1017 H
    have Ny1017 := Aside0.mk hy1017
    clear hy1017
    have H' := Aside0.mk H
    clear H
    go_wp2_with (first | ((with_reducible refine gate_builtin (b := .append) (xs := #[.tmp 52, .tmp 54]) rfl ?_); at_builtin; refine Kd.R_append (Kd.int .i64) (w0 := w) w.heap.size rfl (.tmp 52) (.tmp 54) 54 3 (.int .i64 0) 8 rfl Try.underlying54 info3 rfl (by decide) (by omega) u4 x4_1 x5_1 [.int .i64 x5_1] (fun _ => True) (fun _ => False) rfl rfl ?aP (fun _ hk => hk.elim) ?aF ?aO ?aB ?aS ?aL ?_; (case aP => exact rfl); (case aB => exact zq0); (case aF => exact (fun _ _ => trivial)); (case aO => exact (zqR HO_4.out)); (case aS => exact (below_size zq0)); (case aL => have := LMc26.out; omega); intro v1018 w27 ho hb hg hat; rw [← Ny1017.out] at ho; have n0_ := Aside0.mk (hb); have n1_ := Aside0.mk (ho); clear HB; clear HO_4; have HB := n0_; have HO1019 := n1_; clear n0_ n1_; clear ho hb hg hat))
    go_roundg k2
    case measure => have := HK1.out; have := HK2.out; omega
    case rel => exact ⟨(y1017), (wrap64 (x5_1 + 1)), (by first | rfl | (simp; done) | (simp [*]; done)), H', ⟨by have := HK1.out; have := HK2.out; omega⟩, ⟨zqR HO1019.out⟩, ⟨zq0⟩⟩
   rw [if_pos c8] at H
   have c8b0 : decide (x7_2 < (l0.length : Int)) = true := decide_eq_true c8
   clear c8
   by_cases c9 : 0 ≤ x7_2
   case neg =>
    rw [if_neg c9] at H
    exact absurd H (by simp)
   rw [if_pos c9] at H
   have c9b0 : decide (0 ≤ x7_2) = true := decide_eq_true c9
   clear c9
   replace H := Option.bind_eq_some_iff.mp H
   obtain ⟨t1015, A100, H⟩ := H
   replace H : ((spec_l15Level.f k2 l0 ((rd_T31 l0 x7_2).f1) ((rd_T31 l0 x7_2).f3) x5_1).bind fun t1016 => (if x6_2 = true then (spec_ChangeHours.l1 k2 l0 x4_1 x5_1 true (wrap64 (x7_2 + 1))) else (spec_ChangeHours.l1 k2 l0 x4_1 x5_1 (t1015 != t1016) (wrap64 (x7_2 + 1))))) = some (r1, r2) := H
   have A10 := Aside0.mk A100
   clear A100
   replace H := Option.bind_eq_some_iff.mp H
   obtain ⟨t1016, A110, H⟩ := H
   replace H : (if x6_2 = true then (spec_ChangeHours.l1 k2 l0 x4_1 x5_1 true (wrap64 (x7_2 + 1))) else (spec_ChangeHours.l1 k2 l0 x4_1 x5_1 (t1015 != t1016) (wrap64 (x7_2 + 1)))) = some (r1, r2) := H
   have A11 := Aside0.mk A110
   clear A110
   by_cases c12 : x6_2 = true
   case pos =>
    subst c12
    have H1 : (spec_ChangeHours.l1 k2 l0 x4_1 x5_1 true (wrap64 (x7_2 + 1))) = some (r1, r2) := by rw [if_pos rfl] at H; exact H
    clear H
    have H := H1
    clear H1
    have H' := Aside0.mk H
    clear H
    have p1013 : 0 ≤ (x7_2 : Int) := of_decide_eq_true zq5
    have q1013 : x7_2 < (l0.length : Int) := of_decide_eq_true zq5
    obtain ⟨ad1013, e1013, hx1013_0, hx1013_1, hx1013_2, hx1013_3, hx1013_4, hx1013_5⟩ := at_T31 HR0.out x7_2 p1013 q1013
    cases e1013
    replace hx1013_0 := bx HB.out hx1013_0
    replace hx1013_1 := bx HB.out hx1013_1
    replace hx1013_2 := bx HB.out hx1013_2
    replace hx1013_3 := bx HB.out hx1013_3
    replace hx1013_4 := bx HB.out hx1013_4
    replace hx1013_5 := bx HB.out hx1013_5
    replace p1013 := eq_true p1013
    replace q1013 := eq_true q1013
    try go_wp2_with (first | ((with_reducible refine gate_dst (N := 8) rfl ?_); refine box_event ?hg (N := 8) ?hd (cs := #[.int .i64 0, .int .i64 0, .int .i64 0, .int .i64 0, .int .i64 0, .int .i64 0]) (t := 31) ?hr ?_; (case hd => rfl); (case hg => rfl); (case hr => exact zqS); intro gb1014 hg w13 hbox hb; have n0_ := Aside0.mk (Kd.R_below (zqR HO_4.out) hb); have n1_ := Aside0.mk (below_step zq0 hb); have n2_ := Aside0.mk (hbox); have n3_ := Aside0.mk ((by rw [hg]; exact (below_size zq0) : w.heap.size ≤ gb1014)); have n4_ := n3_; clear HO_4; clear HB; have HO_4 := n0_; have HB := n1_; have BK1014 := n2_; have GW1014 := n3_; have GE1014 := n4_; clear n0_ n1_ n2_ n3_ n4_; clear hb hbox hg; obtain ⟨hcz14_0, hcz14_1, hcz14_2, hcz14_3, hcz14_4, hcz14_5, hfz14_0, hfz14_1, hfz14_2, hfz14_3, hfz14_4, hfz14_5⟩ := bz6 BK1014.out))
    have n0_ : Aside0 (Kd.R (Kd.int .i64) 3 ((((((w13.setCell ⟨gb1014, 0, none⟩ (.int .i64 ((rd_T31 l0 x7_2).f0))).setCell ⟨gb1014, 1, none⟩ (.int .i64 ((rd_T31 l0 x7_2).f1))).setCell ⟨gb1014, 2, none⟩ (.int .i64 ((rd_T31 l0 x7_2).f2))).setCell ⟨gb1014, 3, none⟩ (.int .i64 ((rd_T31 l0 x7_2).f3))).setCell ⟨gb1014, 4, none⟩ (.int .i64 ((rd_T31 l0 x7_2).f4))).setCell ⟨gb1014, 5, none⟩ (.int .i64 ((rd_T31 l0 x7_2).f5))) w.heap.size (fun _ => True) u4 x4_1) := ⟨by (with_reducible repeat (first | apply Kd.R_alloc | apply Kd.R_drewN | apply Kd.R_drew)); exact Kd.R_mono (Kd.R_far (p := ⟨gb1014, 5, none⟩) (Kd.R_far (p := ⟨gb1014, 4, none⟩) (Kd.R_far (p := ⟨gb1014, 3, none⟩) (Kd.R_far (p := ⟨gb1014, 2, none⟩) (Kd.R_far (p := ⟨gb1014, 1, none⟩) (Kd.R_far (p := ⟨gb1014, 0, none⟩) (Kd.R_types HO_4.out BK1014.out (by decide)) (fun _ hk => hk.2) (.int .i64 ((rd_T31 l0 x7_2).f0))) (fun _ hk => hk.2) (.int .i64 ((rd_T31 l0 x7_2).f1))) (fun _ hk => hk.2) (.int .i64 ((rd_T31 l0 x7_2).f2))) (fun _ hk => hk.2) (.int .i64 ((rd_T31 l0 x7_2).f3))) (fun _ hk => hk.2) (.int .i64 ((rd_T31 l0 x7_2).f4))) (fun _ hk => hk.2) (.int .i64 ((rd_T31 l0 x7_2).f5))) (fun _ hk => trivial)⟩
    have n1_ : Aside0 (((((((w13.setCell ⟨gb1014, 0, none⟩ (.int .i64 ((rd_T31 l0 x7_2).f0))).setCell ⟨gb1014, 1, none⟩ (.int .i64 ((rd_T31 l0 x7_2).f1))).setCell ⟨gb1014, 2, none⟩ (.int .i64 ((rd_T31 l0 x7_2).f2))).setCell ⟨gb1014, 3, none⟩ (.int .i64 ((rd_T31 l0 x7_2).f3))).setCell ⟨gb1014, 4, none⟩ (.int .i64 ((rd_T31 l0 x7_2).f4))).setCell ⟨gb1014, 5, none⟩ (.int .i64 ((rd_T31 l0 x7_2).f5))).heap[gb1014]? = some (.cells #[.int .i64 ((rd_T31 l0 x7_2).f0), .int .i64 ((rd_T31 l0 x7_2).f1), .int .i64 ((rd_T31 l0 x7_2).f2), .int .i64 ((rd_T31 l0 x7_2).f3), .int .i64 ((rd_T31 l0 x7_2).f4), .int .i64 ((rd_T31 l0 x7_2).f5)] 31 (0, 0))) := ⟨by (with_reducible repeat (first | refine blk_drewN ?_ _ | refine blk_drew ?_ | refine blk_alloc ?_ _)); refine blk_put (cs := #[.int .i64 ((rd_T31 l0 x7_2).f0), .int .i64 ((rd_T31 l0 x7_2).f1), .int .i64 ((rd_T31 l0 x7_2).f2), .int .i64 ((rd_T31 l0 x7_2).f3), .int .i64 ((rd_T31 l0 x7_2).f4), .int .i64 0]) ?_ 5 _ rfl; (with_reducible repeat (first | refine blk_drewN ?_ _ | refine blk_drew ?_ | refine blk_alloc ?_ _)); refine blk_put (cs := #[.int .i64 ((rd_T31 l0 x7_2).f0), .int .i64 ((rd_T31 l0 x7_2).f1), .int .i64 ((rd_T31 l0 x7_2).f2), .int .i64 ((rd_T31 l0 x7_2).f3), .int .i64 0, .int .i64 0]) ?_ 4 _ rfl; (with_reducible repeat (first | refine blk_drewN ?_ _ | refine blk_drew ?_ | refine blk_alloc ?_ _)); refine blk_put (cs := #[.int .i64 ((rd_T31 l0 x7_2).f0), .int .i64 ((rd_T31 l0 x7_2).f1), .int .i64 ((rd_T31 l0 x7_2).f2), .int .i64 0, .int .i64 0, .int .i64 0]) ?_ 3 _ rfl; (with_reducible repeat (first | refine blk_drewN ?_ _ | refine blk_drew ?_ | refine blk_alloc ?_ _)); refine blk_put (cs := #[.int .i64 ((rd_T31 l0 x7_2).f0), .int .i64 ((rd_T31 l0 x7_2).f1), .int .i64 0, .int .i64 0, .int .i64 0, .int .i64 0]) ?_ 2 _ rfl; (with_reducible repeat (first | refine blk_drewN ?_ _ | refine blk_drew ?_ | refine blk_alloc ?_ _)); refine blk_put (cs := #[.int .i64 ((rd_T31 l0 x7_2).f0), .int .i64 0, .int .i64 0, .int .i64 0, .int .i64 0, .int .i64 0]) ?_ 1 _ rfl; (with_reducible repeat (first | refine blk_drewN ?_ _ | refine blk_drew ?_ | refine blk_alloc ?_ _)); refine blk_put (cs := #[.int .i64 0, .int .i64 0, .int .i64 0, .int .i64 0, .int .i64 0, .int .i64 0]) ?_ 0 _ rfl; (with_reducible repeat (first | refine blk_drewN ?_ _ | refine blk_drew ?_ | refine blk_alloc ?_ _)); exact BK1014.out⟩
    have n2_ : Aside0 (Below w.heap.size w ((((((w13.setCell ⟨gb1014, 0, none⟩ (.int .i64 ((rd_T31 l0 x7_2).f0))).setCell ⟨gb1014, 1, none⟩ (.int .i64 ((rd_T31 l0 x7_2).f1))).setCell ⟨gb1014, 2, none⟩ (.int .i64 ((rd_T31 l0 x7_2).f2))).setCell ⟨gb1014, 3, none⟩ (.int .i64 ((rd_T31 l0 x7_2).f3))).setCell ⟨gb1014, 4, none⟩ (.int .i64 ((rd_T31 l0 x7_2).f4))).setCell ⟨gb1014, 5, none⟩ (.int .i64 ((rd_T31 l0 x7_2).f5)))) := ⟨zq26⟩
    (try clear HO_4)
    (try clear BK1014)
    (try clear HB)
    generalize ((((((w13.setCell ⟨gb1014, 0, none⟩ (.int .i64 ((rd_T31 l0 x7_2).f0))).setCell ⟨gb1014, 1, none⟩ (.int .i64 ((rd_T31 l0 x7_2).f1))).setCell ⟨gb1014, 2, none⟩ (.int .i64 ((rd_T31 l0 x7_2).f2))).setCell ⟨gb1014, 3, none⟩ (.int .i64 ((rd_T31 l0 x7_2).f3))).setCell ⟨gb1014, 4, none⟩ (.int .i64 ((rd_T31 l0 x7_2).f4))).setCell ⟨gb1014, 5, none⟩ (.int .i64 ((rd_T31 l0 x7_2).f5))) = w15 at n0_ n1_ n2_ ⊢
    have HO_4 := n0_
    have BK1014 := n1_
    have HB := n2_
    clear n0_ n1_ n2_
    have n0_ := Aside0.mk (Kd.R_drew HO_4.out)
    have n1_ := Aside0.mk (blk_drew BK1014.out)
    have n2_ := Aside0.mk (below_drew1 HB.out)
    clear HO_4
    clear BK1014
    clear HB
    have HO_4 := n0_
    have BK1014 := n1_
    have HB := n2_
    clear n0_ n1_ n2_
    refine start_ (n := 17) (S := fun w' => w'.cell? ⟨gb1014, 0, none⟩ = some (.int .i64 ((rd_T31 l0 x7_2).f0)) ∧ w'.cell? ⟨gb1014, 1, none⟩ = some (.int .i64 ((rd_T31 l0 x7_2).f1)) ∧ w'.cell? ⟨gb1014, 2, none⟩ = some (.int .i64 ((rd_T31 l0 x7_2).f2)) ∧ w'.cell? ⟨gb1014, 3, none⟩ = some (.int .i64 ((rd_T31 l0 x7_2).f3)) ∧ w'.cell? ⟨gb1014, 4, none⟩ = some (.int .i64 ((rd_T31 l0 x7_2).f4)) ∧ w'.cell? ⟨gb1014, 5, none⟩ = some (.int .i64 ((rd_T31 l0 x7_2).f5))) (ds := []) #[false, false, false, false, false, false, false, false, false, false, false, false, false, false, false, false, false] (by kernel_rfl) rfl rfl (bc6 BK1014.out) (fun hHeld => ?_); refine with_tabW spec_ChangeHours.tab12 spec_ChangeHours.bits12 (fun HT_ HW_ => ?_)
    generalize w15.drew = w16 at HO_4 BK1014 HB hHeld ⊢
    refine pure_ (i := 0) (N := some 30) (v := ?_) (a' := ?_) #[true, false, false, false, false, false, false, false, false, false, false, false, false, false, false, false, false] rfl rfl (any_of HT_.out (by kernel_rfl)) (fun _ _ _ h => h) (Or.inl ⟨by rfl, ?_⟩) ?_ ?_
    rotate_left; · exact zqB
    rotate_left; · exact zqA
    refine pure_ (i := 1) (N := some 31) (v := ?_) (a' := ?_) #[true, true, false, false, false, false, false, false, false, false, false, false, false, false, false, false, false] rfl rfl (any_of HT_.out (by kernel_rfl)) (fun _ _ _ h => h) (Or.inl ⟨by rfl, ?_⟩) ?_ ?_
    rotate_left; · exact zqB
    rotate_left; · exact zqA
    refine pure_ (i := 3) (N := some 33) (v := ?_) (a' := ?_) #[true, true, false, true, false, false, false, false, false, false, false, false, false, false, false, false, false] rfl rfl (any_of HT_.out (by kernel_rfl)) (fun _ _ _ h => h) (Or.inl ⟨by rfl, ?_⟩) ?_ ?_
    rotate_left; · exact zqB
    rotate_left; · exact zqA
    refine pure_ (i := 5) (N := some 35) (v := ?_) (a' := ?_) #[true, true, false, true, false, true, false, false, false, false, false, false, false, false, false, false, false] rfl rfl (any_of HT_.out (by kernel_rfl)) (fun _ _ _ h => h) (Or.inl ⟨by rfl, ?_⟩) ?_ ?_
    rotate_left; · exact zqB
    rotate_left; · exact zqA
    refine pure_ (i := 6) (N := some 36) (v := ?_) (a' := ?_) #[true, true, false, true, false, true, true, false, false, false, false, false, false, false, false, false, false] rfl rfl (any_of HT_.out (by kernel_rfl)) (fun _ _ _ h => h) (Or.inl ⟨by rfl, ?_⟩) ?_ ?_
    rotate_left; · exact zqB
    rotate_left; · exact zqA
    refine pure_ (i := 8) (N := some 38) (v := ?_) (a' := ?_) #[true, true, false, true, false, true, true, false, true, false, false, false, false, false, false, false, false] rfl rfl (any_of HT_.out (by kernel_rfl)) (fun _ _ _ h => h) (Or.inl ⟨by rfl, ?_⟩) ?_ ?_
    rotate_left; · exact zqB
    rotate_left; · exact zqA
    refine pure_ (i := 9) (N := some 39) (v := ?_) (a' := ?_) #[true, true, false, true, false, true, true, false, true, true, false, false, false, false, false, false, false] rfl rfl (any_of HT_.out (by kernel_rfl)) (fun _ _ _ h => h) (Or.inl ⟨by rfl, ?_⟩) ?_ ?_
    rotate_left; · exact zqB
    rotate_left; · exact zqA
    refine pure_ (i := 11) (N := some 41) (v := ?_) (a' := ?_) #[true, true, false, true, false, true, true, false, true, true, false, true, false, false, false, false, false] rfl rfl (any_of HT_.out (by kernel_rfl)) (fun _ _ _ h => h) (Or.inl ⟨by rfl, ?_⟩) ?_ ?_
    rotate_left; · exact zqB
    rotate_left; · exact zqA
    refine pure_ (i := 13) (N := some 43) (v := ?_) (a' := ?_) #[true, true, false, true, false, true, true, false, true, true, false, true, false, true, false, false, false] rfl rfl (any_of HT_.out (by kernel_rfl)) (fun _ _ _ h => h) (Or.inl ⟨by rfl, ?_⟩) ?_ ?_
    rotate_left; · exact zqB
    rotate_left; · exact zqA
    refine take_ (i := 2) (N := some 32) (v := ?_) (a' := ?_) #[true, true, true, true, false, true, true, false, true, true, false, true, false, true, false, false, false] rfl rfl (take_ofW HT_.out HW_.out (by kernel_rfl)) (fun _ _ _ h => h) (Or.inl ⟨by rfl, ?_⟩) hHeld ?_ ?_
    rotate_left
    ·
     rintro w' ⟨s0, s1, s2, s3, s4, s5⟩
     go_simp
     with_reducible rfl
    rotate_left; · exact zqA
    refine take_ (i := 4) (N := some 34) (v := ?_) (a' := ?_) #[true, true, true, true, true, true, true, false, true, true, false, true, false, true, false, false, false] rfl rfl (take_ofW HT_.out HW_.out (by kernel_rfl)) (fun _ _ _ h => h) (Or.inl ⟨by rfl, ?_⟩) hHeld ?_ ?_
    rotate_left
    ·
     rintro w' ⟨s0, s1, s2, s3, s4, s5⟩
     go_simp
     with_reducible rfl
    rotate_left; · exact zqA
    refine take_ (i := 10) (N := some 40) (v := ?_) (a' := ?_) #[true, true, true, true, true, true, true, false, true, true, true, true, false, true, false, false, false] rfl rfl (take_ofW HT_.out HW_.out (by kernel_rfl)) (fun _ _ _ h => h) (Or.inl ⟨by rfl, ?_⟩) hHeld ?_ ?_
    rotate_left
    ·
     rintro w' ⟨s0, s1, s2, s3, s4, s5⟩
     go_simp
     with_reducible rfl
    rotate_left; · exact zqA
    refine take_ (i := 12) (N := some 42) (v := ?_) (a' := ?_) #[true, true, true, true, true, true, true, false, true, true, true, true, true, true, false, false, false] rfl rfl (take_ofW HT_.out HW_.out (by kernel_rfl)) (fun _ _ _ h => h) (Or.inl ⟨by rfl, ?_⟩) hHeld ?_ ?_
    rotate_left
    ·
     rintro w' ⟨s0, s1, s2, s3, s4, s5⟩
     go_simp
     with_reducible rfl
    rotate_left; · exact zqA
    refine one_ (i := 7) (N := some 37) #[true, true, true, true, true, true, true, true, true, true, true, true, true, true, false, false, false] rfl rfl (one_of HT_.out (by kernel_rfl)) (by decide) (fun K hK => ?_)
    refine goes_ Try.func83 (by kernel_rfl) rfl #[.slice (some ad1013) l0.length c0, .int .i64 ((rd_T31 l0 x7_2).f1), .int .i64 ((rd_T31 l0 x7_2).f3), .int .i64 (wrap64 (x5_1 - 1))] (by rfl) rfl rfl zq1 ?_
    with_reducible refine (spec_l15Level.calls k2 _ _ l0 ((rd_T31 l0 x7_2).f1) ((rd_T31 l0 x7_2).f3) (wrap64 (x5_1 - 1)) t1015 _ ?side1 ?side2 A10.out).mono ?_
    (case side1 => exact zqC (Kd.C_below HR0.out HB.out))
    (case side2 => exact HC0.out)
    rintro e w17 ⟨rfl, hb⟩
    refine ⟨_, rfl, ?_⟩
    have n0_ := Aside0.mk (Kd.R_below (zqR HO_4.out) hb)
    have n1_ := Aside0.mk (blk_below (g := gb1014) (o := .cells #[.int .i64 ((rd_T31 l0 x7_2).f0), .int .i64 ((rd_T31 l0 x7_2).f1), .int .i64 ((rd_T31 l0 x7_2).f2), .int .i64 ((rd_T31 l0 x7_2).f3), .int .i64 ((rd_T31 l0 x7_2).f4), .int .i64 ((rd_T31 l0 x7_2).f5)] 31 (0, 0)) (zqK BK1014.out) hb)
    have n2_ := Aside0.mk (below_step zq26 hb)
    clear HO_4
    clear BK1014
    clear HB
    have HO_4 := n0_
    have BK1014 := n1_
    have HB := n2_
    clear n0_ n1_ n2_
    (try clear hb)
    (try clear hb2)
    (try clear hk)
    (try clear hi)
    refine hK.out _ _ (bc6 BK1014.out) (fun hHeld => ?_)
    clear hK K
    refine norm_ (a' := ?_) ?_ ?_
    rotate_left
    ·
     show Act.put _ (some 37) _ = _
     simp only [Act.put, List.setIfInBounds_toArray, List.set_cons_zero, List.set_cons_succ, i64_w, i32_w]
     rfl
    refine one_ (i := 14) (N := some 44) #[true, true, true, true, true, true, true, true, true, true, true, true, true, true, true, false, false] rfl rfl (one_of HT_.out (by kernel_rfl)) (by decide) (fun K hK => ?_)
    refine goes_ Try.func83 (by kernel_rfl) rfl #[.slice (some ad1013) l0.length c0, .int .i64 ((rd_T31 l0 x7_2).f1), .int .i64 ((rd_T31 l0 x7_2).f3), .int .i64 x5_1] (by rfl) rfl rfl zq1 ?_
    with_reducible refine (spec_l15Level.calls k2 _ _ l0 ((rd_T31 l0 x7_2).f1) ((rd_T31 l0 x7_2).f3) x5_1 t1016 _ ?side1 ?side2 A11.out).mono ?_
    (case side1 => exact zqC (Kd.C_below HR0.out HB.out))
    (case side2 => exact HC0.out)
    rintro e w18 ⟨rfl, hb⟩
    refine ⟨_, rfl, ?_⟩
    have n0_ := Aside0.mk (Kd.R_below (zqR HO_4.out) hb)
    have n1_ := Aside0.mk (blk_below (g := gb1014) (o := .cells #[.int .i64 ((rd_T31 l0 x7_2).f0), .int .i64 ((rd_T31 l0 x7_2).f1), .int .i64 ((rd_T31 l0 x7_2).f2), .int .i64 ((rd_T31 l0 x7_2).f3), .int .i64 ((rd_T31 l0 x7_2).f4), .int .i64 ((rd_T31 l0 x7_2).f5)] 31 (0, 0)) (zqK BK1014.out) hb)
    have n2_ := Aside0.mk (below_step zq26 hb)
    clear HO_4
    clear BK1014
    clear HB
    have HO_4 := n0_
    have BK1014 := n1_
    have HB := n2_
    clear n0_ n1_ n2_
    (try clear hb)
    (try clear hb2)
    (try clear hk)
    (try clear hi)
    refine hK.out _ _ (bc6 BK1014.out) (fun hHeld => ?_)
    clear hK K
    refine norm_ (a' := ?_) ?_ ?_
    rotate_left
    ·
     show Act.put _ (some 44) _ = _
     simp only [Act.put, List.setIfInBounds_toArray, List.set_cons_zero, List.set_cons_succ, i64_w, i32_w]
     rfl
    refine pure_ (i := 15) (N := some 9) (v := ?_) (a' := ?_) #[true, true, true, true, true, true, true, true, true, true, true, true, true, true, true, true, false] rfl rfl (any_of HT_.out (by kernel_rfl)) (fun _ _ _ h => h) (Or.inl ⟨by rfl, ?_⟩) ?_ ?_
    rotate_left; · exact zqB
    rotate_left; · exact zqA
    refine pure_ (i := 16) (N := some 10) (v := ?_) (a' := ?_) #[true, true, true, true, true, true, true, true, true, true, true, true, true, true, true, true, true] rfl rfl (any_of HT_.out (by kernel_rfl)) (fun _ _ _ h => h) (Or.inl ⟨by rfl, ?_⟩) ?_ ?_
    rotate_left; · exact zqB
    rotate_left; · exact zqA
    refine done_ (done_of HT_.out (by kernel_rfl)) ?_
    try go_wp2
    go_roundg k2
    case measure => have := HK1.out; have := HK2.out; omega
    case rel => exact ⟨(true), (wrap64 (x7_2 + 1)), (by first | rfl | (simp; done) | (simp [*]; done)), (by first | rfl | (simp; done) | (simp [*]; done)), H', ⟨by have := HK1.out; have := HK2.out; omega⟩, ⟨zqR HO_4.out⟩, ⟨zq26⟩⟩
   replace c12 := Bool.eq_false_iff.mpr c12
   subst c12
   have H1 : (spec_ChangeHours.l1 k2 l0 x4_1 x5_1 (t1015 != t1016) (wrap64 (x7_2 + 1))) = some (r1, r2) := by rw [if_neg (show ¬ (false = true) by decide)] at H; exact H
   clear H
   have H := H1
   clear H1
   have H' := Aside0.mk H
   clear H
   have p1013 : 0 ≤ (x7_2 : Int) := of_decide_eq_true zq5
   have q1013 : x7_2 < (l0.length : Int) := of_decide_eq_true zq5
   obtain ⟨ad1013, e1013, hx1013_0, hx1013_1, hx1013_2, hx1013_3, hx1013_4, hx1013_5⟩ := at_T31 HR0.out x7_2 p1013 q1013
   cases e1013
   replace hx1013_0 := bx HB.out hx1013_0
   replace hx1013_1 := bx HB.out hx1013_1
   replace hx1013_2 := bx HB.out hx1013_2
   replace hx1013_3 := bx HB.out hx1013_3
   replace hx1013_4 := bx HB.out hx1013_4
   replace hx1013_5 := bx HB.out hx1013_5
   replace p1013 := eq_true p1013
   replace q1013 := eq_true q1013
   try go_wp2_with (first | ((with_reducible refine gate_dst (N := 8) rfl ?_); refine box_event ?hg (N := 8) ?hd (cs := #[.int .i64 0, .int .i64 0, .int .i64 0, .int .i64 0, .int .i64 0, .int .i64 0]) (t := 31) ?hr ?_; (case hd => rfl); (case hg => rfl); (case hr => exact zqS); intro gb1014 hg w19 hbox hb; have n0_ := Aside0.mk (Kd.R_below (zqR HO_4.out) hb); have n1_ := Aside0.mk (below_step zq0 hb); have n2_ := Aside0.mk (hbox); have n3_ := Aside0.mk ((by rw [hg]; exact (below_size zq0) : w.heap.size ≤ gb1014)); have n4_ := n3_; clear HO_4; clear HB; have HO_4 := n0_; have HB := n1_; have BK1014 := n2_; have GW1014 := n3_; have GE1014 := n4_; clear n0_ n1_ n2_ n3_ n4_; clear hb hbox hg; obtain ⟨hcz20_0, hcz20_1, hcz20_2, hcz20_3, hcz20_4, hcz20_5, hfz20_0, hfz20_1, hfz20_2, hfz20_3, hfz20_4, hfz20_5⟩ := bz6 BK1014.out))
   have n0_ : Aside0 (Kd.R (Kd.int .i64) 3 ((((((w19.setCell ⟨gb1014, 0, none⟩ (.int .i64 ((rd_T31 l0 x7_2).f0))).setCell ⟨gb1014, 1, none⟩ (.int .i64 ((rd_T31 l0 x7_2).f1))).setCell ⟨gb1014, 2, none⟩ (.int .i64 ((rd_T31 l0 x7_2).f2))).setCell ⟨gb1014, 3, none⟩ (.int .i64 ((rd_T31 l0 x7_2).f3))).setCell ⟨gb1014, 4, none⟩ (.int .i64 ((rd_T31 l0 x7_2).f4))).setCell ⟨gb1014, 5, none⟩ (.int .i64 ((rd_T31 l0 x7_2).f5))) w.heap.size (fun _ => True) u4 x4_1) := ⟨by (with_reducible repeat (first | apply Kd.R_alloc | apply Kd.R_drewN | apply Kd.R_drew)); exact Kd.R_mono (Kd.R_far (p := ⟨gb1014, 5, none⟩) (Kd.R_far (p := ⟨gb1014, 4, none⟩) (Kd.R_far (p := ⟨gb1014, 3, none⟩) (Kd.R_far (p := ⟨gb1014, 2, none⟩) (Kd.R_far (p := ⟨gb1014, 1, none⟩) (Kd.R_far (p := ⟨gb1014, 0, none⟩) (Kd.R_types HO_4.out BK1014.out (by decide)) (fun _ hk => hk.2) (.int .i64 ((rd_T31 l0 x7_2).f0))) (fun _ hk => hk.2) (.int .i64 ((rd_T31 l0 x7_2).f1))) (fun _ hk => hk.2) (.int .i64 ((rd_T31 l0 x7_2).f2))) (fun _ hk => hk.2) (.int .i64 ((rd_T31 l0 x7_2).f3))) (fun _ hk => hk.2) (.int .i64 ((rd_T31 l0 x7_2).f4))) (fun _ hk => hk.2) (.int .i64 ((rd_T31 l0 x7_2).f5))) (fun _ hk => trivial)⟩
   have n1_ : Aside0 (((((((w19.setCell ⟨gb1014, 0, none⟩ (.int .i64 ((rd_T31 l0 x7_2).f0))).setCell ⟨gb1014, 1, none⟩ (.int .i64 ((rd_T31 l0 x7_2).f1))).setCell ⟨gb1014, 2, none⟩ (.int .i64 ((rd_T31 l0 x7_2).f2))).setCell ⟨gb1014, 3, none⟩ (.int .i64 ((rd_T31 l0 x7_2).f3))).setCell ⟨gb1014, 4, none⟩ (.int .i64 ((rd_T31 l0 x7_2).f4))).setCell ⟨gb1014, 5, none⟩ (.int .i64 ((rd_T31 l0 x7_2).f5))).heap[gb1014]? = some (.cells #[.int .i64 ((rd_T31 l0 x7_2).f0), .int .i64 ((rd_T31 l0 x7_2).f1), .int .i64 ((rd_T31 l0 x7_2).f2), .int .i64 ((rd_T31 l0 x7_2).f3), .int .i64 ((rd_T31 l0 x7_2).f4), .int .i64 ((rd_T31 l0 x7_2).f5)] 31 (0, 0))) := ⟨by (with_reducible repeat (first | refine blk_drewN ?_ _ | refine blk_drew ?_ | refine blk_alloc ?_ _)); refine blk_put (cs := #[.int .i64 ((rd_T31 l0 x7_2).f0), .int .i64 ((rd_T31 l0 x7_2).f1), .int .i64 ((rd_T31 l0 x7_2).f2), .int .i64 ((rd_T31 l0 x7_2).f3), .int .i64 ((rd_T31 l0 x7_2).f4), .int .i64 0]) ?_ 5 _ rfl; (with_reducible repeat (first | refine blk_drewN ?_ _ | refine blk_drew ?_ | refine blk_alloc ?_ _)); refine blk_put (cs := #[.int .i64 ((rd_T31 l0 x7_2).f0), .int .i64 ((rd_T31 l0 x7_2).f1), .int .i64 ((rd_T31 l0 x7_2).f2), .int .i64 ((rd_T31 l0 x7_2).f3), .int .i64 0, .int .i64 0]) ?_ 4 _ rfl; (with_reducible repeat (first | refine blk_drewN ?_ _ | refine blk_drew ?_ | refine blk_alloc ?_ _)); refine blk_put (cs := #[.int .i64 ((rd_T31 l0 x7_2).f0), .int .i64 ((rd_T31 l0 x7_2).f1), .int .i64 ((rd_T31 l0 x7_2).f2), .int .i64 0, .int .i64 0, .int .i64 0]) ?_ 3 _ rfl; (with_reducible repeat (first | refine blk_drewN ?_ _ | refine blk_drew ?_ | refine blk_alloc ?_ _)); refine blk_put (cs := #[.int .i64 ((rd_T31 l0 x7_2).f0), .int .i64 ((rd_T31 l0 x7_2).f1), .int .i64 0, .int .i64 0, .int .i64 0, .int .i64 0]) ?_ 2 _ rfl; (with_reducible repeat (first | refine blk_drewN ?_ _ | refine blk_drew ?_ | refine blk_alloc ?_ _)); refine blk_put (cs := #[.int .i64 ((rd_T31 l0 x7_2).f0), .int .i64 0, .int .i64 0, .int .i64 0, .int .i64 0, .int .i64 0]) ?_ 1 _ rfl; (with_reducible repeat (first | refine blk_drewN ?_ _ | refine blk_drew ?_ | refine blk_alloc ?_ _)); refine blk_put (cs := #[.int .i64 0, .int .i64 0, .int .i64 0, .int .i64 0, .int .i64 0, .int .i64 0]) ?_ 0 _ rfl; (with_reducible repeat (first | refine blk_drewN ?_ _ | refine blk_drew ?_ | refine blk_alloc ?_ _)); exact BK1014.out⟩
   have n2_ : Aside0 (Below w.heap.size w ((((((w19.setCell ⟨gb1014, 0, none⟩ (.int .i64 ((rd_T31 l0 x7_2).f0))).setCell ⟨gb1014, 1, none⟩ (.int .i64 ((rd_T31 l0 x7_2).f1))).setCell ⟨gb1014, 2, none⟩ (.int .i64 ((rd_T31 l0 x7_2).f2))).setCell ⟨gb1014, 3, none⟩ (.int .i64 ((rd_T31 l0 x7_2).f3))).setCell ⟨gb1014, 4, none⟩ (.int .i64 ((rd_T31 l0 x7_2).f4))).setCell ⟨gb1014, 5, none⟩ (.int .i64 ((rd_T31 l0 x7_2).f5)))) := ⟨zq26⟩
   (try clear HO_4)
   (try clear BK1014)
   (try clear HB)
   generalize ((((((w19.setCell ⟨gb1014, 0, none⟩ (.int .i64 ((rd_T31 l0 x7_2).f0))).setCell ⟨gb1014, 1, none⟩ (.int .i64 ((rd_T31 l0 x7_2).f1))).setCell ⟨gb1014, 2, none⟩ (.int .i64 ((rd_T31 l0 x7_2).f2))).setCell ⟨gb1014, 3, none⟩ (.int .i64 ((rd_T31 l0 x7_2).f3))).setCell ⟨gb1014, 4, none⟩ (.int .i64 ((rd_T31 l0 x7_2).f4))).setCell ⟨gb1014, 5, none⟩ (.int .i64 ((rd_T31 l0 x7_2).f5))) = w21 at n0_ n1_ n2_ ⊢
   have HO_4 := n0_
   have BK1014 := n1_
   have HB := n2_
   clear n0_ n1_ n2_
   have n0_ := Aside0.mk (Kd.R_drew HO_4.out)
   have n1_ := Aside0.mk (blk_drew BK1014.out)
   have n2_ := Aside0.mk (below_drew1 HB.out)
   clear HO_4
   clear BK1014
   clear HB
   have HO_4 := n0_
   have BK1014 := n1_
   have HB := n2_
   clear n0_ n1_ n2_
   refine start_ (n := 17) (S := fun w' => w'.cell? ⟨gb1014, 0, none⟩ = some (.int .i64 ((rd_T31 l0 x7_2).f0)) ∧ w'.cell? ⟨gb1014, 1, none⟩ = some (.int .i64 ((rd_T31 l0 x7_2).f1)) ∧ w'.cell? ⟨gb1014, 2, none⟩ = some (.int .i64 ((rd_T31 l0 x7_2).f2)) ∧ w'.cell? ⟨gb1014, 3, none⟩ = some (.int .i64 ((rd_T31 l0 x7_2).f3)) ∧ w'.cell? ⟨gb1014, 4, none⟩ = some (.int .i64 ((rd_T31 l0 x7_2).f4)) ∧ w'.cell? ⟨gb1014, 5, none⟩ = some (.int .i64 ((rd_T31 l0 x7_2).f5))) (ds := []) #[false, false, false, false, false, false, false, false, false, false, false, false, false, false, false, false, false] (by kernel_rfl) rfl rfl (bc6 BK1014.out) (fun hHeld => ?_); refine with_tabW spec_ChangeHours.tab12 spec_ChangeHours.bits12 (fun HT_ HW_ => ?_)
   generalize w21.drew = w22 at HO_4 BK1014 HB hHeld ⊢
   refine pure_ (i := 0) (N := some 30) (v := ?_) (a' := ?_) #[true, false, false, false, false, false, false, false, false, false, false, false, false, false, false, false, false] rfl rfl (any_of HT_.out (by kernel_rfl)) (fun _ _ _ h => h) (Or.inl ⟨by rfl, ?_⟩) ?_ ?_
   rotate_left; · exact zqB
   rotate_left; · exact zqA
   refine pure_ (i := 1) (N := some 31) (v := ?_) (a' := ?_) #[true, true, false, false, false, false, false, false, false, false, false, false, false, false, false, false, false] rfl rfl (any_of HT_.out (by kernel_rfl)) (fun _ _ _ h => h) (Or.inl ⟨by rfl, ?_⟩) ?_ ?_
   rotate_left; · exact zqB
   rotate_left; · exact zqA
   refine pure_ (i := 3) (N := some 33) (v := ?_) (a' := ?_) #[true, true, false, true, false, false, false, false, false, false, false, false, false, false, false, false, false] rfl rfl (any_of HT_.out (by kernel_rfl)) (fun _ _ _ h => h) (Or.inl ⟨by rfl, ?_⟩) ?_ ?_
   rotate_left; · exact zqB
   rotate_left; · exact zqA
   refine pure_ (i := 5) (N := some 35) (v := ?_) (a' := ?_) #[true, true, false, true, false, true, false, false, false, false, false, false, false, false, false, false, false] rfl rfl (any_of HT_.out (by kernel_rfl)) (fun _ _ _ h => h) (Or.inl ⟨by rfl, ?_⟩) ?_ ?_
   rotate_left; · exact zqB
   rotate_left; · exact zqA
   refine pure_ (i := 6) (N := some 36) (v := ?_) (a' := ?_) #[true, true, false, true, false, true, true, false, false, false, false, false, false, false, false, false, false] rfl rfl (any_of HT_.out (by kernel_rfl)) (fun _ _ _ h => h) (Or.inl ⟨by rfl, ?_⟩) ?_ ?_
   rotate_left; · exact zqB
   rotate_left; · exact zqA
   refine pure_ (i := 8) (N := some 38) (v := ?_) (a' := ?_) #[true, true, false, true, false, true, true, false, true, false, false, false, false, false, false, false, false] rfl rfl (any_of HT_.out (by kernel_rfl)) (fun _ _ _ h => h) (Or.inl ⟨by rfl, ?_⟩) ?_ ?_
   rotate_left; · exact zqB
   rotate_left; · exact zqA
   refine pure_ (i := 9) (N := some 39) (v := ?_) (a' := ?_) #[true, true, false, true, false, true, true, false, true, true, false, false, false, false, false, false, false] rfl rfl (any_of HT_.out (by kernel_rfl)) (fun _ _ _ h => h) (Or.inl ⟨by rfl, ?_⟩) ?_ ?_
   rotate_left; · exact zqB
   rotate_left; · exact zqA
   refine pure_ (i := 11) (N := some 41) (v := ?_) (a' := ?_) #[true, true, false, true, false, true, true, false, true, true, false, true, false, false, false, false, false] rfl rfl (any_of HT_.out (by kernel_rfl)) (fun _ _ _ h => h) (Or.inl ⟨by rfl, ?_⟩) ?_ ?_
   rotate_left; · exact zqB
   rotate_left; · exact zqA
   refine pure_ (i := 13) (N := some 43) (v := ?_) (a' := ?_) #[true, true, false, true, false, true, true, false, true, true, false, true, false, true, false, false, false] rfl rfl (any_of HT_.out (by kernel_rfl)) (fun _ _ _ h => h) (Or.inl ⟨by rfl, ?_⟩) ?_ ?_
   rotate_left; · exact zqB
   rotate_left; · exact zqA
   refine take_ (i := 2) (N := some 32) (v := ?_) (a' := ?_) #[true, true, true, true, false, true, true, false, true, true, false, true, false, true, false, false, false] rfl rfl (take_ofW HT_.out HW_.out (by kernel_rfl)) (fun _ _ _ h => h) (Or.inl ⟨by rfl, ?_⟩) hHeld ?_ ?_
   rotate_left
   ·
    rintro w' ⟨s0, s1, s2, s3, s4, s5⟩
    go_simp
    with_reducible rfl
   rotate_left; · exact zqA
   refine take_ (i := 4) (N := some 34) (v := ?_) (a' := ?_) #[true, true, true, true, true, true, true, false, true, true, false, true, false, true, false, false, false] rfl rfl (take_ofW HT_.out HW_.out (by kernel_rfl)) (fun _ _ _ h => h) (Or.inl ⟨by rfl, ?_⟩) hHeld ?_ ?_
   rotate_left
   ·
    rintro w' ⟨s0, s1, s2, s3, s4, s5⟩
    go_simp
    with_reducible rfl
   rotate_left; · exact zqA
   refine take_ (i := 10) (N := some 40) (v := ?_) (a' := ?_) #[true, true, true, true, true, true, true, false, true, true, true, true, false, true, false, false, false] rfl rfl (take_ofW HT_.out HW_.out (by kernel_rfl)) (fun _ _ _ h => h) (Or.inl ⟨by rfl, ?_⟩) hHeld ?_ ?_
   rotate_left
   ·
    rintro w' ⟨s0, s1, s2, s3, s4, s5⟩
    go_simp
    with_reducible rfl
   rotate_left; · exact zqA
   refine take_ (i := 12) (N := some 42) (v := ?_) (a' := ?_) #[true, true, true, true, true, true, true, false, true, true, true, true, true, true, false, false, false] rfl rfl (take_ofW HT_.out HW_.out (by kernel_rfl)) (fun _ _ _ h => h) (Or.inl ⟨by rfl, ?_⟩) hHeld ?_ ?_
   rotate_left
   ·
    rintro w' ⟨s0, s1, s2, s3, s4, s5⟩
    go_simp
    with_reducible rfl
   rotate_left; · exact zqA
   refine one_ (i := 7) (N := some 37) #[true, true, true, true, true, true, true, true, true, true, true, true, true, true, false, false, false] rfl rfl (one_of HT_.out (by kernel_rfl)) (by decide) (fun K hK => ?_)
   refine goes_ Try.func83 (by kernel_rfl) rfl #[.slice (some ad1013) l0.length c0, .int .i64 ((rd_T31 l0 x7_2).f1), .int .i64 ((rd_T31 l0 x7_2).f3), .int .i64 (wrap64 (x5_1 - 1))] (by rfl) rfl rfl zq1 ?_
   with_reducible refine (spec_l15Level.calls k2 _ _ l0 ((rd_T31 l0 x7_2).f1) ((rd_T31 l0 x7_2).f3) (wrap64 (x5_1 - 1)) t1015 _ ?side1 ?side2 A10.out).mono ?_
   (case side1 => exact zqC (Kd.C_below HR0.out HB.out))
   (case side2 => exact HC0.out)
   rintro e w23 ⟨rfl, hb⟩
   refine ⟨_, rfl, ?_⟩
   have n0_ := Aside0.mk (Kd.R_below (zqR HO_4.out) hb)
   have n1_ := Aside0.mk (blk_below (g := gb1014) (o := .cells #[.int .i64 ((rd_T31 l0 x7_2).f0), .int .i64 ((rd_T31 l0 x7_2).f1), .int .i64 ((rd_T31 l0 x7_2).f2), .int .i64 ((rd_T31 l0 x7_2).f3), .int .i64 ((rd_T31 l0 x7_2).f4), .int .i64 ((rd_T31 l0 x7_2).f5)] 31 (0, 0)) (zqK BK1014.out) hb)
   have n2_ := Aside0.mk (below_step zq26 hb)
   clear HO_4
   clear BK1014
   clear HB
   have HO_4 := n0_
   have BK1014 := n1_
   have HB := n2_
   clear n0_ n1_ n2_
   (try clear hb)
   (try clear hb2)
   (try clear hk)
   (try clear hi)
   refine hK.out _ _ (bc6 BK1014.out) (fun hHeld => ?_)
   clear hK K
   refine norm_ (a' := ?_) ?_ ?_
   rotate_left
   ·
    show Act.put _ (some 37) _ = _
    simp only [Act.put, List.setIfInBounds_toArray, List.set_cons_zero, List.set_cons_succ, i64_w, i32_w]
    rfl
   refine one_ (i := 14) (N := some 44) #[true, true, true, true, true, true, true, true, true, true, true, true, true, true, true, false, false] rfl rfl (one_of HT_.out (by kernel_rfl)) (by decide) (fun K hK => ?_)
   refine goes_ Try.func83 (by kernel_rfl) rfl #[.slice (some ad1013) l0.length c0, .int .i64 ((rd_T31 l0 x7_2).f1), .int .i64 ((rd_T31 l0 x7_2).f3), .int .i64 x5_1] (by rfl) rfl rfl zq1 ?_
   with_reducible refine (spec_l15Level.calls k2 _ _ l0 ((rd_T31 l0 x7_2).f1) ((rd_T31 l0 x7_2).f3) x5_1 t1016 _ ?side1 ?side2 A11.out).mono ?_
   (case side1 => exact zqC (Kd.C_below HR0.out HB.out))
   (case side2 => exact HC0.out)
   rintro e w24 ⟨rfl, hb⟩
   refine ⟨_, rfl, ?_⟩
   have n0_ := Aside0.mk (Kd.R_below (zqR HO_4.out) hb)
   have n1_ := Aside0.mk (blk_below (g := gb1014) (o := .cells #[.int .i64 ((rd_T31 l0 x7_2).f0), .int .i64 ((rd_T31 l0 x7_2).f1), .int .i64 ((rd_T31 l0 x7_2).f2), .int .i64 ((rd_T31 l0 x7_2).f3), .int .i64 ((rd_T31 l0 x7_2).f4), .int .i64 ((rd_T31 l0 x7_2).f5)] 31 (0, 0)) (zqK BK1014.out) hb)
   have n2_ := Aside0.mk (below_step zq26 hb)
   clear HO_4
   clear BK1014
   clear HB
   have HO_4 := n0_
   have BK1014 := n1_
   have HB := n2_
   clear n0_ n1_ n2_
   (try clear hb)
   (try clear hb2)
   (try clear hk)
   (try clear hi)
   refine hK.out _ _ (bc6 BK1014.out) (fun hHeld => ?_)
   clear hK K
   refine norm_ (a' := ?_) ?_ ?_
   rotate_left
   ·
    show Act.put _ (some 44) _ = _
    simp only [Act.put, List.setIfInBounds_toArray, List.set_cons_zero, List.set_cons_succ, i64_w, i32_w]
    rfl
   refine pure_ (i := 15) (N := some 9) (v := ?_) (a' := ?_) #[true, true, true, true, true, true, true, true, true, true, true, true, true, true, true, true, false] rfl rfl (any_of HT_.out (by kernel_rfl)) (fun _ _ _ h => h) (Or.inl ⟨by rfl, ?_⟩) ?_ ?_
   rotate_left; · exact zqB
   rotate_left; · exact zqA
   refine pure_ (i := 16) (N := some 10) (v := ?_) (a' := ?_) #[true, true, true, true, true, true, true, true, true, true, true, true, true, true, true, true, true] rfl rfl (any_of HT_.out (by kernel_rfl)) (fun _ _ _ h => h) (Or.inl ⟨by rfl, ?_⟩) ?_ ?_
   rotate_left; · exact zqB
   rotate_left; · exact zqA
   refine done_ (done_of HT_.out (by kernel_rfl)) ?_
   try go_wp2
   go_roundg k2
   case measure => have := HK1.out; have := HK2.out; omega
   case rel => exact ⟨((t1015 != t1016)), (wrap64 (x7_2 + 1)), (by first | rfl | (simp; done) | (simp [*]; done)), (by first | rfl | (simp; done) | (simp [*]; done)), H', ⟨by have := HK1.out; have := HK2.out; omega⟩, ⟨zqR HO_4.out⟩, ⟨zq26⟩⟩

/-! ### spec_l1Cur_hour15: function 86 -/
def spec_l1Cur_hour15.f (s0_0 : List Int) (s0_1 : Int) (s0_2 : Int) : Option (Int × Int × Int) := (spec_l1Cur_one.f s0_0 s0_1 s0_2 16).bind fun bt604 => (if bt604.1 = true then ((spec_l1Cur_among.f s0_0 bt604.2.1 bt604.2.2 (([(-1), 240, 239] : List Int))).bind fun bt610 => (some (bt610.1, bt610.2.1, bt610.2.2))) else ((spec_l1Cur_pick.f s0_0 bt604.2.1 bt604.2.2 45).bind fun bt613 => (some (bt613.1, bt613.2.1, bt613.2.2))))
set_option maxHeartbeats 8000000 in
set_option maxRecDepth 100000 in
theorem spec_l1Cur_hour15.calls (g : Nat) (s0_0 : List Int) (s0_1 : Int) (s0_2 : Int) (r1 : Int) (r2 : Int) (r3 : Int) (w0 w : World) (hI : IsS72 w0 w g s0_0 s0_1 s0_2) (hB : Below w0.heap.size w0 w) (h : spec_l1Cur_hour15.f s0_0 s0_1 s0_2 = some (r1, r2, r3)) :
  Calls Try.prog 86 #[.pointer (some ⟨g, 0, none⟩)] w fun e w' => e = .returned (.int .i64 r1) ∧ IsS72 w0 w' g s0_0 r2 r3 ∧ Below w0.heap.size w0 w' ∧ KeepBut w w' g none := by
 have HI0 := Aside0.mk hI
 have HK := Aside0.mk (KeepBut.refl w g none)
 have HL := Aside0.mk hB.size
 clear hI
 have HW0 := Aside0.mk hB.size
 have HB := Aside0.mk hB
 clear hB
 have H : ((spec_l1Cur_one.f s0_0 s0_1 s0_2 16).bind fun bt604 => (if bt604.1 = true then ((spec_l1Cur_among.f s0_0 bt604.2.1 bt604.2.2 (([(-1), 240, 239] : List Int))).bind fun bt610 => (some (bt610.1, bt610.2.1, bt610.2.2))) else ((spec_l1Cur_pick.f s0_0 bt604.2.1 bt604.2.2 45).bind fun bt613 => (some (bt613.1, bt613.2.1, bt613.2.2))))) = some (r1, r2, r3) := h
 clear h
 replace H := Option.bind_eq_some_iff.mp H
 obtain ⟨⟨t604, t605, t606⟩, A20, H⟩ := H
 replace H : (if t604 = true then ((spec_l1Cur_among.f s0_0 t605 t606 (([(-1), 240, 239] : List Int))).bind fun bt610 => (some (bt610.1, bt610.2.1, bt610.2.2))) else ((spec_l1Cur_pick.f s0_0 t605 t606 45).bind fun bt613 => (some (bt613.1, bt613.2.1, bt613.2.2)))) = some (r1, r2, r3) := H
 have A2 := Aside0.mk A20
 clear A20
 by_cases c3 : t604 = true
 case neg =>
  replace c3 := Bool.eq_false_iff.mpr c3
  subst c3
  have H1 : ((spec_l1Cur_pick.f s0_0 t605 t606 45).bind fun bt613 => (some (bt613.1, bt613.2.1, bt613.2.2))) = some (r1, r2, r3) := by rw [if_neg (show ¬ (false = true) by decide)] at H; exact H
  clear H
  have H := H1
  clear H1
  replace H := Option.bind_eq_some_iff.mp H
  obtain ⟨⟨t613, t614, t615⟩, A100, H⟩ := H
  replace H : (some (t613, t614, t615)) = some (r1, r2, r3) := H
  have A10 := Aside0.mk A100
  clear A100
  simp only [Option.some.injEq, Prod.mk.injEq] at H
  obtain ⟨rfl, rfl, rfl⟩ := H
  go_enter Try.func86, Try.ntmps86
  go_wp2_with (first | ((with_reducible refine gate_callee (f := 99) rfl ?_); refine goesL_ (some 4) rfl rfl Try.func99 (by kernel_rfl) rfl #[.pointer (some ⟨g, 0, none⟩), .int .i64 16] rfl zq1 ?_; (with_reducible refine (spec_l1Cur_one.calls g s0_0 s0_1 s0_2 16 false t605 t606 w0 _ ?side1 ?side2 A2.out).mono ?_); (case side1 => exact zq4); (case side2 => exact zq3); rintro e w11 ⟨rfl, hi, hb, hk⟩; refine ⟨_, rfl, ?_⟩; have n0_ := Aside0.mk (KeepBut.trans zq2 hk (.inl rfl)); have n1_ := Aside0.mk (hb); have n2_ := Aside0.mk (hi); clear HK; clear HB; clear HI0; have HK := n0_; have HB := n1_; have HI0 := n2_; clear n0_ n1_ n2_; (try clear hb); (try clear hb2); (try clear hk); (try clear hi)) | ((with_reducible refine gate_callee (f := 56) rfl ?_); refine goesL_ (some 9) rfl rfl Try.func56 (by kernel_rfl) rfl #[.pointer (some ⟨g, 0, none⟩), .int .i64 45] rfl zq1 ?_; (with_reducible refine (spec_l1Cur_pick.calls g s0_0 t605 t606 45 t613 t614 t615 w0 _ ?side1 ?side2 A10.out).mono ?_); (case side1 => exact zq4); (case side2 => exact zq3); rintro e w12 ⟨rfl, hi, hb, hk⟩; refine ⟨_, rfl, ?_⟩; have n0_ := Aside0.mk (KeepBut.trans zq2 hk (.inl rfl)); have n1_ := Aside0.mk (hb); have n2_ := Aside0.mk (hi); clear HK; clear HB; clear HI0; have HK := n0_; have HB := n1_; have HI0 := n2_; clear n0_ n1_ n2_; (try clear hb); (try clear hb2); (try clear hk); (try clear hi)))
  go_ret
  exact ⟨zqE, zq4, zq3, zq2⟩
 subst c3
 have H1 : ((spec_l1Cur_among.f s0_0 t605 t606 (([(-1), 240, 239] : List Int))).bind fun bt610 => (some (bt610.1, bt610.2.1, bt610.2.2))) = some (r1, r2, r3) := by rw [if_pos rfl] at H; exact H
 clear H
 have H := H1
 clear H1
 obtain ⟨y607, hy607⟩ : ∃ y_ : List Int, y_ = (([(-1), 240, 239] : List Int)) := ⟨_, rfl⟩
 replace H : ((spec_l1Cur_among.f s0_0 t605 t606 y607).bind fun bt610 => (some (bt610.1, bt610.2.1, bt610.2.2))) = some (r1, r2, r3) := zqH hy607 H
 have Ny607 := Aside0.mk hy607
 clear hy607
 replace H := Option.bind_eq_some_iff.mp H
 obtain ⟨⟨t610, t611, t612⟩, A40, H⟩ := H
 replace H : (some (t610, t611, t612)) = some (r1, r2, r3) := H
 have A4 := Aside0.mk A40
 clear A40
 simp only [Option.some.injEq, Prod.mk.injEq] at H
 obtain ⟨rfl, rfl, rfl⟩ := H
 go_enter Try.func86, Try.ntmps86
 go_wp2_with (first | ((with_reducible refine gate_callee (f := 99) rfl ?_); refine goesL_ (some 4) rfl rfl Try.func99 (by kernel_rfl) rfl #[.pointer (some ⟨g, 0, none⟩), .int .i64 16] rfl zq1 ?_; (with_reducible refine (spec_l1Cur_one.calls g s0_0 s0_1 s0_2 16 true t605 t606 w0 _ ?side1 ?side2 A2.out).mono ?_); (case side1 => exact zq4); (case side2 => exact zq3); rintro e w5 ⟨rfl, hi, hb, hk⟩; refine ⟨_, rfl, ?_⟩; have n0_ := Aside0.mk (KeepBut.trans zq2 hk (.inl rfl)); have n1_ := Aside0.mk (hb); have n2_ := Aside0.mk (hi); clear HK; clear HB; clear HI0; have HK := n0_; have HB := n1_; have HI0 := n2_; clear n0_ n1_ n2_; (try clear hb); (try clear hb2); (try clear hk); (try clear hi)) | ((with_reducible refine gate_dst (N := 6) rfl ?_); refine Kd.R_lit (Kd.int .i64) _ 3 ?hg (N := 6) ?hd (xs := ([(-1), 240, 239] : List Int)) (inner := [.int .i64 (-1), .int .i64 240, .int .i64 239]) (ok := fun _ => True) (okp := fun _ => True) ?hr ?hp (fun _ hk => hk) trivial (Below.refl _ _) (Nat.le_refl _) (by simp) ?_; (case hd => rfl); (case hg => rfl); (case hr => exact zqS); (case hp => exact (Reps.one (show Kd.M (Kd.int .i64) _ _ _ (-1) [.int .i64 (-1)] from rfl) (Reps.one (show Kd.M (Kd.int .i64) _ _ _ 240 [.int .i64 240] from rfl) (Reps.one (show Kd.M (Kd.int .i64) _ _ _ 239 [.int .i64 239] from rfl) (Reps.none _ _))))); intro v608 w6 ho7 hb hg_ hnew_; clear hg_ hnew_; (first | rw [← Ny607.out] at ho7 | (simp only [Int.reduceToNat] at ho7; rw [← Ny607.out] at ho7)); have n0_ := Aside0.mk (Kd.R_lower ho7 (keep_size (w := w) (g := g) (row := none) zq2)); have n1_ := Aside0.mk (IsS72.below zq4 hb); have n2_ := Aside0.mk (KeepBut.trans zq2 (KeepBut.of_below hb g none) (.inl rfl)); have n3_ := Aside0.mk (below_step zq3 hb); clear HI0; clear HK; clear HB; have HO609 := n0_; have HI0 := n1_; have HK := n2_; have HB := n3_; clear n0_ n1_ n2_ n3_; clear hb ho7; obtain ⟨Ao8, co8, eo8⟩ := Kd.R_slice HO609.out; subst eo8) | ((with_reducible refine gate_callee (f := 58) rfl ?_); refine goesL_ (some 7) rfl rfl Try.func58 (by kernel_rfl) rfl #[.pointer (some ⟨g, 0, none⟩), .slice Ao8 y607.length co8] rfl zq1 ?_; (with_reducible refine (spec_l1Cur_among.calls g s0_0 t605 t606 _ _ y607 t610 t611 t612 w0 _ ?side1 ?side2 ?side3 ?side4 ?side5 A4.out).mono ?_); (case side1 => exact zq4); (case side2 => exact zq3); (case side3 => exact zqC (Kd.R_reads' HO609.out).2.2); (case side4 => exact (Kd.R_reads' HO609.out).2.1); (case side5 => exact far_slice (IsS72.own_ne HI0.out HO609.out (by decide))); rintro e w9 ⟨rfl, hi, hb, hk⟩; refine ⟨_, rfl, ?_⟩; have n0_ := Aside0.mk (Kd.R_mono (Kd.R_keep (IsS72.apart (show IsS72 w0 _ g s0_0 t605 t606 from by repeat (first | (with_reducible first | exact HI0.out | apply IsS72.alloc | apply IsS72.drewN | apply IsS72.drew | apply IsS72.set_1 | apply IsS72.set_2) | exact HI0.out)) (zqR HO609.out) (by decide)) hk (fun _ h => h.2)) (fun _ h => h.1)); have n1_ := Aside0.mk (KeepBut.trans zq2 hk (.inl rfl)); have n2_ := Aside0.mk (hb); have n3_ := Aside0.mk (hi); clear HO609; clear HK; clear HB; clear HI0; have HO609 := n0_; have HK := n1_; have HB := n2_; have HI0 := n3_; clear n0_ n1_ n2_ n3_; (try clear hb); (try clear hb2); (try clear hk); (try clear hi)))
 go_ret
 exact ⟨zqE, zq4, zq3, zq2⟩

/-! ### spec_DrawAreasAt: function 51 -/
def spec_DrawAreasAt.f (k : Nat) (l0 : List Int) : Option ((List (S31)) × Int × Int) := (spec_l1Cur_warnings.f k l0 0 0).bind fun bt1021 => ((spec_l1Cur_among.f l0 bt1021.2.1 bt1021.2.2 (([1, 2, 3, 1, 0, 4] : List Int))).bind fun bt1029 => ((spec_l1Cur_hour15.f l0 bt1029.2.1 bt1029.2.2).bind fun bt1032 => (some (bt1021.1, bt1029.1, bt1032.1))))
theorem spec_DrawAreasAt.mono : ∀ a0 k, LeO (spec_DrawAreasAt.f k a0) (spec_DrawAreasAt.f (k + 1) a0) := by
 intro a0 k
 unfold spec_DrawAreasAt.f
 repeat' first
   | (with_reducible exact spec_l1Cur_warnings.mono _ _ _ _)
   | (with_reducible exact LeO.refl _)
   | (with_reducible exact LeO.none _)
   | (with_reducible refine LeO.ite ?_ ?_)
   | (with_reducible refine LeO.bind ?_ (fun _ => ?_))
   | exact spec_l1Cur_warnings.mono _ _ _ _
   | exact LeO.none _
   | refine LeO.ite ?_ ?_
   | refine LeO.bind ?_ (fun _ => ?_)
set_option maxHeartbeats 8000000 in
set_option maxRecDepth 100000 in
theorem spec_DrawAreasAt.calls (k : Nat) (A0 : Option Addr) (c0 : Nat) (l0 : List Int) (r1 : List (S31)) (r2 : Int) (r3 : Int) (w : World) (hr0 : Kd.C (Kd.int .u8) w A0 l0.length l0) (hc0 : l0.length ≤ c0) (h : spec_DrawAreasAt.f k l0 = some (r1, r2, r3)) :
  Calls Try.prog 51 #[.slice A0 l0.length c0] w fun e w' => ∃ v0_ : Value, e = .returned (.tuple #[v0_, .int .i64 r2, .int .i64 r3]) ∧ Kd.R k31 31 w' w.heap.size (fun _ => True) v0_ r1 ∧ Below w.heap.size w w' := by
 have hu72 := Try.underlying72
 have HR0 := Aside0.mk hr0
 have HC0 := Aside0.mk hc0
 clear hr0 hc0
 have HB := Aside0.mk (Below.refl w.heap.size w)
 have H : ((spec_l1Cur_warnings.f k l0 0 0).bind fun bt1021 => ((spec_l1Cur_among.f l0 bt1021.2.1 bt1021.2.2 (([1, 2, 3, 1, 0, 4] : List Int))).bind fun bt1029 => ((spec_l1Cur_hour15.f l0 bt1029.2.1 bt1029.2.2).bind fun bt1032 => (some (bt1021.1, bt1029.1, bt1032.1))))) = some (r1, r2, r3) := h
 clear h
 replace H := Option.bind_eq_some_iff.mp H
 obtain ⟨⟨t1021, t1024, t1025⟩, A20, H⟩ := H
 replace H : ((spec_l1Cur_among.f l0 t1024 t1025 (([1, 2, 3, 1, 0, 4] : List Int))).bind fun bt1029 => ((spec_l1Cur_hour15.f l0 bt1029.2.1 bt1029.2.2).bind fun bt1032 => (some (t1021, bt1029.1, bt1032.1)))) = some (r1, r2, r3) := H
 have A2 := Aside0.mk A20
 clear A20
 obtain ⟨y1026, hy1026⟩ : ∃ y_ : List Int, y_ = (([1, 2, 3, 1, 0, 4] : List Int)) := ⟨_, rfl⟩
 replace H : ((spec_l1Cur_among.f l0 t1024 t1025 y1026).bind fun bt1029 => ((spec_l1Cur_hour15.f l0 bt1029.2.1 bt1029.2.2).bind fun bt1032 => (some (t1021, bt1029.1, bt1032.1)))) = some (r1, r2, r3) := zqH hy1026 H
 have Ny1026 := Aside0.mk hy1026
 clear hy1026
 replace H := Option.bind_eq_some_iff.mp H
 obtain ⟨⟨t1029, t1030, t1031⟩, A30, H⟩ := H
 replace H : ((spec_l1Cur_hour15.f l0 t1030 t1031).bind fun bt1032 => (some (t1021, t1029, bt1032.1))) = some (r1, r2, r3) := H
 have A3 := Aside0.mk A30
 clear A30
 replace H := Option.bind_eq_some_iff.mp H
 obtain ⟨⟨t1032, t1033, t1034⟩, A40, H⟩ := H
 replace H : (some (t1021, t1029, t1032)) = some (r1, r2, r3) := H
 have A4 := Aside0.mk A40
 clear A40
 simp only [Option.some.injEq, Prod.mk.injEq] at H
 obtain ⟨rfl, rfl, rfl⟩ := H
 go_enter Try.func51, Try.ntmps51
 go_wp2_with (first | ((with_reducible refine gate_dst (N := 8) rfl ?_); refine box_event ?hg (N := 8) ?hd (cs := #[.slice A0 l0.length c0, .int .i64 0, .int .u64 0]) (t := 72) ?hr ?_; (case hd => rfl); (case hg => rfl); (case hr => exact zqS); intro gb1020 hg w5 hbox hb; have n0_ := Aside0.mk (below_step zq0 hb); have n1_ := Aside0.mk ((show IsS72 w w5 gb1020 l0 0 0 from ⟨_, _, hbox, (by rw [hg]; exact (below_size zq0) : w.heap.size ≤ gb1020), HR0.out⟩)); have n2_ := Aside0.mk ((by rw [hg]; exact (below_size zq0) : w.heap.size ≤ gb1020)); have n3_ := n2_; clear HB; have HB := n0_; have HI1020 := n1_; have GW1020 := n2_; have GE1020 := n3_; clear n0_ n1_ n2_ n3_; clear hb hbox hg) | ((with_reducible refine gate_callee (f := 54) rfl ?_); refine goesL_ (some 10) rfl rfl Try.func54 (by kernel_rfl) rfl #[.pointer (some ⟨gb1020, 0, none⟩)] rfl zq1 ?_; (with_reducible refine (spec_l1Cur_warnings.calls k gb1020 l0 0 0 t1021 t1024 t1025 w _ ?side1 ?side2 A2.out).mono ?_); (case side1 => exact zq34); (case side2 => exact zq27); rintro e w6 ⟨v1022, rfl, ho0, hi, hb, hk⟩; refine ⟨_, rfl, ?_⟩; have n0_ := Aside0.mk (Kd.R_lower ho0 (below_size zq27)); have n1_ := Aside0.mk (hb); have n2_ := Aside0.mk (hi); clear HB; clear HI1020; have HO1023 := n0_; have HB := n1_; have HI1020 := n2_; clear n0_ n1_ n2_; (try clear hb); (try clear hb2); (try clear hk); (try clear hi); (try clear ho0)) | ((with_reducible refine gate_dst (N := 12) rfl ?_); refine Kd.R_lit (Kd.int .i64) _ 3 ?hg (N := 12) ?hd (xs := ([1, 2, 3, 1, 0, 4] : List Int)) (inner := [.int .i64 1, .int .i64 2, .int .i64 3, .int .i64 1, .int .i64 0, .int .i64 4]) (ok := fun _ => True) (okp := fun _ => True) ?hr ?hp (fun _ hk => hk) trivial (Below.refl _ _) (Nat.le_refl _) (by simp) ?_; (case hd => rfl); (case hg => rfl); (case hr => exact zqS); (case hp => exact (Reps.one (show Kd.M (Kd.int .i64) _ _ _ 1 [.int .i64 1] from rfl) (Reps.one (show Kd.M (Kd.int .i64) _ _ _ 2 [.int .i64 2] from rfl) (Reps.one (show Kd.M (Kd.int .i64) _ _ _ 3 [.int .i64 3] from rfl) (Reps.one (show Kd.M (Kd.int .i64) _ _ _ 1 [.int .i64 1] from rfl) (Reps.one (show Kd.M (Kd.int .i64) _ _ _ 0 [.int .i64 0] from rfl) (Reps.one (show Kd.M (Kd.int .i64) _ _ _ 4 [.int .i64 4] from rfl) (Reps.none _ _)))))))); intro v1027 w7 ho8 hb hg_ hnew_; clear hg_ hnew_; (first | rw [← Ny1026.out] at ho8 | (simp only [Int.reduceToNat] at ho8; rw [← Ny1026.out] at ho8)); have n0_ := Aside0.mk (Kd.R_below (zqR HO1023.out) hb); have n1_ := Aside0.mk (Kd.R_lower ho8 (below_size zq27)); have n2_ := Aside0.mk (IsS72.below zq34 hb); have n3_ := Aside0.mk (below_step zq27 hb); clear HO1023; clear HI1020; clear HB; have HO1023 := n0_; have HO1028 := n1_; have HI1020 := n2_; have HB := n3_; clear n0_ n1_ n2_ n3_; clear hb ho8; obtain ⟨Ao9, co9, eo9⟩ := Kd.R_slice HO1028.out; subst eo9) | ((with_reducible refine gate_callee (f := 58) rfl ?_); refine goesL_ (some 13) rfl rfl Try.func58 (by kernel_rfl) rfl #[.pointer (some ⟨gb1020, 0, none⟩), .slice Ao9 y1026.length co9] rfl zq1 ?_; (with_reducible refine (spec_l1Cur_among.calls gb1020 l0 t1024 t1025 _ _ y1026 t1029 t1030 t1031 w _ ?side1 ?side2 ?side3 ?side4 ?side5 A3.out).mono ?_); (case side1 => exact zq34); (case side2 => exact zq27); (case side3 => exact zqC (Kd.R_reads' HO1028.out).2.2); (case side4 => exact (Kd.R_reads' HO1028.out).2.1); (case side5 => exact far_slice (IsS72.own_ne HI1020.out HO1028.out (by decide))); rintro e w10 ⟨rfl, hi, hb, hk⟩; refine ⟨_, rfl, ?_⟩; have n0_ := Aside0.mk (Kd.R_mono (Kd.R_keep (IsS72.apart (show IsS72 w _ gb1020 l0 t1024 t1025 from by repeat (first | (with_reducible first | exact HI1020.out | apply IsS72.alloc | apply IsS72.drewN | apply IsS72.drew | apply IsS72.set_1 | apply IsS72.set_2) | exact HI1020.out)) (zqR HO1023.out) (by decide)) hk (fun _ h => h.2)) (fun _ h => h.1)); have n1_ := Aside0.mk (Kd.R_mono (Kd.R_keep (IsS72.apart (show IsS72 w _ gb1020 l0 t1024 t1025 from by repeat (first | (with_reducible first | exact HI1020.out | apply IsS72.alloc | apply IsS72.drewN | apply IsS72.drew | apply IsS72.set_1 | apply IsS72.set_2) | exact HI1020.out)) (zqR HO1028.out) (by decide)) hk (fun _ h => h.2)) (fun _ h => h.1)); have n2_ := Aside0.mk (hb); have n3_ := Aside0.mk (hi); clear HO1023; clear HO1028; clear HB; clear HI1020; have HO1023 := n0_; have HO1028 := n1_; have HB := n2_; have HI1020 := n3_; clear n0_ n1_ n2_ n3_; (try clear hb); (try clear hb2); (try clear hk); (try clear hi)) | ((with_reducible refine gate_callee (f := 86) rfl ?_); refine goesL_ (some 15) rfl rfl Try.func86 (by kernel_rfl) rfl #[.pointer (some ⟨gb1020, 0, none⟩)] rfl zq1 ?_; (with_reducible refine (spec_l1Cur_hour15.calls gb1020 l0 t1030 t1031 t1032 t1033 t1034 w _ ?side1 ?side2 A4.out).mono ?_); (case side1 => exact zq34); (case side2 => exact zq27); rintro e w11 ⟨rfl, hi, hb, hk⟩; refine ⟨_, rfl, ?_⟩; have n0_ := Aside0.mk (Kd.R_mono (Kd.R_keep (IsS72.apart (show IsS72 w _ gb1020 l0 t1030 t1031 from by repeat (first | (with_reducible first | exact HI1020.out | apply IsS72.alloc | apply IsS72.drewN | apply IsS72.drew | apply IsS72.set_1 | apply IsS72.set_2) | exact HI1020.out)) (zqR HO1023.out) (by decide)) hk (fun _ h => h.2)) (fun _ h => h.1)); have n1_ := Aside0.mk (Kd.R_mono (Kd.R_keep (IsS72.apart (show IsS72 w _ gb1020 l0 t1030 t1031 from by repeat (first | (with_reducible first | exact HI1020.out | apply IsS72.alloc | apply IsS72.drewN | apply IsS72.drew | apply IsS72.set_1 | apply IsS72.set_2) | exact HI1020.out)) (zqR HO1028.out) (by decide)) hk (fun _ h => h.2)) (fun _ h => h.1)); have n2_ := Aside0.mk (hb); have n3_ := Aside0.mk (hi); clear HO1023; clear HO1028; clear HB; clear HI1020; have HO1023 := n0_; have HO1028 := n1_; have HB := n2_; have HI1020 := n3_; clear n0_ n1_ n2_ n3_; (try clear hb); (try clear hb2); (try clear hk); (try clear hi)))
 go_ret3
 exact ⟨_, by first | rfl | (simp [errW_none, errW_some] <;> rfl) | (simp [*, errW_none, errW_some] <;> rfl), zqR HO1023.out, zq27⟩

/-! ### impl_isStateHour: function 71 -/
def impl_isStateHour.f (a0 : Int) : Option (Bool) := (impl_within.f a0 0 239).bind fun t375 => (some t375)
set_option maxHeartbeats 8000000 in
set_option maxRecDepth 100000 in
theorem impl_isStateHour.calls (a0 : Int) (r : Bool) (w : World) (h : impl_isStateHour.f a0 = some r) :
  Calls Try.prog 71 #[.int .i64 a0] w fun e w' => e = .returned (.bool r) ∧ Drawn0 w w' := by
 have H : ((impl_within.f a0 0 239).bind fun t375 => (some t375)) = some r := h
 clear h
 replace H := Option.bind_eq_some_iff.mp H
 obtain ⟨t375, A20, H⟩ := H
 replace H : (some t375) = some r := H
 have A2 := Aside0.mk A20
 clear A20
 obtain rfl := Option.some.inj H
 go_enter Try.func71, Try.ntmps71
 go_wp2_with (first | ((with_reducible refine gate_callee (f := 60) rfl ?_); refine goesL_ (some 4) rfl rfl Try.func60 (by kernel_rfl) rfl #[.int .i64 a0, .int .i64 0, .int .i64 239] rfl zq1 ?_; (with_reducible refine (impl_within.calls a0 0 239 t375 _ A2.out).mono ?_); rintro e w' ⟨rfl, ⟨nd, rfl⟩⟩; refine ⟨_, rfl, ?_⟩))
 go_ret
 exact ⟨by first | rfl | (simp; done) | (simp [*]; done), zq25⟩

/-! ### impl_areaLevel: function 73 -/
def impl_areaLevel.l0 : Nat → List (S31) → Int → Int → Int → Int → Option (Int)
 | 0, _, _, _, _, _ => none
 | k + 1, x0, x1, x2, x7, x8 => if x8 ≤ 5 then ((impl_topicLevel.f k x0 x8 x1 x2).bind fun t383 => (impl_areaLevel.l0 k x0 x1 x2 (mx x7 t383) (wrap64 (x8 + 1)))) else (some x7)
def impl_areaLevel.f (k : Nat) (l0 : List (S31)) (a1 : Int) (a2 : Int) : Option (Int) := impl_areaLevel.l0 k l0 a1 a2 0 1
theorem impl_areaLevel.mono_l : ∀ k, (∀ y0 y1 y2 y3 y4, LeO (impl_areaLevel.l0 k y0 y1 y2 y3 y4) (impl_areaLevel.l0 (k + 1) y0 y1 y2 y3 y4))
 | 0 => fun _ _ _ _ _ r h => by simp [impl_areaLevel.l0] at h
 | k + 1 => by
  have ih0 := impl_areaLevel.mono_l k
  ·
   intro y0 y1 y2 y3 y4
   unfold impl_areaLevel.l0
   repeat' first
   | (with_reducible exact ih0 _ _ _ _ _)
   | (with_reducible exact impl_topicLevel.mono _ _ _ _ _)
   | (with_reducible exact LeO.refl _)
   | (with_reducible exact LeO.none _)
   | (with_reducible refine LeO.ite ?_ ?_)
   | (with_reducible refine LeO.bind ?_ (fun _ => ?_))
   | exact ih0 _ _ _ _ _
   | exact impl_topicLevel.mono _ _ _ _ _
   | exact LeO.none _
   | refine LeO.ite ?_ ?_
   | refine LeO.bind ?_ (fun _ => ?_)
theorem impl_areaLevel.mono : ∀ a0 a1 a2 k, LeO (impl_areaLevel.f k a0 a1 a2) (impl_areaLevel.f (k + 1) a0 a1 a2) := by
 intro a0 a1 a2 k
 have ih0 := impl_areaLevel.mono_l k
 unfold impl_areaLevel.f
 repeat' first
   | (with_reducible exact ih0 _ _ _ _ _)
   | (with_reducible exact impl_topicLevel.mono _ _ _ _ _)
   | (with_reducible exact LeO.refl _)
   | (with_reducible exact LeO.none _)
   | (with_reducible refine LeO.ite ?_ ?_)
   | (with_reducible refine LeO.bind ?_ (fun _ => ?_))
   | exact ih0 _ _ _ _ _
   | exact impl_topicLevel.mono _ _ _ _ _
   | exact LeO.none _
   | refine LeO.ite ?_ ?_
   | refine LeO.bind ?_ (fun _ => ?_)
set_option maxHeartbeats 8000000 in
set_option maxRecDepth 100000 in
theorem impl_areaLevel.calls (k : Nat) (A0 : Option Addr) (c0 : Nat) (l0 : List (S31)) (a1 : Int) (a2 : Int) (r : Int) (w : World) (hr0 : Kd.C k31 w A0 l0.length l0) (hc0 : l0.length ≤ c0) (h : impl_areaLevel.f k l0 a1 a2 = some r) :
  Calls Try.prog 73 #[.slice A0 l0.length c0, .int .i64 a1, .int .i64 a2] w fun e w' => e = .returned (.int .i64 r) ∧ Below w.heap.size w w' := by
 have HR0 := Aside0.mk hr0
 have HC0 := Aside0.mk hc0
 clear hr0 hc0
 have HB := Aside0.mk (Below.refl w.heap.size w)
 have H : (impl_areaLevel.l0 k l0 a1 a2 0 1) = some r := h
 clear h
 have H' := Aside0.mk H
 clear H
 go_enter Try.func73, Try.ntmps73
 go_wp2
 go_loopg [7, 8] k (fun kq v7 v8 w' => ∃ (x7_1 : Int) (x8_1 : Int), v7 = .int .i64 x7_1 ∧ v8 = .int .i64 x8_1 ∧ Aside0 (impl_areaLevel.l0 kq l0 a1 a2 x7_1 x8_1 = some r) ∧ Aside0 (kq ≤ k) ∧ Aside0 (Below w.heap.size w w'))
 case atStart => exact ⟨(0), (1), (by first | rfl | (simp; done) | (simp [*]; done)), (by first | rfl | (simp; done) | (simp [*]; done)), H', ⟨Nat.le_refl _⟩, ⟨zq0⟩⟩
 clear H'
 try clear p2
 obtain ⟨x7_1, x8_1, rfl, rfl, HA, HK1, HB⟩ := hrel
 cases gk with
 | zero => exact absurd HA.out (by simp [impl_areaLevel.l0])
 | succ k1 =>
  have H := HA.out
  clear HA
  simp only [impl_areaLevel.l0] at H
  by_cases c4 : x8_1 ≤ 5
  case neg =>
   rw [if_neg c4] at H
   have c4b0 : decide (x8_1 ≤ 5) = false := decide_eq_false c4
   clear c4
   obtain rfl := Option.some.inj H
   go_wp2
   go_ret
   exact ⟨zqE, zq0⟩
  rw [if_pos c4] at H
  have c4b0 : decide (x8_1 ≤ 5) = true := decide_eq_true c4
  clear c4
  replace H := Option.bind_eq_some_iff.mp H
  obtain ⟨t383, A50, H⟩ := H
  replace H : (impl_areaLevel.l0 k1 l0 a1 a2 (mx x7_1 t383) (wrap64 (x8_1 + 1))) = some r := H
  have A5 := Aside0.mk A50
  clear A50
  obtain ⟨ji6, hji6⟩ : ∃ j_ : Int, (mx x7_1 t383) = j_ := ⟨_, rfl⟩
  replace H : (impl_areaLevel.l0 k1 l0 a1 a2 ji6 (wrap64 (x8_1 + 1))) = some r := by first | (rw [hji6] at H; exact H) | (simp only [hji6] at H ⊢; exact H)
  (try rw [hji6] at A5)
  have hji6_ : (if x7_1 < t383 then t383 else x7_1) = ji6 := hji6
  have H' := Aside0.mk H
  clear H
  go_wp2_with (first | ((with_reducible refine gate_callee (f := 72) rfl ?_); refine goesL_ (some 18) rfl rfl Try.func72 (by kernel_rfl) rfl #[.slice A0 l0.length c0, .int .i64 x8_1, .int .i64 a1, .int .i64 a2] rfl zq1 ?_; (with_reducible refine (impl_topicLevel.calls k1 _ _ l0 x8_1 a1 a2 t383 _ ?side1 ?side2 A5.out).mono ?_); (case side1 => exact zqC (Kd.C_below HR0.out HB.out)); (case side2 => exact HC0.out); rintro e w7 ⟨rfl, hb⟩; refine ⟨_, rfl, ?_⟩; have n0_ := Aside0.mk (below_step zq0 hb); clear HB; have HB := n0_; clear n0_; (try clear hb); (try clear hb2); (try clear hk); (try clear hi)))
  go_roundg k1
  case measure => have := HK1.out; omega
  case rel => exact ⟨(ji6), (wrap64 (x8_1 + 1)), (by first | rfl | (simp; done) | (simp only [← hji6] <;> (first | rfl | simp)) | (simp [*]; done)), (by first | rfl | (simp; done) | (simp [*]; done)), H', ⟨by have := HK1.out; omega⟩, ⟨zq0⟩⟩
/-- The level of area a at hour h. -/
def great (l : List S31) (a h : Int) : Int := Gen.run (fun i (s : Int) => .inr (mx s (lvl l (i : Int) a h))) (fun s => s) 5 1 0
theorem ev_areaLevel (l : List S31) (hl : l.length ≤ 4611686018427387904) (a h : Int) : Ev (fun k => impl_areaLevel.f k l a h) (great l a h) := by
 unfold impl_areaLevel.f great
 refine Gen.ev_run (fun k (s : Int) i => impl_areaLevel.l0 k l a h s i) 6 _ (fun s => s) (fun _ _ => True) ?_ ?_ ?_ 5 1 0 (by omega) trivial
 ·
  intro i s b hi _ hf; cases hf
 ·
  intro i s s' r hi _ hf
  cases hf
  refine ⟨trivial, fun he => ?_⟩
  simp only [impl_areaLevel.l0]
  refine Ev.congr (fun k => if_pos (by omega)) ?_
  refine Ev.bind (f := fun k t => _) (ev_topicLevel l hl _ _ _) ?_
  rw [Gen.wrapS i (by omega)]
  exact he
 ·
  intro s _
  refine Gen.Ev.eq_now fun k => ?_
  simp only [impl_areaLevel.l0]
  rw [if_neg (by omega)]


/-! ### impl_AreasAt: function 52 -/
mutual
def impl_AreasAt.j0 : Nat → List (S31) → Int → Int → Bool → Option (List Int × Bool)
 | 0, _, _, _, _ => none
 | k + 1, x0, x1, x2, x22 => if x22 = true then (some (([] : List Int), false)) else (impl_AreasAt.l0 k x0 x1 x2 ([] : List Int) 1)
def impl_AreasAt.l0 : Nat → List (S31) → Int → Int → List Int → Int → Option (List Int × Bool)
 | 0, _, _, _, _, _ => none
 | k + 1, x0, x1, x2, x8, x9 => if x9 ≤ 9 then ((impl_areaLevel.f k x0 x9 x2).bind fun t1038 => (if t1038 ≥ x1 then (if x8.length < 17592186044416 then (impl_AreasAt.l0 k x0 x1 x2 (x8 ++ [x9]) (wrap64 (x9 + 1))) else (none)) else (impl_AreasAt.l0 k x0 x1 x2 x8 (wrap64 (x9 + 1))))) else (some (x8, true))
end
def impl_AreasAt.f (k : Nat) (l0 : List (S31)) (a1 : Int) (a2 : Int) : Option (List Int × Bool) := (impl_IsConsistent.f k l0).bind fun t1035 => (if t1035 = true then ((impl_within.f a1 1 3).bind fun t1036 => (if t1036 = true then ((impl_isStateHour.f a2).bind fun t1037 => (impl_AreasAt.j0 k l0 a1 a2 (!t1037))) else (impl_AreasAt.j0 k l0 a1 a2 true))) else (impl_AreasAt.j0 k l0 a1 a2 true))
theorem impl_AreasAt.mono_l : ∀ k, (∀ y0 y1 y2 y3, LeO (impl_AreasAt.j0 k y0 y1 y2 y3) (impl_AreasAt.j0 (k + 1) y0 y1 y2 y3)) ∧ (∀ y0 y1 y2 y3 y4, LeO (impl_AreasAt.l0 k y0 y1 y2 y3 y4) (impl_AreasAt.l0 (k + 1) y0 y1 y2 y3 y4))
 | 0 => ⟨fun _ _ _ _ r h => by simp [impl_AreasAt.j0] at h, fun _ _ _ _ _ r h => by simp [impl_AreasAt.l0] at h⟩
 | k + 1 => by
  obtain ⟨ih0, ih1⟩ := impl_AreasAt.mono_l k
  refine ⟨?_, ?_⟩
  ·
   intro y0 y1 y2 y3
   unfold impl_AreasAt.j0
   repeat' first
   | (with_reducible exact ih0 _ _ _ _)
   | (with_reducible exact ih1 _ _ _ _ _)
   | (with_reducible exact impl_IsConsistent.mono _ _)
   | (with_reducible exact impl_areaLevel.mono _ _ _ _)
   | (with_reducible exact LeO.refl _)
   | (with_reducible exact LeO.none _)
   | (with_reducible refine LeO.ite ?_ ?_)
   | (with_reducible refine LeO.bind ?_ (fun _ => ?_))
   | exact ih0 _ _ _ _
   | exact ih1 _ _ _ _ _
   | exact impl_IsConsistent.mono _ _
   | exact impl_areaLevel.mono _ _ _ _
   | exact LeO.none _
   | refine LeO.ite ?_ ?_
   | refine LeO.bind ?_ (fun _ => ?_)
  ·
   intro y0 y1 y2 y3 y4
   unfold impl_AreasAt.l0
   repeat' first
   | (with_reducible exact ih0 _ _ _ _)
   | (with_reducible exact ih1 _ _ _ _ _)
   | (with_reducible exact impl_IsConsistent.mono _ _)
   | (with_reducible exact impl_areaLevel.mono _ _ _ _)
   | (with_reducible exact LeO.refl _)
   | (with_reducible exact LeO.none _)
   | (with_reducible refine LeO.ite ?_ ?_)
   | (with_reducible refine LeO.bind ?_ (fun _ => ?_))
   | exact ih0 _ _ _ _
   | exact ih1 _ _ _ _ _
   | exact impl_IsConsistent.mono _ _
   | exact impl_areaLevel.mono _ _ _ _
   | exact LeO.none _
   | refine LeO.ite ?_ ?_
   | refine LeO.bind ?_ (fun _ => ?_)
theorem impl_AreasAt.mono : ∀ a0 a1 a2 k, LeO (impl_AreasAt.f k a0 a1 a2) (impl_AreasAt.f (k + 1) a0 a1 a2) := by
 intro a0 a1 a2 k
 obtain ⟨ih0, ih1⟩ := impl_AreasAt.mono_l k
 unfold impl_AreasAt.f
 repeat' first
   | (with_reducible exact ih0 _ _ _ _)
   | (with_reducible exact ih1 _ _ _ _ _)
   | (with_reducible exact impl_IsConsistent.mono _ _)
   | (with_reducible exact impl_areaLevel.mono _ _ _ _)
   | (with_reducible exact LeO.refl _)
   | (with_reducible exact LeO.none _)
   | (with_reducible refine LeO.ite ?_ ?_)
   | (with_reducible refine LeO.bind ?_ (fun _ => ?_))
   | exact ih0 _ _ _ _
   | exact ih1 _ _ _ _ _
   | exact impl_IsConsistent.mono _ _
   | exact impl_areaLevel.mono _ _ _ _
   | exact LeO.none _
   | refine LeO.ite ?_ ?_
   | refine LeO.bind ?_ (fun _ => ?_)
set_option maxHeartbeats 8000000 in
set_option maxRecDepth 100000 in
theorem impl_AreasAt.calls (k : Nat) (A0 : Option Addr) (c0 : Nat) (l0 : List (S31)) (a1 : Int) (a2 : Int) (r1 : List Int) (r2 : Bool) (w : World) (hr0 : Kd.C k31 w A0 l0.length l0) (hc0 : l0.length ≤ c0) (h : impl_AreasAt.f k l0 a1 a2 = some (r1, r2)) :
  Calls Try.prog 52 #[.slice A0 l0.length c0, .int .i64 a1, .int .i64 a2] w fun e w' => ∃ v0_ : Value, e = .returned (.tuple #[v0_, .bool r2]) ∧ Kd.R (Kd.int .i64) 3 w' w.heap.size (fun _ => True) v0_ r1 ∧ Below w.heap.size w w' := by
 have HR0 := Aside0.mk hr0
 have HC0 := Aside0.mk hc0
 clear hr0 hc0
 have HB := Aside0.mk (Below.refl w.heap.size w)
 have H : ((impl_IsConsistent.f k l0).bind fun t1035 => (if t1035 = true then ((impl_within.f a1 1 3).bind fun t1036 => (if t1036 = true then ((impl_isStateHour.f a2).bind fun t1037 => (impl_AreasAt.j0 k l0 a1 a2 (!t1037))) else (impl_AreasAt.j0 k l0 a1 a2 true))) else (impl_AreasAt.j0 k l0 a1 a2 true))) = some (r1, r2) := h
 clear h
 have HC4 := Aside0.mk H
 clear H
 go_enter Try.func52, Try.ntmps52
 go_upto_region 1 with (fail)
 go_cut [22] (fun v22 wc => ∃ (kq : Nat) (x22_3 : Bool), v22 = .bool x22_3 ∧ Aside0 (impl_AreasAt.j0 kq l0 a1 a2 x22_3 = some (r1, r2)) ∧ Aside0 (kq ≤ k) ∧ Aside0 (Below w.heap.size w wc))
 case first =>
  have H := HC4.out
  clear HC4
  replace H := Option.bind_eq_some_iff.mp H
  obtain ⟨t1035, A50, H⟩ := H
  replace H : (if t1035 = true then ((impl_within.f a1 1 3).bind fun t1036 => (if t1036 = true then ((impl_isStateHour.f a2).bind fun t1037 => (impl_AreasAt.j0 k l0 a1 a2 (!t1037))) else (impl_AreasAt.j0 k l0 a1 a2 true))) else (impl_AreasAt.j0 k l0 a1 a2 true)) = some (r1, r2) := H
  have A5 := Aside0.mk A50
  clear A50
  by_cases c6 : t1035 = true
  case neg =>
   replace c6 := Bool.eq_false_iff.mpr c6
   subst c6
   have H1 : (impl_AreasAt.j0 k l0 a1 a2 true) = some (r1, r2) := by rw [if_neg (show ¬ (false = true) by decide)] at H; exact H
   clear H
   have H := H1
   clear H1
   have H' := Aside0.mk H
   clear H
   go_wp2_with (first | ((with_reducible refine gate_callee (f := 12) rfl ?_); refine goesL_ (some 11) rfl rfl Try.func12 (by kernel_rfl) rfl #[.slice A0 l0.length c0] rfl zq1 ?_; (with_reducible refine (impl_IsConsistent.calls k _ _ l0 false _ ?side1 ?side2 A5.out).mono ?_); (case side1 => exact zqC (Kd.C_below HR0.out HB.out)); (case side2 => exact HC0.out); rintro e w12 ⟨rfl, hb⟩; refine ⟨_, rfl, ?_⟩; have n0_ := Aside0.mk (below_step zq0 hb); clear HB; have HB := n0_; clear n0_; (try clear hb); (try clear hb2); (try clear hk); (try clear hi)))
   go_meet
   case rel => exact ⟨_, (true), (by first | rfl | (simp; done) | (simp [*]; done)), H', ⟨by first | omega | exact Nat.le_refl _⟩, ⟨zq0⟩⟩
  subst c6
  have H1 : ((impl_within.f a1 1 3).bind fun t1036 => (if t1036 = true then ((impl_isStateHour.f a2).bind fun t1037 => (impl_AreasAt.j0 k l0 a1 a2 (!t1037))) else (impl_AreasAt.j0 k l0 a1 a2 true))) = some (r1, r2) := by rw [if_pos rfl] at H; exact H
  clear H
  have H := H1
  clear H1
  replace H := Option.bind_eq_some_iff.mp H
  obtain ⟨t1036, A70, H⟩ := H
  replace H : (if t1036 = true then ((impl_isStateHour.f a2).bind fun t1037 => (impl_AreasAt.j0 k l0 a1 a2 (!t1037))) else (impl_AreasAt.j0 k l0 a1 a2 true)) = some (r1, r2) := H
  have A7 := Aside0.mk A70
  clear A70
  by_cases c8 : t1036 = true
  case neg =>
   replace c8 := Bool.eq_false_iff.mpr c8
   subst c8
   have H1 : (impl_AreasAt.j0 k l0 a1 a2 true) = some (r1, r2) := by rw [if_neg (show ¬ (false = true) by decide)] at H; exact H
   clear H
   have H := H1
   clear H1
   have H' := Aside0.mk H
   clear H
   go_wp2_with (first | ((with_reducible refine gate_callee (f := 12) rfl ?_); refine goesL_ (some 11) rfl rfl Try.func12 (by kernel_rfl) rfl #[.slice A0 l0.length c0] rfl zq1 ?_; (with_reducible refine (impl_IsConsistent.calls k _ _ l0 true _ ?side1 ?side2 A5.out).mono ?_); (case side1 => exact zqC (Kd.C_below HR0.out HB.out)); (case side2 => exact HC0.out); rintro e w11 ⟨rfl, hb⟩; refine ⟨_, rfl, ?_⟩; have n0_ := Aside0.mk (below_step zq0 hb); clear HB; have HB := n0_; clear n0_; (try clear hb); (try clear hb2); (try clear hk); (try clear hi)) | (go_at_call 60; (with_reducible refine (impl_within.calls a1 1 3 false _ A7.out).mono ?_); rintro e w' ⟨rfl, ⟨nd, rfl⟩⟩))
   go_meet
   case rel => exact ⟨_, (true), (by first | rfl | (simp; done) | (simp [*]; done)), H', ⟨by first | omega | exact Nat.le_refl _⟩, ⟨zq0⟩⟩
  subst c8
  have H1 : ((impl_isStateHour.f a2).bind fun t1037 => (impl_AreasAt.j0 k l0 a1 a2 (!t1037))) = some (r1, r2) := by rw [if_pos rfl] at H; exact H
  clear H
  have H := H1
  clear H1
  replace H := Option.bind_eq_some_iff.mp H
  obtain ⟨t1037, A90, H⟩ := H
  replace H : (impl_AreasAt.j0 k l0 a1 a2 (!t1037)) = some (r1, r2) := H
  have A9 := Aside0.mk A90
  clear A90
  have H' := Aside0.mk H
  clear H
  go_wp2_with (first | ((with_reducible refine gate_callee (f := 12) rfl ?_); refine goesL_ (some 11) rfl rfl Try.func12 (by kernel_rfl) rfl #[.slice A0 l0.length c0] rfl zq1 ?_; (with_reducible refine (impl_IsConsistent.calls k _ _ l0 true _ ?side1 ?side2 A5.out).mono ?_); (case side1 => exact zqC (Kd.C_below HR0.out HB.out)); (case side2 => exact HC0.out); rintro e w10 ⟨rfl, hb⟩; refine ⟨_, rfl, ?_⟩; have n0_ := Aside0.mk (below_step zq0 hb); clear HB; have HB := n0_; clear n0_; (try clear hb); (try clear hb2); (try clear hk); (try clear hi)) | (go_at_call 60; (with_reducible refine (impl_within.calls a1 1 3 true _ A7.out).mono ?_); rintro e w' ⟨rfl, ⟨nd, rfl⟩⟩) | (go_at_call 71; (with_reducible refine (impl_isStateHour.calls a2 t1037 _ A9.out).mono ?_); rintro e w' ⟨rfl, ⟨nd, rfl⟩⟩))
  go_meet
  case rel => exact ⟨_, (!t1037), (by first | rfl | (simp; done) | (simp [*]; done)), H', ⟨by first | omega | exact Nat.le_refl _⟩, ⟨zq0⟩⟩
 clear HC4
 try clear c1
 try clear p2
 try clear c5
 try clear c6
 try clear c8
 try clear c12
 obtain ⟨kq, x22_3, rfl, HA, HJ3, HB⟩ := hcut
 cases kq with
 | zero => exact absurd HA.out (by simp [impl_AreasAt.j0])
 | succ kj3 =>
  have H := HA.out
  clear HA
  simp only [impl_AreasAt.j0] at H
  by_cases c13 : x22_3 = true
  case pos =>
   subst c13
   have H1 : (some (([] : List Int), false)) = some (r1, r2) := by rw [if_pos rfl] at H; exact H
   clear H
   have H := H1
   clear H1
   simp only [Option.some.injEq, Prod.mk.injEq] at H
   obtain ⟨rfl, rfl⟩ := H
   go_wp2
   go_ret2
   exact ⟨_, by first | rfl | (simp [errW_none, errW_some] <;> rfl) | (simp [*, errW_none, errW_some] <;> rfl), by first | exact Kd.R_nil _ _ _ _ _ | exact Kd.N_nil _ _ _ _ _ | exact Kd.V_nil _ _ _ _ _ | exact Kd.Q_nil _ _ _ _ _ | exact Kd.S_nil _ _ _ _ _, zq0⟩
  replace c13 := Bool.eq_false_iff.mpr c13
  subst c13
  have H1 : (impl_AreasAt.l0 kj3 l0 a1 a2 ([] : List Int) 1) = some (r1, r2) := by rw [if_neg (show ¬ (false = true) by decide)] at H; exact H
  clear H
  have H := H1
  clear H1
  have H' := Aside0.mk H
  clear H
  go_wp2
  go_loopg [8, 9] kj3 (fun kq v8 v9 w' => ∃ (x8_2 : List Int) (x9_2 : Int), v9 = .int .i64 x9_2 ∧ Aside0 (impl_AreasAt.l0 kq l0 a1 a2 x8_2 x9_2 = some (r1, r2)) ∧ Aside0 (kq ≤ kj3) ∧ Aside0 (Kd.R (Kd.int .i64) 3 w' w.heap.size (fun _ => True) v8 x8_2) ∧ Aside0 (Below w.heap.size w w'))
  case atStart => exact ⟨(([] : List Int)), (1), (by first | rfl | (simp; done) | (simp [*]; done)), H', ⟨Nat.le_refl _⟩, ⟨by first | exact Kd.R_nil _ _ _ _ _ | exact Kd.N_nil _ _ _ _ _ | exact Kd.V_nil _ _ _ _ _ | exact Kd.Q_nil _ _ _ _ _ | exact Kd.S_nil _ _ _ _ _⟩, ⟨zq0⟩⟩
  clear H'
  try clear c1
  try clear p2
  try clear c5
  try clear c6
  try clear c8
  try clear c12
  try clear c13
  try clear p2
  obtain ⟨x8_2, x9_2, rfl, HA, HK2, HO_8, HB⟩ := hrel
  cases gk with
  | zero => exact absurd HA.out (by simp [impl_AreasAt.l0])
  | succ k2 =>
   have H := HA.out
   clear HA
   simp only [impl_AreasAt.l0] at H
   by_cases c14 : x9_2 ≤ 9
   case neg =>
    rw [if_neg c14] at H
    have c14b0 : decide (x9_2 ≤ 9) = false := decide_eq_false c14
    clear c14
    simp only [Option.some.injEq, Prod.mk.injEq] at H
    obtain ⟨rfl, rfl⟩ := H
    go_wp2
    go_ret2
    exact ⟨_, by first | rfl | (simp [errW_none, errW_some] <;> rfl) | (simp [*, errW_none, errW_some] <;> rfl), zqR HO_8.out, zq0⟩
   rw [if_pos c14] at H
   have c14b0 : decide (x9_2 ≤ 9) = true := decide_eq_true c14
   clear c14
   replace H := Option.bind_eq_some_iff.mp H
   obtain ⟨t1038, A150, H⟩ := H
   replace H : (if t1038 ≥ a1 then (if x8_2.length < 17592186044416 then (impl_AreasAt.l0 k2 l0 a1 a2 (x8_2 ++ [x9_2]) (wrap64 (x9_2 + 1))) else (none)) else (impl_AreasAt.l0 k2 l0 a1 a2 x8_2 (wrap64 (x9_2 + 1)))) = some (r1, r2) := H
   have A15 := Aside0.mk A150
   clear A150
   by_cases c16 : t1038 ≥ a1
   case neg =>
    rw [if_neg c16] at H
    have c16b0 : decide (a1 ≤ t1038) = false := decide_eq_false c16
    clear c16
    have H' := Aside0.mk H
    clear H
    go_wp2_with (first | ((with_reducible refine gate_callee (f := 73) rfl ?_); refine goesL_ (some 30) rfl rfl Try.func73 (by kernel_rfl) rfl #[.slice A0 l0.length c0, .int .i64 x9_2, .int .i64 a2] rfl zq1 ?_; (with_reducible refine (impl_areaLevel.calls k2 _ _ l0 x9_2 a2 t1038 _ ?side1 ?side2 A15.out).mono ?_); (case side1 => exact zqC (Kd.C_below HR0.out HB.out)); (case side2 => exact HC0.out); rintro e w20 ⟨rfl, hb⟩; refine ⟨_, rfl, ?_⟩; have n0_ := Aside0.mk (Kd.R_below (zqR HO_8.out) hb); have n1_ := Aside0.mk (below_step zq0 hb); clear HO_8; clear HB; have HO_8 := n0_; have HB := n1_; clear n0_ n1_; (try clear hb); (try clear hb2); (try clear hk); (try clear hi)))
    go_roundg k2
    case measure => have := HJ3.out; have := HK2.out; omega
    case rel => exact ⟨(x8_2), (wrap64 (x9_2 + 1)), (by first | rfl | (simp; done) | (simp [*]; done)), H', ⟨by have := HJ3.out; have := HK2.out; omega⟩, ⟨zqR HO_8.out⟩, ⟨zq0⟩⟩
   rw [if_pos c16] at H
   have c16b0 : decide (a1 ≤ t1038) = true := decide_eq_true c16
   clear c16
   by_cases c17 : x8_2.length < 17592186044416
   case neg =>
    rw [if_neg c17] at H
    exact absurd H (by simp)
   rw [if_pos c17] at H
   have LMc17 := Aside0.mk c17
   clear c17
   obtain ⟨y1039, hy1039⟩ : ∃ y_ : List Int, y_ = (x8_2 ++ [x9_2]) := ⟨_, rfl⟩
   replace H : (impl_AreasAt.l0 k2 l0 a1 a2 y1039 (wrap64 (x9_2 + 1))) = some (r1, r2) := zqH hy1039 H
   have Ny1039 := Aside0.mk hy1039
   clear hy1039
   have H' := Aside0.mk H
   clear H
   go_wp2_with (first | ((with_reducible refine gate_callee (f := 73) rfl ?_); refine goesL_ (some 30) rfl rfl Try.func73 (by kernel_rfl) rfl #[.slice A0 l0.length c0, .int .i64 x9_2, .int .i64 a2] rfl zq1 ?_; (with_reducible refine (impl_areaLevel.calls k2 _ _ l0 x9_2 a2 t1038 _ ?side1 ?side2 A15.out).mono ?_); (case side1 => exact zqC (Kd.C_below HR0.out HB.out)); (case side2 => exact HC0.out); rintro e w18 ⟨rfl, hb⟩; refine ⟨_, rfl, ?_⟩; have n0_ := Aside0.mk (Kd.R_below (zqR HO_8.out) hb); have n1_ := Aside0.mk (below_step zq0 hb); clear HO_8; clear HB; have HO_8 := n0_; have HB := n1_; clear n0_ n1_; (try clear hb); (try clear hb2); (try clear hk); (try clear hi)) | ((with_reducible refine gate_builtin (b := .append) (xs := #[.tmp 33, .tmp 35]) rfl ?_); at_builtin; refine Kd.R_append (Kd.int .i64) (w0 := w) w.heap.size rfl (.tmp 33) (.tmp 35) 54 3 (.int .i64 0) 8 rfl Try.underlying54 info3 rfl (by decide) (by omega) u8 x8_2 x9_2 [.int .i64 x9_2] (fun _ => True) (fun _ => False) rfl rfl ?aP (fun _ hk => hk.elim) ?aF ?aO ?aB ?aS ?aL ?_; (case aP => exact rfl); (case aB => exact zq0); (case aF => exact (fun _ _ => trivial)); (case aO => exact (zqR HO_8.out)); (case aS => exact (below_size zq0)); (case aL => have := LMc17.out; omega); intro v1040 w19 ho hb hg hat; rw [← Ny1039.out] at ho; have n0_ := Aside0.mk (hb); have n1_ := Aside0.mk (ho); clear HB; clear HO_8; have HB := n0_; have HO1041 := n1_; clear n0_ n1_; clear ho hb hg hat))
   go_roundg k2
   case measure => have := HJ3.out; have := HK2.out; omega
   case rel => exact ⟨(y1039), (wrap64 (x9_2 + 1)), (by first | rfl | (simp; done) | (simp [*]; done)), H', ⟨by have := HJ3.out; have := HK2.out; omega⟩, ⟨zqR HO1041.out⟩, ⟨zq0⟩⟩

/-! ### spec_l15Hour: function 87 -/
def spec_l15Hour.f (a0 : Int) : Option (Bool) := (spec_l1In.f a0 0 239).bind fun t632 => (some t632)
set_option maxHeartbeats 8000000 in
set_option maxRecDepth 100000 in
theorem spec_l15Hour.calls (a0 : Int) (r : Bool) (w : World) (h : spec_l15Hour.f a0 = some r) :
  Calls Try.prog 87 #[.int .i64 a0] w fun e w' => e = .returned (.bool r) ∧ Drawn0 w w' := by
 have H : ((spec_l1In.f a0 0 239).bind fun t632 => (some t632)) = some r := h
 clear h
 replace H := Option.bind_eq_some_iff.mp H
 obtain ⟨t632, A20, H⟩ := H
 replace H : (some t632) = some r := H
 have A2 := Aside0.mk A20
 clear A20
 obtain rfl := Option.some.inj H
 go_enter Try.func87, Try.ntmps87
 go_wp2_with (first | ((with_reducible refine gate_callee (f := 101) rfl ?_); refine goesL_ (some 4) rfl rfl Try.func101 (by kernel_rfl) rfl #[.int .i64 a0, .int .i64 0, .int .i64 239] rfl zq1 ?_; (with_reducible refine (spec_l1In.calls a0 0 239 t632 _ A2.out).mono ?_); rintro e w' ⟨rfl, ⟨nd, rfl⟩⟩; refine ⟨_, rfl, ?_⟩))
 go_ret
 exact ⟨by first | rfl | (simp; done) | (simp [*]; done), zq25⟩

/-! ### spec_l15Greatest: function 88 -/
def spec_l15Greatest.l0 : Nat → List (S31) → Int → Int → Int → Int → Option (Int)
 | 0, _, _, _, _, _ => none
 | k + 1, x0, x1, x2, x7, x8 => if x8 ≤ 5 then ((spec_l15Level.f k x0 x8 x1 x2).bind fun t633 => ((spec_l1Most.f x7 t633).bind fun t634 => (spec_l15Greatest.l0 k x0 x1 x2 t634 (wrap64 (x8 + 1))))) else (some x7)
def spec_l15Greatest.f (k : Nat) (l0 : List (S31)) (a1 : Int) (a2 : Int) : Option (Int) := spec_l15Greatest.l0 k l0 a1 a2 0 1
theorem spec_l15Greatest.mono_l : ∀ k, (∀ y0 y1 y2 y3 y4, LeO (spec_l15Greatest.l0 k y0 y1 y2 y3 y4) (spec_l15Greatest.l0 (k + 1) y0 y1 y2 y3 y4))
 | 0 => fun _ _ _ _ _ r h => by simp [spec_l15Greatest.l0] at h
 | k + 1 => by
  have ih0 := spec_l15Greatest.mono_l k
  ·
   intro y0 y1 y2 y3 y4
   unfold spec_l15Greatest.l0
   repeat' first
   | (with_reducible exact ih0 _ _ _ _ _)
   | (with_reducible exact spec_l15Level.mono _ _ _ _ _)
   | (with_reducible exact LeO.refl _)
   | (with_reducible exact LeO.none _)
   | (with_reducible refine LeO.ite ?_ ?_)
   | (with_reducible refine LeO.bind ?_ (fun _ => ?_))
   | exact ih0 _ _ _ _ _
   | exact spec_l15Level.mono _ _ _ _ _
   | exact LeO.none _
   | refine LeO.ite ?_ ?_
   | refine LeO.bind ?_ (fun _ => ?_)
theorem spec_l15Greatest.mono : ∀ a0 a1 a2 k, LeO (spec_l15Greatest.f k a0 a1 a2) (spec_l15Greatest.f (k + 1) a0 a1 a2) := by
 intro a0 a1 a2 k
 have ih0 := spec_l15Greatest.mono_l k
 unfold spec_l15Greatest.f
 repeat' first
   | (with_reducible exact ih0 _ _ _ _ _)
   | (with_reducible exact spec_l15Level.mono _ _ _ _ _)
   | (with_reducible exact LeO.refl _)
   | (with_reducible exact LeO.none _)
   | (with_reducible refine LeO.ite ?_ ?_)
   | (with_reducible refine LeO.bind ?_ (fun _ => ?_))
   | exact ih0 _ _ _ _ _
   | exact spec_l15Level.mono _ _ _ _ _
   | exact LeO.none _
   | refine LeO.ite ?_ ?_
   | refine LeO.bind ?_ (fun _ => ?_)
set_option maxHeartbeats 8000000 in
set_option maxRecDepth 100000 in
theorem spec_l15Greatest.calls (k : Nat) (A0 : Option Addr) (c0 : Nat) (l0 : List (S31)) (a1 : Int) (a2 : Int) (r : Int) (w : World) (hr0 : Kd.C k31 w A0 l0.length l0) (hc0 : l0.length ≤ c0) (h : spec_l15Greatest.f k l0 a1 a2 = some r) :
  Calls Try.prog 88 #[.slice A0 l0.length c0, .int .i64 a1, .int .i64 a2] w fun e w' => e = .returned (.int .i64 r) ∧ Below w.heap.size w w' := by
 have HR0 := Aside0.mk hr0
 have HC0 := Aside0.mk hc0
 clear hr0 hc0
 have HB := Aside0.mk (Below.refl w.heap.size w)
 have H : (spec_l15Greatest.l0 k l0 a1 a2 0 1) = some r := h
 clear h
 have H' := Aside0.mk H
 clear H
 go_enter Try.func88, Try.ntmps88
 go_wp2
 go_loopg [7, 8] k (fun kq v7 v8 w' => ∃ (x7_1 : Int) (x8_1 : Int), v7 = .int .i64 x7_1 ∧ v8 = .int .i64 x8_1 ∧ Aside0 (spec_l15Greatest.l0 kq l0 a1 a2 x7_1 x8_1 = some r) ∧ Aside0 (kq ≤ k) ∧ Aside0 (Below w.heap.size w w'))
 case atStart => exact ⟨(0), (1), (by first | rfl | (simp; done) | (simp [*]; done)), (by first | rfl | (simp; done) | (simp [*]; done)), H', ⟨Nat.le_refl _⟩, ⟨zq0⟩⟩
 clear H'
 try clear p2
 obtain ⟨x7_1, x8_1, rfl, rfl, HA, HK1, HB⟩ := hrel
 cases gk with
 | zero => exact absurd HA.out (by simp [spec_l15Greatest.l0])
 | succ k1 =>
  have H := HA.out
  clear HA
  simp only [spec_l15Greatest.l0] at H
  by_cases c4 : x8_1 ≤ 5
  case neg =>
   rw [if_neg c4] at H
   have c4b0 : decide (x8_1 ≤ 5) = false := decide_eq_false c4
   clear c4
   obtain rfl := Option.some.inj H
   go_wp2
   go_ret
   exact ⟨zqE, zq0⟩
  rw [if_pos c4] at H
  have c4b0 : decide (x8_1 ≤ 5) = true := decide_eq_true c4
  clear c4
  replace H := Option.bind_eq_some_iff.mp H
  obtain ⟨t633, A50, H⟩ := H
  replace H : ((spec_l1Most.f x7_1 t633).bind fun t634 => (spec_l15Greatest.l0 k1 l0 a1 a2 t634 (wrap64 (x8_1 + 1)))) = some r := H
  have A5 := Aside0.mk A50
  clear A50
  replace H := Option.bind_eq_some_iff.mp H
  obtain ⟨t634, A60, H⟩ := H
  replace H : (spec_l15Greatest.l0 k1 l0 a1 a2 t634 (wrap64 (x8_1 + 1))) = some r := H
  have A6 := Aside0.mk A60
  clear A60
  have H' := Aside0.mk H
  clear H
  go_wp2_with (first | ((with_reducible refine gate_callee (f := 83) rfl ?_); refine goesL_ (some 18) rfl rfl Try.func83 (by kernel_rfl) rfl #[.slice A0 l0.length c0, .int .i64 x8_1, .int .i64 a1, .int .i64 a2] rfl zq1 ?_; (with_reducible refine (spec_l15Level.calls k1 _ _ l0 x8_1 a1 a2 t633 _ ?side1 ?side2 A5.out).mono ?_); (case side1 => exact zqC (Kd.C_below HR0.out HB.out)); (case side2 => exact HC0.out); rintro e w7 ⟨rfl, hb⟩; refine ⟨_, rfl, ?_⟩; have n0_ := Aside0.mk (below_step zq0 hb); clear HB; have HB := n0_; clear n0_; (try clear hb); (try clear hb2); (try clear hk); (try clear hi)) | ((with_reducible refine gate_callee (f := 96) rfl ?_); refine goesL_ (some 19) rfl rfl Try.func96 (by kernel_rfl) rfl #[.int .i64 x7_1, .int .i64 t633] rfl zq1 ?_; (with_reducible refine (spec_l1Most.calls x7_1 t633 t634 _ A6.out).mono ?_); rintro e w8 ⟨rfl, hb⟩; refine ⟨_, rfl, ?_⟩; have n0_ := Aside0.mk (below_step zq0 hb); clear HB; have HB := n0_; clear n0_; (try clear hb); (try clear hb2); (try clear hk); (try clear hi)))
  go_roundg k1
  case measure => have := HK1.out; omega
  case rel => exact ⟨(t634), (wrap64 (x8_1 + 1)), (by first | rfl | (simp; done) | (simp [*]; done)), (by first | rfl | (simp; done) | (simp [*]; done)), H', ⟨by have := HK1.out; omega⟩, ⟨zq0⟩⟩
end Go.Proofs.Ytklepiechbnenaa.Q
