/- Texts of this seat, put together: Qf45. -/
import Derived.Test.YtklepiechbnenaaZFnJoining
import Derived.Test.YtklepiechbnenaaBFnJoining0
import Derived.Test.YtklepiechbnenaaBFnJoining1
import Derived.Test.YtklepiechbnenaaBFnJoining7
namespace Go.Proofs.Ytklepiechbnenaa.Q
open Go.RowKit Go.Proofs.YtklepiechbnenaaW.PrintWords Go.Proofs.YtklepiechbnenaaW.PrintLast Go.Proofs.YtklepiechbnenaaW.PrintMore
attribute [local go_sem] max2_int min2_int max_two min_two max_three min_three max_four min_four   -- for this text's walks alone
set_option linter.unusedVariables false
set_option linter.unusedSimpArgs false

/-! ### spec_JoinWarnings: function 45 -/
mutual
def spec_JoinWarnings.l0 : Nat → List (S31) → Bool → Option ((List (S31)) × Bool)
 | 0, _, _ => none
 | k + 1, x4, x5 => if x5 = true then (spec_JoinWarnings.l1 k x4 false 0) else (some (x4, true))
def spec_JoinWarnings.l1 : Nat → List (S31) → Bool → Int → Option ((List (S31)) × Bool)
 | 0, _, _, _ => none
 | k + 1, x4, x5, x6 => if x6 < (x4.length : Int) then (spec_JoinWarnings.j2 k x4 x5 x6 (!x5)) else (spec_JoinWarnings.j2 k x4 x5 x6 false)
def spec_JoinWarnings.j2 : Nat → List (S31) → Bool → Int → Bool → Option ((List (S31)) × Bool)
 | 0, _, _, _, _ => none
 | k + 1, x4, x5, x6, x24 => if x24 = true then (spec_JoinWarnings.l2 k x4 x5 x6 (wrap64 (x6 + 1))) else (spec_JoinWarnings.l0 k x4 x5)
def spec_JoinWarnings.l2 : Nat → List (S31) → Bool → Int → Int → Option ((List (S31)) × Bool)
 | 0, _, _, _, _ => none
 | k + 1, x4, x5, x6, x7 => if x7 < (x4.length : Int) then (spec_JoinWarnings.j4 k x4 x5 x6 x7 (!x5)) else (spec_JoinWarnings.j4 k x4 x5 x6 x7 false)
def spec_JoinWarnings.j4 : Nat → List (S31) → Bool → Int → Int → Bool → Option ((List (S31)) × Bool)
 | 0, _, _, _, _, _ => none
 | k + 1, x4, x5, x6, x7, x36 => if x36 = true then (if 0 ≤ x6 then (if x6 < (x4.length : Int) then (if 0 ≤ x7 then (if x7 < (x4.length : Int) then ((spec_l15Joins.f ((rd_T31 x4 x6).f0) ((rd_T31 x4 x6).f1) ((rd_T31 x4 x6).f2) ((rd_T31 x4 x6).f3) ((rd_T31 x4 x6).f4) ((rd_T31 x4 x6).f5) ((rd_T31 x4 x7).f0) ((rd_T31 x4 x7).f1) ((rd_T31 x4 x7).f2) ((rd_T31 x4 x7).f3) ((rd_T31 x4 x7).f4) ((rd_T31 x4 x7).f5)).bind fun t948 => (if t948 = true then ((spec_l1Least.f ((rd_T31 x4 x6).f4) ((rd_T31 x4 x7).f4)).bind fun t953 => ((spec_l1Most.f ((rd_T31 x4 x6).f5) ((rd_T31 x4 x7).f5)).bind fun t956 => ((some (x4.set (x6 : Int).toNat (⟨(rd_T31 x4 x6).f0, (rd_T31 x4 x6).f1, (rd_T31 x4 x6).f2, (rd_T31 x4 x6).f3, t953, t956⟩ : S31) : List (S31))).bind fun y957 => ((some (([] : List (S31)) : List (S31))).bind fun y958 => (if x7 ≤ (x4.length : Int) then ((some (y957.take (x7 : Int).toNat : List (S31))).bind fun y961 => (if y958.length + y961.length < 2932031007402 then ((some (y958 ++ y961 : List (S31))).bind fun y965 => (if 0 ≤ (wrap64 (x7 + 1)) then (if (wrap64 (x7 + 1)) ≤ (x4.length : Int) then ((some (y957.drop ((wrap64 (x7 + 1)) : Int).toNat : List (S31))).bind fun y968 => (if y965.length + y968.length < 2932031007402 then (spec_JoinWarnings.l2 k (y965 ++ y968) true x6 (wrap64 (x7 + 1))) else (none))) else (none)) else (none))) else (none))) else (none)))))) else (spec_JoinWarnings.l2 k x4 x5 x6 (wrap64 (x7 + 1))))) else (none)) else (none)) else (none)) else (none)) else (spec_JoinWarnings.l1 k x4 x5 (wrap64 (x6 + 1)))
end
def spec_JoinWarnings.f (k : Nat) (l0 : List (S31)) : Option ((List (S31)) × Bool) := (spec_l14List.f k l0).bind fun t936 => (if t936 = true then ((some (([] : List (S31)) : List (S31))).bind fun y940 => (if y940.length + l0.length < 2932031007402 then (spec_JoinWarnings.l0 k (y940 ++ l0) true) else (none))) else (some ((([] : List (S31))), false)))
theorem spec_JoinWarnings.mono_l : ∀ k, (∀ y0 y1, LeO (spec_JoinWarnings.l0 k y0 y1) (spec_JoinWarnings.l0 (k + 1) y0 y1)) ∧ (∀ y0 y1 y2, LeO (spec_JoinWarnings.l1 k y0 y1 y2) (spec_JoinWarnings.l1 (k + 1) y0 y1 y2)) ∧ (∀ y0 y1 y2 y3, LeO (spec_JoinWarnings.j2 k y0 y1 y2 y3) (spec_JoinWarnings.j2 (k + 1) y0 y1 y2 y3)) ∧ (∀ y0 y1 y2 y3, LeO (spec_JoinWarnings.l2 k y0 y1 y2 y3) (spec_JoinWarnings.l2 (k + 1) y0 y1 y2 y3)) ∧ (∀ y0 y1 y2 y3 y4, LeO (spec_JoinWarnings.j4 k y0 y1 y2 y3 y4) (spec_JoinWarnings.j4 (k + 1) y0 y1 y2 y3 y4))
 | 0 => ⟨fun _ _ r h => by simp [spec_JoinWarnings.l0] at h, fun _ _ _ r h => by simp [spec_JoinWarnings.l1] at h, fun _ _ _ _ r h => by simp [spec_JoinWarnings.j2] at h, fun _ _ _ _ r h => by simp [spec_JoinWarnings.l2] at h, fun _ _ _ _ _ r h => by simp [spec_JoinWarnings.j4] at h⟩
 | k + 1 => by
  obtain ⟨ih0, ih1, ih2, ih3, ih4⟩ := spec_JoinWarnings.mono_l k
  refine ⟨?_, ?_, ?_, ?_, ?_⟩
  ·
   intro y0 y1
   unfold spec_JoinWarnings.l0
   repeat' first
   | (with_reducible exact ih0 _ _)
   | (with_reducible exact ih1 _ _ _)
   | (with_reducible exact ih2 _ _ _ _)
   | (with_reducible exact ih3 _ _ _ _)
   | (with_reducible exact ih4 _ _ _ _ _)
   | (with_reducible exact spec_l14List.mono _ _)
   | (with_reducible exact LeO.refl _)
   | (with_reducible exact LeO.none _)
   | (with_reducible refine LeO.ite ?_ ?_)
   | (with_reducible refine LeO.bind ?_ (fun _ => ?_))
   | exact ih0 _ _
   | exact ih1 _ _ _
   | exact ih2 _ _ _ _
   | exact ih3 _ _ _ _
   | exact ih4 _ _ _ _ _
   | exact spec_l14List.mono _ _
   | exact LeO.none _
   | refine LeO.ite ?_ ?_
   | refine LeO.bind ?_ (fun _ => ?_)
  ·
   intro y0 y1 y2
   unfold spec_JoinWarnings.l1
   repeat' first
   | (with_reducible exact ih0 _ _)
   | (with_reducible exact ih1 _ _ _)
   | (with_reducible exact ih2 _ _ _ _)
   | (with_reducible exact ih3 _ _ _ _)
   | (with_reducible exact ih4 _ _ _ _ _)
   | (with_reducible exact spec_l14List.mono _ _)
   | (with_reducible exact LeO.refl _)
   | (with_reducible exact LeO.none _)
   | (with_reducible refine LeO.ite ?_ ?_)
   | (with_reducible refine LeO.bind ?_ (fun _ => ?_))
   | exact ih0 _ _
   | exact ih1 _ _ _
   | exact ih2 _ _ _ _
   | exact ih3 _ _ _ _
   | exact ih4 _ _ _ _ _
   | exact spec_l14List.mono _ _
   | exact LeO.none _
   | refine LeO.ite ?_ ?_
   | refine LeO.bind ?_ (fun _ => ?_)
  ·
   intro y0 y1 y2 y3
   unfold spec_JoinWarnings.j2
   repeat' first
   | (with_reducible exact ih0 _ _)
   | (with_reducible exact ih1 _ _ _)
   | (with_reducible exact ih2 _ _ _ _)
   | (with_reducible exact ih3 _ _ _ _)
   | (with_reducible exact ih4 _ _ _ _ _)
   | (with_reducible exact spec_l14List.mono _ _)
   | (with_reducible exact LeO.refl _)
   | (with_reducible exact LeO.none _)
   | (with_reducible refine LeO.ite ?_ ?_)
   | (with_reducible refine LeO.bind ?_ (fun _ => ?_))
   | exact ih0 _ _
   | exact ih1 _ _ _
   | exact ih2 _ _ _ _
   | exact ih3 _ _ _ _
   | exact ih4 _ _ _ _ _
   | exact spec_l14List.mono _ _
   | exact LeO.none _
   | refine LeO.ite ?_ ?_
   | refine LeO.bind ?_ (fun _ => ?_)
  ·
   intro y0 y1 y2 y3
   unfold spec_JoinWarnings.l2
   repeat' first
   | (with_reducible exact ih0 _ _)
   | (with_reducible exact ih1 _ _ _)
   | (with_reducible exact ih2 _ _ _ _)
   | (with_reducible exact ih3 _ _ _ _)
   | (with_reducible exact ih4 _ _ _ _ _)
   | (with_reducible exact spec_l14List.mono _ _)
   | (with_reducible exact LeO.refl _)
   | (with_reducible exact LeO.none _)
   | (with_reducible refine LeO.ite ?_ ?_)
   | (with_reducible refine LeO.bind ?_ (fun _ => ?_))
   | exact ih0 _ _
   | exact ih1 _ _ _
   | exact ih2 _ _ _ _
   | exact ih3 _ _ _ _
   | exact ih4 _ _ _ _ _
   | exact spec_l14List.mono _ _
   | exact LeO.none _
   | refine LeO.ite ?_ ?_
   | refine LeO.bind ?_ (fun _ => ?_)
  ·
   intro y0 y1 y2 y3 y4
   unfold spec_JoinWarnings.j4
   repeat' first
   | (with_reducible exact ih0 _ _)
   | (with_reducible exact ih1 _ _ _)
   | (with_reducible exact ih2 _ _ _ _)
   | (with_reducible exact ih3 _ _ _ _)
   | (with_reducible exact ih4 _ _ _ _ _)
   | (with_reducible exact spec_l14List.mono _ _)
   | (with_reducible exact LeO.refl _)
   | (with_reducible exact LeO.none _)
   | (with_reducible refine LeO.ite ?_ ?_)
   | (with_reducible refine LeO.bind ?_ (fun _ => ?_))
   | exact ih0 _ _
   | exact ih1 _ _ _
   | exact ih2 _ _ _ _
   | exact ih3 _ _ _ _
   | exact ih4 _ _ _ _ _
   | exact spec_l14List.mono _ _
   | exact LeO.none _
   | refine LeO.ite ?_ ?_
   | refine LeO.bind ?_ (fun _ => ?_)
theorem spec_JoinWarnings.mono : ∀ a0 k, LeO (spec_JoinWarnings.f k a0) (spec_JoinWarnings.f (k + 1) a0) := by
 intro a0 k
 obtain ⟨ih0, ih1, ih2, ih3, ih4⟩ := spec_JoinWarnings.mono_l k
 unfold spec_JoinWarnings.f
 repeat' first
   | (with_reducible exact ih0 _ _)
   | (with_reducible exact ih1 _ _ _)
   | (with_reducible exact ih2 _ _ _ _)
   | (with_reducible exact ih3 _ _ _ _)
   | (with_reducible exact ih4 _ _ _ _ _)
   | (with_reducible exact spec_l14List.mono _ _)
   | (with_reducible exact LeO.refl _)
   | (with_reducible exact LeO.none _)
   | (with_reducible refine LeO.ite ?_ ?_)
   | (with_reducible refine LeO.bind ?_ (fun _ => ?_))
   | exact ih0 _ _
   | exact ih1 _ _ _
   | exact ih2 _ _ _ _
   | exact ih3 _ _ _ _
   | exact ih4 _ _ _ _ _
   | exact spec_l14List.mono _ _
   | exact LeO.none _
   | refine LeO.ite ?_ ?_
   | refine LeO.bind ?_ (fun _ => ?_)
def spec_JoinWarnings.T13 : Bool × List (List Nat × List Nat) := (true, [([], []), ([], []), ([0, 1], [0, 1]), ([2], [2]), ([], []), ([], []), ([4, 5], [4, 5]), ([6], [6]), ([3, 7], [3, 7]), ([8], [8])])
def spec_JoinWarnings.B13 : List Nat := [0, 0, 3, 7, 0, 0, 48, 112, 255, 511]
theorem spec_JoinWarnings.tab13 : rtab .any (opsOf Try.f45 13) = spec_JoinWarnings.T13 := by kernel_rfl
theorem spec_JoinWarnings.bits13 : waitsOk spec_JoinWarnings.T13.2 spec_JoinWarnings.B13 = true := by kernel_rfl
def spec_JoinWarnings.T15 : Bool × List (List Nat × List Nat) := (true, [([], []), ([], []), ([0, 1], [0, 1]), ([2], [2]), ([3], [3]), ([], []), ([], []), ([5, 6], [5, 6]), ([7], [7]), ([8], [8]), ([4, 9], [4, 9]), ([0, 1, 2, 3, 4, 5, 6, 7, 8, 9, 10], []), ([11, 10, 10, 0, 1, 2, 3, 4, 5, 6, 7, 8, 9, 10], [10, 11])])
def spec_JoinWarnings.B15 : List Nat := [0, 0, 3, 7, 15, 0, 0, 96, 224, 480, 1023, 2047, 4095]
theorem spec_JoinWarnings.tab15 : rtab .any (opsOf Try.f45 15) = spec_JoinWarnings.T15 := by kernel_rfl
theorem spec_JoinWarnings.bits15 : waitsOk spec_JoinWarnings.T15.2 spec_JoinWarnings.B15 = true := by kernel_rfl
def spec_JoinWarnings.T16 : Bool × List (List Nat × List Nat) := (true, [([], []), ([], []), ([0, 1], [0, 1]), ([2], [2]), ([3], [3]), ([], []), ([], []), ([5, 6], [5, 6]), ([7], [7]), ([8], [8]), ([4, 9], [4, 9]), ([0, 1, 2, 3, 4, 5, 6, 7, 8, 9, 10], []), ([11, 10, 10, 0, 1, 2, 3, 4, 5, 6, 7, 8, 9, 10], [10, 11])])
def spec_JoinWarnings.B16 : List Nat := [0, 0, 3, 7, 15, 0, 0, 96, 224, 480, 1023, 2047, 4095]
theorem spec_JoinWarnings.tab16 : rtab .any (opsOf Try.f45 16) = spec_JoinWarnings.T16 := by kernel_rfl
theorem spec_JoinWarnings.bits16 : waitsOk spec_JoinWarnings.T16.2 spec_JoinWarnings.B16 = true := by kernel_rfl
def spec_JoinWarnings.T18 : Bool × List (List Nat × List Nat) := (true, [([], []), ([], []), ([], []), ([1, 2], [1, 2]), ([0, 3], [0, 3]), ([], []), ([], []), ([6], [6]), ([5, 7], [5, 7]), ([4, 8, 4], [4, 8]), ([9, 9, 0, 1, 2, 3, 4, 5, 6, 7, 8, 9], [1, 5, 9])])
def spec_JoinWarnings.B18 : List Nat := [0, 0, 0, 6, 15, 0, 0, 64, 224, 511, 1023]
theorem spec_JoinWarnings.tab18 : rtab .any (opsOf Try.f45 18) = spec_JoinWarnings.T18 := by kernel_rfl
theorem spec_JoinWarnings.bits18 : waitsOk spec_JoinWarnings.T18.2 spec_JoinWarnings.B18 = true := by kernel_rfl
set_option maxHeartbeats 8000000 in
set_option maxRecDepth 100000 in
theorem spec_JoinWarnings.calls (k : Nat) (A0 : Option Addr) (c0 : Nat) (l0 : List (S31)) (r1 : List (S31)) (r2 : Bool) (w : World) (hr0 : Kd.C k31 w A0 l0.length l0) (hc0 : l0.length ≤ c0) (h : spec_JoinWarnings.f k l0 = some (r1, r2)) :
  Calls Try.prog 45 #[.slice A0 l0.length c0] w fun e w' => ∃ v0_ : Value, e = .returned (.tuple #[v0_, .bool r2]) ∧ Kd.R k31 31 w' w.heap.size (fun _ => True) v0_ r1 ∧ Below w.heap.size w w' := by
 have hu31 := Try.underlying31
 have HR0 := Aside0.mk hr0
 have HC0 := Aside0.mk hc0
 clear hr0 hc0
 have HB := Aside0.mk (Below.refl w.heap.size w)
 have H : ((spec_l14List.f k l0).bind fun t936 => (if t936 = true then ((some (([] : List (S31)) : List (S31))).bind fun y940 => (if y940.length + l0.length < 2932031007402 then (spec_JoinWarnings.l0 k (y940 ++ l0) true) else (none))) else (some ((([] : List (S31))), false)))) = some (r1, r2) := h
 clear h
 replace H := Option.bind_eq_some_iff.mp H
 obtain ⟨t936, A20, H⟩ := H
 replace H : (if t936 = true then ((some (([] : List (S31)) : List (S31))).bind fun y940 => (if y940.length + l0.length < 2932031007402 then (spec_JoinWarnings.l0 k (y940 ++ l0) true) else (none))) else (some ((([] : List (S31))), false))) = some (r1, r2) := H
 have A2 := Aside0.mk A20
 clear A20
 by_cases c3 : t936 = true
 case neg =>
  replace c3 := Bool.eq_false_iff.mpr c3
  subst c3
  have H1 : (some ((([] : List (S31))), false)) = some (r1, r2) := by rw [if_neg (show ¬ (false = true) by decide)] at H; exact H
  clear H
  have H := H1
  clear H1
  obtain ⟨y937, hy937⟩ : ∃ y_ : List (S31), y_ = (([] : List (S31))) := ⟨_, rfl⟩
  replace H : (some (y937, false)) = some (r1, r2) := zqH hy937 H
  have Ny937 := Aside0.mk hy937
  clear hy937
  simp only [Option.some.injEq, Prod.mk.injEq] at H
  obtain ⟨rfl, rfl⟩ := H
  go_enter Try.func45, Try.ntmps45
  go_wp2_with (first | ((with_reducible refine gate_callee (f := 63) rfl ?_); refine goesL_ (some 10) rfl rfl Try.func63 (by kernel_rfl) rfl #[.slice A0 l0.length c0] rfl zq1 ?_; (with_reducible refine (spec_l14List.calls k _ _ l0 false _ ?side1 ?side2 A2.out).mono ?_); (case side1 => exact zqC HR0.out); (case side2 => exact HC0.out); rintro e w63 ⟨rfl, hb⟩; refine ⟨_, rfl, ?_⟩; have n0_ := Aside0.mk (below_step zq0 hb); clear HB; have HB := n0_; clear n0_; (try clear hb); (try clear hb2); (try clear hk); (try clear hi)) | ((with_reducible refine gate_dst (N := 12) rfl ?_); refine Kd.R_lit k31 _ 31 ?hg (N := 12) ?hd (xs := ([] : List (S31))) (inner := []) (ok := fun _ => True) (okp := fun _ => True) ?hr ?hp (fun _ hk => hk) trivial (Below.refl _ _) (Nat.le_refl _) (by simp) ?_; (case hd => rfl); (case hg => rfl); (case hr => exact zqS); (case hp => exact (Reps.none _ _)); intro v938 w64 ho65 hb hg_ hnew_; clear hg_ hnew_; (first | rw [← Ny937.out] at ho65 | (simp only [Int.reduceToNat] at ho65; rw [← Ny937.out] at ho65)); have n0_ := Aside0.mk (Kd.R_lower ho65 (below_size zq0)); have n1_ := Aside0.mk (below_step zq0 hb); clear HB; have HO939 := n0_; have HB := n1_; clear n0_ n1_; clear hb ho65))
  go_ret2
  exact ⟨_, by first | rfl | (simp [errW_none, errW_some] <;> rfl) | (simp [*, errW_none, errW_some] <;> rfl), zqR HO939.out, zq0⟩
 subst c3
 have H1 : ((some (([] : List (S31)) : List (S31))).bind fun y940 => (if y940.length + l0.length < 2932031007402 then (spec_JoinWarnings.l0 k (y940 ++ l0) true) else (none))) = some (r1, r2) := by rw [if_pos rfl] at H; exact H
 clear H
 have H := H1
 clear H1
 obtain ⟨y940, hy940⟩ : ∃ y_ : List (S31), y_ = (([] : List (S31))) := ⟨_, rfl⟩
 replace H : (if y940.length + l0.length < 2932031007402 then (spec_JoinWarnings.l0 k (y940 ++ l0) true) else (none)) = some (r1, r2) := zqH hy940 H
 have Ny940 := Aside0.mk hy940
 clear hy940
 by_cases c4 : y940.length + l0.length < 2932031007402
 case neg =>
  rw [if_neg c4] at H
  exact absurd H (by simp)
 rw [if_pos c4] at H
 have LMc4 := Aside0.mk c4
 clear c4
 obtain ⟨y943, hy943⟩ : ∃ y_ : List (S31), y_ = (y940 ++ l0) := ⟨_, rfl⟩
 replace H : (spec_JoinWarnings.l0 k y943 true) = some (r1, r2) := zqH hy943 H
 have Ny943 := Aside0.mk hy943
 clear hy943
 have H' := Aside0.mk H
 clear H
 go_enter Try.func45, Try.ntmps45
 go_wp2_with (first | ((with_reducible refine gate_callee (f := 63) rfl ?_); refine goesL_ (some 10) rfl rfl Try.func63 (by kernel_rfl) rfl #[.slice A0 l0.length c0] rfl zq1 ?_; (with_reducible refine (spec_l14List.calls k _ _ l0 true _ ?side1 ?side2 A2.out).mono ?_); (case side1 => exact zqC HR0.out); (case side2 => exact HC0.out); rintro e w5 ⟨rfl, hb⟩; refine ⟨_, rfl, ?_⟩; have n0_ := Aside0.mk (below_step zq0 hb); clear HB; have HB := n0_; clear n0_; (try clear hb); (try clear hb2); (try clear hk); (try clear hi)) | ((with_reducible refine gate_dst (N := 13) rfl ?_); refine Kd.R_lit k31 _ 31 ?hg (N := 13) ?hd (xs := ([] : List (S31))) (inner := []) (ok := fun _ => True) (okp := fun _ => True) ?hr ?hp (fun _ hk => hk) trivial (Below.refl _ _) (Nat.le_refl _) (by simp) ?_; (case hd => rfl); (case hg => rfl); (case hr => exact zqS); (case hp => exact (Reps.none _ _)); intro v941 w6 ho7 hb hg_ hnew_; clear hg_ hnew_; (first | rw [← Ny940.out] at ho7 | (simp only [Int.reduceToNat] at ho7; rw [← Ny940.out] at ho7)); have n0_ := Aside0.mk (Kd.R_lower ho7 (below_size zq0)); have n1_ := Aside0.mk (below_step zq0 hb); clear HB; have HO942 := n0_; have HB := n1_; clear n0_ n1_; clear hb ho7) | ((with_reducible refine gate_builtin (b := .append) (xs := #[.tmp 13, .tmp 14]) rfl ?_); at_builtin; refine Kd.R_append_rows k31 (w0 := w) w.heap.size rfl (.tmp 13) (.tmp 14) 24 31 (.agg #[(.int .i64 0), (.int .i64 0), (.int .i64 0), (.int .i64 0), (.int .i64 0), (.int .i64 0)]) 48 rfl Try.underlying24 info31 rfl (by decide) (by omega) v941 y940 l0 _ _ _ (fun _ => True) (fun _ => False) rfl rfl ?aO ?aR (fun _ _ h => h) (fun _ h => h.elim) ?aF ?aB ?aS ?aL ?_; (case aR => exact zqC (Kd.C_below HR0.out HB.out)); (case aB => exact zq0); (case aF => exact (fun _ _ => trivial)); (case aO => exact (zqR HO942.out)); (case aS => exact (below_size zq0)); (case aL => have := LMc4.out; omega); intro v944 w8 ho hb hg hat; rw [← Ny943.out] at ho; have n0_ := Aside0.mk (hb); have n1_ := Aside0.mk (ho); clear HB; clear HO942; have HB := n0_; have HO945 := n1_; clear n0_ n1_; clear ho hb hg hat))
 go_loopg [4, 5] k (fun kq v4 v5 w' => ∃ (x4_1 : List (S31)) (x5_1 : Bool), v5 = .bool x5_1 ∧ Aside0 (spec_JoinWarnings.l0 kq x4_1 x5_1 = some (r1, r2)) ∧ Aside0 (kq ≤ k) ∧ Aside0 (Kd.R k31 31 w' w.heap.size (fun _ => True) v4 x4_1) ∧ Aside0 (Below w.heap.size w w'))
 case atStart => exact ⟨(y943), (true), (by first | rfl | (simp; done) | (simp [*]; done)), H', ⟨Nat.le_refl _⟩, ⟨zqR HO945.out⟩, ⟨zq0⟩⟩
 clear H'
 try clear p2
 try clear c3
 try clear c4
 try clear c6
 obtain ⟨x4_1, x5_1, rfl, HA, HK1, HO_4, HB⟩ := hrel
 cases gk with
 | zero => exact absurd HA.out (by simp [spec_JoinWarnings.l0])
 | succ k1 =>
  have H := HA.out
  clear HA
  simp only [spec_JoinWarnings.l0] at H
  by_cases c9 : x5_1 = true
  case neg =>
   replace c9 := Bool.eq_false_iff.mpr c9
   subst c9
   have H1 : (some (x4_1, true)) = some (r1, r2) := by rw [if_neg (show ¬ (false = true) by decide)] at H; exact H
   clear H
   have H := H1
   clear H1
   simp only [Option.some.injEq, Prod.mk.injEq] at H
   obtain ⟨rfl, rfl⟩ := H
   go_wp2
   go_ret2
   exact ⟨_, by first | rfl | (simp [errW_none, errW_some] <;> rfl) | (simp [*, errW_none, errW_some] <;> rfl), zqR HO_4.out, zq0⟩
  subst c9
  have H1 : (spec_JoinWarnings.l1 k1 x4_1 false 0) = some (r1, r2) := by rw [if_pos rfl] at H; exact H
  clear H
  have H := H1
  clear H1
  have H' := Aside0.mk H
  clear H
  go_wp2
  go_loopg [4, 5, 6] k1 (fun kq v4 v5 v6 w' => ∃ (x4_2 : List (S31)) (x5_2 : Bool) (x6_2 : Int), v5 = .bool x5_2 ∧ v6 = .int .i64 x6_2 ∧ Aside0 (spec_JoinWarnings.l1 kq x4_2 x5_2 x6_2 = some (r1, r2)) ∧ Aside0 (kq ≤ k1) ∧ Aside0 (Kd.R k31 31 w' w.heap.size (fun _ => True) v4 x4_2) ∧ Aside0 (Below w.heap.size w w'))
  case atStart => exact ⟨(x4_1), (false), (0), (by first | rfl | (simp; done) | (simp [*]; done)), (by first | rfl | (simp; done) | (simp [*]; done)), H', ⟨Nat.le_refl _⟩, ⟨zqR HO_4.out⟩, ⟨zq0⟩⟩
  clear H'
  try clear p2
  try clear c3
  try clear c4
  try clear c6
  try clear c9
  try clear p2
  obtain ⟨x4_2, x5_2, x6_2, rfl, rfl, HA, HK2, HO_4, HB⟩ := hrel
  cases gk with
  | zero => exact absurd HA.out (by simp [spec_JoinWarnings.l1])
  | succ k2 =>
   have H := HA.out
   clear HA
   simp only [spec_JoinWarnings.l1] at H
   have HC10 := Aside0.mk H
   clear H
   go_upto_region 8 with (fail)
   go_cut [24] (fun v24 wc => ∃ (kq : Nat) (x24_9 : Bool), v24 = .bool x24_9 ∧ Aside0 (spec_JoinWarnings.j2 kq x4_2 x5_2 x6_2 x24_9 = some (r1, r2)) ∧ Aside0 (kq ≤ k2) ∧ Aside0 (Kd.R k31 31 wc w.heap.size (fun _ => True) u4 x4_2) ∧ Aside0 (Below w.heap.size w wc))
   case first =>
    have H := HC10.out
    clear HC10
    by_cases c11 : x6_2 < (x4_2.length : Int)
    case neg =>
     rw [if_neg c11] at H
     have c11b0 : decide (x6_2 < (x4_2.length : Int)) = false := decide_eq_false c11
     clear c11
     (first | rw [c11b0] | (simp only [i64_w, i32_w]; rw [c11b0]) | skip)
     have H' := Aside0.mk H
     clear H
     obtain ⟨Ao13, co13, eo13⟩ := Kd.R_slice HO_4.out
     subst eo13
     go_wp2
     go_meet
     case rel => exact ⟨_, (false), (by first | rfl | (simp; done) | (simp [*]; done)), H', ⟨by have := HK1.out; have := HK2.out; first | omega | exact Nat.le_refl _⟩, ⟨zqR HO_4.out⟩, ⟨zq0⟩⟩
    rw [if_pos c11] at H
    have c11b0 : decide (x6_2 < (x4_2.length : Int)) = true := decide_eq_true c11
    clear c11
    (first | rw [c11b0] | (simp only [i64_w, i32_w]; rw [c11b0]) | skip)
    have H' := Aside0.mk H
    clear H
    obtain ⟨Ao12, co12, eo12⟩ := Kd.R_slice HO_4.out
    subst eo12
    go_wp2
    go_meet
    case rel => exact ⟨_, (!x5_2), (by first | rfl | (simp; done) | (simp [*]; done)), H', ⟨by have := HK1.out; have := HK2.out; first | omega | exact Nat.le_refl _⟩, ⟨zqR HO_4.out⟩, ⟨zq0⟩⟩
   clear HC10
   try clear c1
   try clear p2
   try clear c3
   try clear c4
   try clear c6
   try clear c9
   try clear c11
   try clear c11b0
   try clear p2
   obtain ⟨kq, x24_9, rfl, HA, HJ9, HO_4, HB⟩ := hcut
   cases kq with
   | zero => exact absurd HA.out (by simp [spec_JoinWarnings.j2])
   | succ kj9 =>
    have H := HA.out
    clear HA
    simp only [spec_JoinWarnings.j2] at H
    by_cases c14 : x24_9 = true
    case neg =>
     replace c14 := Bool.eq_false_iff.mpr c14
     subst c14
     have H1 : (spec_JoinWarnings.l0 kj9 x4_2 x5_2) = some (r1, r2) := by rw [if_neg (show ¬ (false = true) by decide)] at H; exact H
     clear H
     have H := H1
     clear H1
     have H' := Aside0.mk H
     clear H
     go_wp2
     go_roundg kj9
     case measure => have := HK1.out; have := HK2.out; have := HJ9.out; omega
     case rel => exact ⟨(x4_2), (x5_2), (by first | rfl | (simp; done) | (simp [*]; done)), H', ⟨by have := HK1.out; have := HK2.out; have := HJ9.out; omega⟩, ⟨zqR HO_4.out⟩, ⟨zq0⟩⟩
    subst c14
    have H1 : (spec_JoinWarnings.l2 kj9 x4_2 x5_2 x6_2 (wrap64 (x6_2 + 1))) = some (r1, r2) := by rw [if_pos rfl] at H; exact H
    clear H
    have H := H1
    clear H1
    have H' := Aside0.mk H
    clear H
    go_wp2
    go_loopg [4, 5, 7] kj9 (fun kq v4 v5 v7 w' => ∃ (x4_4 : List (S31)) (x5_4 : Bool) (x7_4 : Int), v5 = .bool x5_4 ∧ v7 = .int .i64 x7_4 ∧ Aside0 (spec_JoinWarnings.l2 kq x4_4 x5_4 x6_2 x7_4 = some (r1, r2)) ∧ Aside0 (kq ≤ kj9) ∧ Aside0 (Kd.R k31 31 w' w.heap.size (fun _ => True) v4 x4_4) ∧ Aside0 (Below w.heap.size w w'))
    case atStart => exact ⟨(x4_2), (x5_2), (wrap64 (x6_2 + 1)), (by first | rfl | (simp; done) | (simp [*]; done)), (by first | rfl | (simp; done) | (simp [*]; done)), H', ⟨Nat.le_refl _⟩, ⟨zqR HO_4.out⟩, ⟨zq0⟩⟩
    clear H'
    try clear c1
    try clear p2
    try clear c3
    try clear c4
    try clear c6
    try clear p6
    try clear c9
    try clear c11
    try clear c11b0
    try clear c14
    try clear p2
    obtain ⟨x4_4, x5_4, x7_4, rfl, rfl, HA, HK4, HO_4, HB⟩ := hrel
    cases gk with
    | zero => exact absurd HA.out (by simp [spec_JoinWarnings.l2])
    | succ k4 =>
     have H := HA.out
     clear HA
     simp only [spec_JoinWarnings.l2] at H
     have HC15 := Aside0.mk H
     clear H
     go_upto_region 11 with (fail)
     go_cut [36] (fun v36 wc => ∃ (kq : Nat) (x36_14 : Bool), v36 = .bool x36_14 ∧ Aside0 (spec_JoinWarnings.j4 kq x4_4 x5_4 x6_2 x7_4 x36_14 = some (r1, r2)) ∧ Aside0 (kq ≤ k4) ∧ Aside0 (Kd.R k31 31 wc w.heap.size (fun _ => True) u4 x4_4) ∧ Aside0 (Below w.heap.size w wc))
     case first =>
      have H := HC15.out
      clear HC15
      by_cases c16 : x7_4 < (x4_4.length : Int)
      case neg =>
       rw [if_neg c16] at H
       have c16b0 : decide (x7_4 < (x4_4.length : Int)) = false := decide_eq_false c16
       clear c16
       (first | rw [c16b0] | (simp only [i64_w, i32_w]; rw [c16b0]) | skip)
       have H' := Aside0.mk H
       clear H
       obtain ⟨Ao18, co18, eo18⟩ := Kd.R_slice HO_4.out
       subst eo18
       go_wp2
       go_meet
       case rel => exact ⟨_, (false), (by first | rfl | (simp; done) | (simp [*]; done)), H', ⟨by have := HK1.out; have := HK2.out; have := HJ9.out; have := HK4.out; first | omega | exact Nat.le_refl _⟩, ⟨zqR HO_4.out⟩, ⟨zq0⟩⟩
      rw [if_pos c16] at H
      have c16b0 : decide (x7_4 < (x4_4.length : Int)) = true := decide_eq_true c16
      clear c16
      (first | rw [c16b0] | (simp only [i64_w, i32_w]; rw [c16b0]) | skip)
      have H' := Aside0.mk H
      clear H
      obtain ⟨Ao17, co17, eo17⟩ := Kd.R_slice HO_4.out
      subst eo17
      go_wp2
      go_meet
      case rel => exact ⟨_, (!x5_4), (by first | rfl | (simp; done) | (simp [*]; done)), H', ⟨by have := HK1.out; have := HK2.out; have := HJ9.out; have := HK4.out; first | omega | exact Nat.le_refl _⟩, ⟨zqR HO_4.out⟩, ⟨zq0⟩⟩
     clear HC15
     try clear c1
     try clear p2
     try clear c3
     try clear c4
     try clear c6
     try clear p6
     try clear c9
     try clear c11
     try clear c11b0
     try clear c14
     try clear c16
     try clear c16b0
     try clear p2
     try clear p6
     obtain ⟨kq, x36_14, rfl, HA, HJ14, HO_4, HB⟩ := hcut
     cases kq with
     | zero => exact absurd HA.out (by simp [spec_JoinWarnings.j4])
     | succ kj14 =>
      have H := HA.out
      clear HA
      simp only [spec_JoinWarnings.j4] at H
      by_cases c19 : x36_14 = true
      case neg =>
       replace c19 := Bool.eq_false_iff.mpr c19
       subst c19
       have H1 : (spec_JoinWarnings.l1 kj14 x4_4 x5_4 (wrap64 (x6_2 + 1))) = some (r1, r2) := by rw [if_neg (show ¬ (false = true) by decide)] at H; exact H
       clear H
       have H := H1
       clear H1
       have H' := Aside0.mk H
       clear H
       go_wp2
       go_roundg kj14
       case measure => have := HK1.out; have := HK2.out; have := HJ9.out; have := HK4.out; have := HJ14.out; omega
       case rel => exact ⟨(x4_4), (x5_4), (wrap64 (x6_2 + 1)), (by first | rfl | (simp; done) | (simp [*]; done)), (by first | rfl | (simp; done) | (simp [*]; done)), H', ⟨by have := HK1.out; have := HK2.out; have := HJ9.out; have := HK4.out; have := HJ14.out; omega⟩, ⟨zqR HO_4.out⟩, ⟨zq0⟩⟩
      subst c19
      have H1 : (if 0 ≤ x6_2 then (if x6_2 < (x4_4.length : Int) then (if 0 ≤ x7_4 then (if x7_4 < (x4_4.length : Int) then ((spec_l15Joins.f ((rd_T31 x4_4 x6_2).f0) ((rd_T31 x4_4 x6_2).f1) ((rd_T31 x4_4 x6_2).f2) ((rd_T31 x4_4 x6_2).f3) ((rd_T31 x4_4 x6_2).f4) ((rd_T31 x4_4 x6_2).f5) ((rd_T31 x4_4 x7_4).f0) ((rd_T31 x4_4 x7_4).f1) ((rd_T31 x4_4 x7_4).f2) ((rd_T31 x4_4 x7_4).f3) ((rd_T31 x4_4 x7_4).f4) ((rd_T31 x4_4 x7_4).f5)).bind fun t948 => (if t948 = true then ((spec_l1Least.f ((rd_T31 x4_4 x6_2).f4) ((rd_T31 x4_4 x7_4).f4)).bind fun t953 => ((spec_l1Most.f ((rd_T31 x4_4 x6_2).f5) ((rd_T31 x4_4 x7_4).f5)).bind fun t956 => ((some (x4_4.set (x6_2 : Int).toNat (⟨(rd_T31 x4_4 x6_2).f0, (rd_T31 x4_4 x6_2).f1, (rd_T31 x4_4 x6_2).f2, (rd_T31 x4_4 x6_2).f3, t953, t956⟩ : S31) : List (S31))).bind fun y957 => ((some (([] : List (S31)) : List (S31))).bind fun y958 => (if x7_4 ≤ (x4_4.length : Int) then ((some (y957.take (x7_4 : Int).toNat : List (S31))).bind fun y961 => (if y958.length + y961.length < 2932031007402 then ((some (y958 ++ y961 : List (S31))).bind fun y965 => (if 0 ≤ (wrap64 (x7_4 + 1)) then (if (wrap64 (x7_4 + 1)) ≤ (x4_4.length : Int) then ((some (y957.drop ((wrap64 (x7_4 + 1)) : Int).toNat : List (S31))).bind fun y968 => (if y965.length + y968.length < 2932031007402 then (spec_JoinWarnings.l2 kj14 (y965 ++ y968) true x6_2 (wrap64 (x7_4 + 1))) else (none))) else (none)) else (none))) else (none))) else (none)))))) else (spec_JoinWarnings.l2 kj14 x4_4 x5_4 x6_2 (wrap64 (x7_4 + 1))))) else (none)) else (none)) else (none)) else (none)) = some (r1, r2) := by rw [if_pos rfl] at H; exact H
      clear H
      have H := H1
      clear H1
      by_cases c20 : 0 ≤ x6_2
      case neg =>
       rw [if_neg c20] at H
       exact absurd H (by simp)
      rw [if_pos c20] at H
      have c20b0 : decide (0 ≤ x6_2) = true := decide_eq_true c20
      clear c20
      by_cases c21 : x6_2 < (x4_4.length : Int)
      case neg =>
       rw [if_neg c21] at H
       exact absurd H (by simp)
      rw [if_pos c21] at H
      have c21b0 : decide (x6_2 < (x4_4.length : Int)) = true := decide_eq_true c21
      clear c21
      by_cases c22 : 0 ≤ x7_4
      case neg =>
       rw [if_neg c22] at H
       exact absurd H (by simp)
      rw [if_pos c22] at H
      have c22b0 : decide (0 ≤ x7_4) = true := decide_eq_true c22
      clear c22
      by_cases c23 : x7_4 < (x4_4.length : Int)
      case neg =>
       rw [if_neg c23] at H
       exact absurd H (by simp)
      rw [if_pos c23] at H
      have c23b0 : decide (x7_4 < (x4_4.length : Int)) = true := decide_eq_true c23
      clear c23
      replace H := Option.bind_eq_some_iff.mp H
      obtain ⟨t948, A240, H⟩ := H
      replace H : (if t948 = true then ((spec_l1Least.f ((rd_T31 x4_4 x6_2).f4) ((rd_T31 x4_4 x7_4).f4)).bind fun t953 => ((spec_l1Most.f ((rd_T31 x4_4 x6_2).f5) ((rd_T31 x4_4 x7_4).f5)).bind fun t956 => ((some (x4_4.set (x6_2 : Int).toNat (⟨(rd_T31 x4_4 x6_2).f0, (rd_T31 x4_4 x6_2).f1, (rd_T31 x4_4 x6_2).f2, (rd_T31 x4_4 x6_2).f3, t953, t956⟩ : S31) : List (S31))).bind fun y957 => ((some (([] : List (S31)) : List (S31))).bind fun y958 => (if x7_4 ≤ (x4_4.length : Int) then ((some (y957.take (x7_4 : Int).toNat : List (S31))).bind fun y961 => (if y958.length + y961.length < 2932031007402 then ((some (y958 ++ y961 : List (S31))).bind fun y965 => (if 0 ≤ (wrap64 (x7_4 + 1)) then (if (wrap64 (x7_4 + 1)) ≤ (x4_4.length : Int) then ((some (y957.drop ((wrap64 (x7_4 + 1)) : Int).toNat : List (S31))).bind fun y968 => (if y965.length + y968.length < 2932031007402 then (spec_JoinWarnings.l2 kj14 (y965 ++ y968) true x6_2 (wrap64 (x7_4 + 1))) else (none))) else (none)) else (none))) else (none))) else (none)))))) else (spec_JoinWarnings.l2 kj14 x4_4 x5_4 x6_2 (wrap64 (x7_4 + 1)))) = some (r1, r2) := H
      have A24 := Aside0.mk A240
      clear A240
      by_cases c25 : t948 = true
      case neg =>
       replace c25 := Bool.eq_false_iff.mpr c25
       subst c25
       have H1 : (spec_JoinWarnings.l2 kj14 x4_4 x5_4 x6_2 (wrap64 (x7_4 + 1))) = some (r1, r2) := by rw [if_neg (show ¬ (false = true) by decide)] at H; exact H
       clear H
       have H := H1
       clear H1
       have H' := Aside0.mk H
       clear H
       try go_wp2
       have n0_ := Aside0.mk (Kd.R_drew HO_4.out)
       have n1_ := Aside0.mk (below_drew1 HB.out)
       clear HO_4
       clear HB
       have HO_4 := n0_
       have HB := n1_
       clear n0_ n1_
       obtain ⟨Ao61, co61, eo61⟩ := Kd.R_slice HO_4.out
       (first | subst eo61 | (injection eo61 with f1_ f2_ f3_; have f4_ := f1_.symm; have f5_ := f3_.symm; clear f1_ f2_ f3_; subst f4_; subst f5_))
       have p946 : 0 ≤ (x6_2 : Int) := of_decide_eq_true zq5
       have q946 : x6_2 < (x4_4.length : Int) := of_decide_eq_true zq5
       obtain ⟨ad946, e946, hx946_0, hx946_1, hx946_2, hx946_3, hx946_4, hx946_5⟩ := at_T31 (Kd.R_reads' HO_4.out).2.2 x6_2 p946 q946
       cases e946
       replace p946 := eq_true p946
       replace q946 := eq_true q946
       have p947 : 0 ≤ (x7_4 : Int) := of_decide_eq_true zq5
       have q947 : x7_4 < (x4_4.length : Int) := of_decide_eq_true zq5
       obtain ⟨ad947, e947, hx947_0, hx947_1, hx947_2, hx947_3, hx947_4, hx947_5⟩ := at_T31 (Kd.R_reads' HO_4.out).2.2 x7_4 p947 q947
       obtain rfl : ad946 = ad947 := (by injection e947)
       replace p947 := eq_true p947
       replace q947 := eq_true q947
       refine start_ (n := 10) (S := fun w' => w'.cell? (ad946.add ((x6_2).toNat * 6)) = some (.int .i64 ((rd_T31 x4_4 x6_2).f0)) ∧ w'.cell? ⟨(ad946.add ((x6_2).toNat * 6)).block, (ad946.add ((x6_2).toNat * 6)).off + 1, none⟩ = some (.int .i64 ((rd_T31 x4_4 x6_2).f1)) ∧ w'.cell? ⟨(ad946.add ((x6_2).toNat * 6)).block, (ad946.add ((x6_2).toNat * 6)).off + 2, none⟩ = some (.int .i64 ((rd_T31 x4_4 x6_2).f2)) ∧ w'.cell? ⟨(ad946.add ((x6_2).toNat * 6)).block, (ad946.add ((x6_2).toNat * 6)).off + 3, none⟩ = some (.int .i64 ((rd_T31 x4_4 x6_2).f3)) ∧ w'.cell? ⟨(ad946.add ((x6_2).toNat * 6)).block, (ad946.add ((x6_2).toNat * 6)).off + 4, none⟩ = some (.int .i64 ((rd_T31 x4_4 x6_2).f4)) ∧ w'.cell? ⟨(ad946.add ((x6_2).toNat * 6)).block, (ad946.add ((x6_2).toNat * 6)).off + 5, none⟩ = some (.int .i64 ((rd_T31 x4_4 x6_2).f5)) ∧ w'.cell? (ad946.add ((x7_4).toNat * 6)) = some (.int .i64 ((rd_T31 x4_4 x7_4).f0)) ∧ w'.cell? ⟨(ad946.add ((x7_4).toNat * 6)).block, (ad946.add ((x7_4).toNat * 6)).off + 1, none⟩ = some (.int .i64 ((rd_T31 x4_4 x7_4).f1)) ∧ w'.cell? ⟨(ad946.add ((x7_4).toNat * 6)).block, (ad946.add ((x7_4).toNat * 6)).off + 2, none⟩ = some (.int .i64 ((rd_T31 x4_4 x7_4).f2)) ∧ w'.cell? ⟨(ad946.add ((x7_4).toNat * 6)).block, (ad946.add ((x7_4).toNat * 6)).off + 3, none⟩ = some (.int .i64 ((rd_T31 x4_4 x7_4).f3)) ∧ w'.cell? ⟨(ad946.add ((x7_4).toNat * 6)).block, (ad946.add ((x7_4).toNat * 6)).off + 4, none⟩ = some (.int .i64 ((rd_T31 x4_4 x7_4).f4)) ∧ w'.cell? ⟨(ad946.add ((x7_4).toNat * 6)).block, (ad946.add ((x7_4).toNat * 6)).off + 5, none⟩ = some (.int .i64 ((rd_T31 x4_4 x7_4).f5))) (ds := []) #[false, false, false, false, false, false, false, false, false, false] (by kernel_rfl) rfl rfl ⟨hx946_0, hx946_1, hx946_2, hx946_3, hx946_4, hx946_5, hx947_0, hx947_1, hx947_2, hx947_3, hx947_4, hx947_5⟩ (fun hHeld => ?_); refine with_tabW spec_JoinWarnings.tab13 spec_JoinWarnings.bits13 (fun HT_ HW_ => ?_)
       generalize wc.drew = w60 at HO_4 HB hx946_0 hx946_1 hx946_2 hx946_3 hx946_4 hx946_5 hx947_0 hx947_1 hx947_2 hx947_3 hx947_4 hx947_5 hHeld ⊢
       refine pure_ (i := 0) (N := some 39) (v := ?_) (a' := ?_) #[true, false, false, false, false, false, false, false, false, false] rfl rfl (any_of HT_.out (by kernel_rfl)) (fun _ _ _ h => h) (Or.inl ⟨by rfl, ?_⟩) ?_ ?_
       rotate_left; · exact zqB
       rotate_left; · exact zqA
       refine pure_ (i := 1) (N := some 40) (v := ?_) (a' := ?_) #[true, true, false, false, false, false, false, false, false, false] rfl rfl (any_of HT_.out (by kernel_rfl)) (fun _ _ _ h => h) (Or.inl ⟨by rfl, ?_⟩) ?_ ?_
       rotate_left; · exact zqB
       rotate_left; · exact zqA
       refine pure_ (i := 2) (N := some 41) (v := ?_) (a' := ?_) #[true, true, true, false, false, false, false, false, false, false] rfl rfl (any_of HT_.out (by kernel_rfl)) (fun _ _ _ h => h) (Or.inl ⟨by rfl, ?_⟩) ?_ ?_
       rotate_left; · exact zqB
       rotate_left; · exact zqA
       refine pure_ (i := 4) (N := some 43) (v := ?_) (a' := ?_) #[true, true, true, false, true, false, false, false, false, false] rfl rfl (any_of HT_.out (by kernel_rfl)) (fun _ _ _ h => h) (Or.inl ⟨by rfl, ?_⟩) ?_ ?_
       rotate_left; · exact zqB
       rotate_left; · exact zqA
       refine pure_ (i := 5) (N := some 44) (v := ?_) (a' := ?_) #[true, true, true, false, true, true, false, false, false, false] rfl rfl (any_of HT_.out (by kernel_rfl)) (fun _ _ _ h => h) (Or.inl ⟨by rfl, ?_⟩) ?_ ?_
       rotate_left; · exact zqB
       rotate_left; · exact zqA
       refine pure_ (i := 6) (N := some 45) (v := ?_) (a' := ?_) #[true, true, true, false, true, true, true, false, false, false] rfl rfl (any_of HT_.out (by kernel_rfl)) (fun _ _ _ h => h) (Or.inl ⟨by rfl, ?_⟩) ?_ ?_
       rotate_left; · exact zqB
       rotate_left; · exact zqA
       refine take_ (i := 3) (N := some 42) (v := ?_) (a' := ?_) #[true, true, true, true, true, true, true, false, false, false] rfl rfl (take_ofW HT_.out HW_.out (by kernel_rfl)) (fun _ _ _ h => h) (Or.inl ⟨by rfl, ?_⟩) hHeld ?_ ?_
       rotate_left
       ·
        rintro w' ⟨s0, s1, s2, s3, s4, s5, s6, s7, s8, s9, s10, s11⟩
        go_simp
        with_reducible rfl
       rotate_left; · exact zqA
       refine take_ (i := 7) (N := some 46) (v := ?_) (a' := ?_) #[true, true, true, true, true, true, true, true, false, false] rfl rfl (take_ofW HT_.out HW_.out (by kernel_rfl)) (fun _ _ _ h => h) (Or.inl ⟨by rfl, ?_⟩) hHeld ?_ ?_
       rotate_left
       ·
        rintro w' ⟨s0, s1, s2, s3, s4, s5, s6, s7, s8, s9, s10, s11⟩
        go_simp
        with_reducible rfl
       rotate_left; · exact zqA
       refine one_ (i := 8) (N := some 47) #[true, true, true, true, true, true, true, true, true, false] rfl rfl (one_of HT_.out (by kernel_rfl)) (by decide) (fun K hK => ?_)
       refine goes_ Try.func94 (by kernel_rfl) rfl #[.agg #[.int .i64 ((rd_T31 x4_4 x6_2).f0), .int .i64 ((rd_T31 x4_4 x6_2).f1), .int .i64 ((rd_T31 x4_4 x6_2).f2), .int .i64 ((rd_T31 x4_4 x6_2).f3), .int .i64 ((rd_T31 x4_4 x6_2).f4), .int .i64 ((rd_T31 x4_4 x6_2).f5)], .agg #[.int .i64 ((rd_T31 x4_4 x7_4).f0), .int .i64 ((rd_T31 x4_4 x7_4).f1), .int .i64 ((rd_T31 x4_4 x7_4).f2), .int .i64 ((rd_T31 x4_4 x7_4).f3), .int .i64 ((rd_T31 x4_4 x7_4).f4), .int .i64 ((rd_T31 x4_4 x7_4).f5)]] (by rfl) rfl rfl zq1 ?_
       with_reducible refine (spec_l15Joins.calls ((rd_T31 x4_4 x6_2).f0) ((rd_T31 x4_4 x6_2).f1) ((rd_T31 x4_4 x6_2).f2) ((rd_T31 x4_4 x6_2).f3) ((rd_T31 x4_4 x6_2).f4) ((rd_T31 x4_4 x6_2).f5) ((rd_T31 x4_4 x7_4).f0) ((rd_T31 x4_4 x7_4).f1) ((rd_T31 x4_4 x7_4).f2) ((rd_T31 x4_4 x7_4).f3) ((rd_T31 x4_4 x7_4).f4) ((rd_T31 x4_4 x7_4).f5) false _ A24.out).mono ?_
       rintro e w62 ⟨rfl, hb⟩
       have HS0_ := (hb.cell (World.block_lt_of_cell? _ _ (hHeld.1))).trans (hHeld.1)
       have HS1_ := (hb.cell (World.block_lt_of_cell? _ _ (hHeld.2.1))).trans (hHeld.2.1)
       have HS2_ := (hb.cell (World.block_lt_of_cell? _ _ (hHeld.2.2.1))).trans (hHeld.2.2.1)
       have HS3_ := (hb.cell (World.block_lt_of_cell? _ _ (hHeld.2.2.2.1))).trans (hHeld.2.2.2.1)
       have HS4_ := (hb.cell (World.block_lt_of_cell? _ _ (hHeld.2.2.2.2.1))).trans (hHeld.2.2.2.2.1)
       have HS5_ := (hb.cell (World.block_lt_of_cell? _ _ (hHeld.2.2.2.2.2.1))).trans (hHeld.2.2.2.2.2.1)
       have HS6_ := (hb.cell (World.block_lt_of_cell? _ _ (hHeld.2.2.2.2.2.2.1))).trans (hHeld.2.2.2.2.2.2.1)
       have HS7_ := (hb.cell (World.block_lt_of_cell? _ _ (hHeld.2.2.2.2.2.2.2.1))).trans (hHeld.2.2.2.2.2.2.2.1)
       have HS8_ := (hb.cell (World.block_lt_of_cell? _ _ (hHeld.2.2.2.2.2.2.2.2.1))).trans (hHeld.2.2.2.2.2.2.2.2.1)
       have HS9_ := (hb.cell (World.block_lt_of_cell? _ _ (hHeld.2.2.2.2.2.2.2.2.2.1))).trans (hHeld.2.2.2.2.2.2.2.2.2.1)
       have HS10_ := (hb.cell (World.block_lt_of_cell? _ _ (hHeld.2.2.2.2.2.2.2.2.2.2.1))).trans (hHeld.2.2.2.2.2.2.2.2.2.2.1)
       have HS11_ := (hb.cell (World.block_lt_of_cell? _ _ (hHeld.2.2.2.2.2.2.2.2.2.2.2))).trans (hHeld.2.2.2.2.2.2.2.2.2.2.2)
       refine ⟨_, rfl, ?_⟩
       have n0_ := Aside0.mk (Kd.R_below (zqR HO_4.out) hb)
       have n1_ := Aside0.mk (below_step zq0 hb)
       clear HO_4
       clear HB
       have HO_4 := n0_
       have HB := n1_
       clear n0_ n1_
       (try clear hb)
       (try clear hb2)
       (try clear hk)
       (try clear hi)
       refine hK.out _ _ ⟨HS0_, HS1_, HS2_, HS3_, HS4_, HS5_, HS6_, HS7_, HS8_, HS9_, HS10_, HS11_⟩ (fun hHeld => ?_)
       clear hK K
       refine norm_ (a' := ?_) ?_ ?_
       rotate_left
       ·
        show Act.put _ (some 47) _ = _
        simp only [Act.put, List.setIfInBounds_toArray, List.set_cons_zero, List.set_cons_succ, i64_w, i32_w]
        rfl
       refine pure_ (i := 9) (N := some 48) (v := ?_) (a' := ?_) #[true, true, true, true, true, true, true, true, true, true] rfl rfl (any_of HT_.out (by kernel_rfl)) (fun _ _ _ h => h) (Or.inl ⟨by rfl, ?_⟩) ?_ ?_
       rotate_left; · exact zqB
       rotate_left; · exact zqA
       refine done_ (done_of HT_.out (by kernel_rfl)) ?_
       try go_wp2
       go_roundg kj14
       case measure => have := HK1.out; have := HK2.out; have := HJ9.out; have := HK4.out; have := HJ14.out; omega
       case rel => exact ⟨(x4_4), (x5_4), (wrap64 (x7_4 + 1)), (by first | rfl | (simp; done) | (simp [*]; done)), (by first | rfl | (simp; done) | (simp [*]; done)), H', ⟨by have := HK1.out; have := HK2.out; have := HJ9.out; have := HK4.out; have := HJ14.out; omega⟩, ⟨zqR HO_4.out⟩, ⟨zq0⟩⟩
      subst c25
      have H1 : ((spec_l1Least.f ((rd_T31 x4_4 x6_2).f4) ((rd_T31 x4_4 x7_4).f4)).bind fun t953 => ((spec_l1Most.f ((rd_T31 x4_4 x6_2).f5) ((rd_T31 x4_4 x7_4).f5)).bind fun t956 => ((some (x4_4.set (x6_2 : Int).toNat (⟨(rd_T31 x4_4 x6_2).f0, (rd_T31 x4_4 x6_2).f1, (rd_T31 x4_4 x6_2).f2, (rd_T31 x4_4 x6_2).f3, t953, t956⟩ : S31) : List (S31))).bind fun y957 => ((some (([] : List (S31)) : List (S31))).bind fun y958 => (if x7_4 ≤ (x4_4.length : Int) then ((some (y957.take (x7_4 : Int).toNat : List (S31))).bind fun y961 => (if y958.length + y961.length < 2932031007402 then ((some (y958 ++ y961 : List (S31))).bind fun y965 => (if 0 ≤ (wrap64 (x7_4 + 1)) then (if (wrap64 (x7_4 + 1)) ≤ (x4_4.length : Int) then ((some (y957.drop ((wrap64 (x7_4 + 1)) : Int).toNat : List (S31))).bind fun y968 => (if y965.length + y968.length < 2932031007402 then (spec_JoinWarnings.l2 kj14 (y965 ++ y968) true x6_2 (wrap64 (x7_4 + 1))) else (none))) else (none)) else (none))) else (none))) else (none)))))) = some (r1, r2) := by rw [if_pos rfl] at H; exact H
      clear H
      have H := H1
      clear H1
      replace H := Option.bind_eq_some_iff.mp H
      obtain ⟨t953, A260, H⟩ := H
      replace H : ((spec_l1Most.f ((rd_T31 x4_4 x6_2).f5) ((rd_T31 x4_4 x7_4).f5)).bind fun t956 => ((some (x4_4.set (x6_2 : Int).toNat (⟨(rd_T31 x4_4 x6_2).f0, (rd_T31 x4_4 x6_2).f1, (rd_T31 x4_4 x6_2).f2, (rd_T31 x4_4 x6_2).f3, t953, t956⟩ : S31) : List (S31))).bind fun y957 => ((some (([] : List (S31)) : List (S31))).bind fun y958 => (if x7_4 ≤ (x4_4.length : Int) then ((some (y957.take (x7_4 : Int).toNat : List (S31))).bind fun y961 => (if y958.length + y961.length < 2932031007402 then ((some (y958 ++ y961 : List (S31))).bind fun y965 => (if 0 ≤ (wrap64 (x7_4 + 1)) then (if (wrap64 (x7_4 + 1)) ≤ (x4_4.length : Int) then ((some (y957.drop ((wrap64 (x7_4 + 1)) : Int).toNat : List (S31))).bind fun y968 => (if y965.length + y968.length < 2932031007402 then (spec_JoinWarnings.l2 kj14 (y965 ++ y968) true x6_2 (wrap64 (x7_4 + 1))) else (none))) else (none)) else (none))) else (none))) else (none))))) = some (r1, r2) := H
      have A26 := Aside0.mk A260
      clear A260
      replace H := Option.bind_eq_some_iff.mp H
      obtain ⟨t956, A270, H⟩ := H
      replace H : ((some (x4_4.set (x6_2 : Int).toNat (⟨(rd_T31 x4_4 x6_2).f0, (rd_T31 x4_4 x6_2).f1, (rd_T31 x4_4 x6_2).f2, (rd_T31 x4_4 x6_2).f3, t953, t956⟩ : S31) : List (S31))).bind fun y957 => ((some (([] : List (S31)) : List (S31))).bind fun y958 => (if x7_4 ≤ (x4_4.length : Int) then ((some (y957.take (x7_4 : Int).toNat : List (S31))).bind fun y961 => (if y958.length + y961.length < 2932031007402 then ((some (y958 ++ y961 : List (S31))).bind fun y965 => (if 0 ≤ (wrap64 (x7_4 + 1)) then (if (wrap64 (x7_4 + 1)) ≤ (x4_4.length : Int) then ((some (y957.drop ((wrap64 (x7_4 + 1)) : Int).toNat : List (S31))).bind fun y968 => (if y965.length + y968.length < 2932031007402 then (spec_JoinWarnings.l2 kj14 (y965 ++ y968) true x6_2 (wrap64 (x7_4 + 1))) else (none))) else (none)) else (none))) else (none))) else (none)))) = some (r1, r2) := H
      have A27 := Aside0.mk A270
      clear A270
      obtain ⟨y957, hy957⟩ : ∃ y_ : List (S31), y_ = (x4_4.set (x6_2 : Int).toNat (⟨(rd_T31 x4_4 x6_2).f0, (rd_T31 x4_4 x6_2).f1, (rd_T31 x4_4 x6_2).f2, (rd_T31 x4_4 x6_2).f3, t953, t956⟩ : S31)) := ⟨_, rfl⟩
      replace H : ((some (([] : List (S31)) : List (S31))).bind fun y958 => (if x7_4 ≤ (x4_4.length : Int) then ((some (y957.take (x7_4 : Int).toNat : List (S31))).bind fun y961 => (if y958.length + y961.length < 2932031007402 then ((some (y958 ++ y961 : List (S31))).bind fun y965 => (if 0 ≤ (wrap64 (x7_4 + 1)) then (if (wrap64 (x7_4 + 1)) ≤ (x4_4.length : Int) then ((some (y957.drop ((wrap64 (x7_4 + 1)) : Int).toNat : List (S31))).bind fun y968 => (if y965.length + y968.length < 2932031007402 then (spec_JoinWarnings.l2 kj14 (y965 ++ y968) true x6_2 (wrap64 (x7_4 + 1))) else (none))) else (none)) else (none))) else (none))) else (none))) = some (r1, r2) := zqH hy957 H
      have Ny957 := Aside0.mk hy957
      clear hy957
      obtain ⟨y958, hy958⟩ : ∃ y_ : List (S31), y_ = (([] : List (S31))) := ⟨_, rfl⟩
      replace H : (if x7_4 ≤ (x4_4.length : Int) then ((some (y957.take (x7_4 : Int).toNat : List (S31))).bind fun y961 => (if y958.length + y961.length < 2932031007402 then ((some (y958 ++ y961 : List (S31))).bind fun y965 => (if 0 ≤ (wrap64 (x7_4 + 1)) then (if (wrap64 (x7_4 + 1)) ≤ (x4_4.length : Int) then ((some (y957.drop ((wrap64 (x7_4 + 1)) : Int).toNat : List (S31))).bind fun y968 => (if y965.length + y968.length < 2932031007402 then (spec_JoinWarnings.l2 kj14 (y965 ++ y968) true x6_2 (wrap64 (x7_4 + 1))) else (none))) else (none)) else (none))) else (none))) else (none)) = some (r1, r2) := zqH hy958 H
      have Ny958 := Aside0.mk hy958
      clear hy958
      have c29b0 := eq_true (of_decide_eq_true zq5 : 0 ≤ x7_4)
      by_cases c30 : x7_4 ≤ (x4_4.length : Int)
      case neg =>
       rw [if_neg c30] at H
       exact absurd H (by simp)
      rw [if_pos c30] at H
      have c30b0 := eq_true c30
      have c30b1 : decide (x7_4 ≤ (x4_4.length : Int)) = true := decide_eq_true c30
      clear c30
      obtain ⟨y961, hy961⟩ : ∃ y_ : List (S31), y_ = (y957.take (x7_4 : Int).toNat) := ⟨_, rfl⟩
      replace H : (if y958.length + y961.length < 2932031007402 then ((some (y958 ++ y961 : List (S31))).bind fun y965 => (if 0 ≤ (wrap64 (x7_4 + 1)) then (if (wrap64 (x7_4 + 1)) ≤ (x4_4.length : Int) then ((some (y957.drop ((wrap64 (x7_4 + 1)) : Int).toNat : List (S31))).bind fun y968 => (if y965.length + y968.length < 2932031007402 then (spec_JoinWarnings.l2 kj14 (y965 ++ y968) true x6_2 (wrap64 (x7_4 + 1))) else (none))) else (none)) else (none))) else (none)) = some (r1, r2) := zqH hy961 H
      have Ny961 := Aside0.mk hy961
      clear hy961
      by_cases c31 : y958.length + y961.length < 2932031007402
      case neg =>
       rw [if_neg c31] at H
       exact absurd H (by simp)
      rw [if_pos c31] at H
      have LMc31 := Aside0.mk c31
      clear c31
      obtain ⟨y965, hy965⟩ : ∃ y_ : List (S31), y_ = (y958 ++ y961) := ⟨_, rfl⟩
      replace H : (if 0 ≤ (wrap64 (x7_4 + 1)) then (if (wrap64 (x7_4 + 1)) ≤ (x4_4.length : Int) then ((some (y957.drop ((wrap64 (x7_4 + 1)) : Int).toNat : List (S31))).bind fun y968 => (if y965.length + y968.length < 2932031007402 then (spec_JoinWarnings.l2 kj14 (y965 ++ y968) true x6_2 (wrap64 (x7_4 + 1))) else (none))) else (none)) else (none)) = some (r1, r2) := zqH hy965 H
      have Ny965 := Aside0.mk hy965
      clear hy965
      obtain ⟨ji32, hji32⟩ : ∃ j_ : Int, (wrap64 (x7_4 + 1)) = j_ := ⟨_, rfl⟩
      replace H : (if 0 ≤ (ji32) then (if (ji32) ≤ (x4_4.length : Int) then ((some (y957.drop ((ji32) : Int).toNat : List (S31))).bind fun y968 => (if y965.length + y968.length < 2932031007402 then (spec_JoinWarnings.l2 kj14 (y965 ++ y968) true x6_2 ji32) else (none))) else (none)) else (none)) = some (r1, r2) := by first | (rw [hji32] at H; exact H) | (simp only [hji32] at H ⊢; exact H)
      (try rw [hji32] at A24)
      (try rw [hji32] at A26)
      (try rw [hji32] at A27)
      have hji32w : (IntKind.i64.wrap (x7_4 + 1)) = ji32 := (i64_w _).trans hji32
      by_cases c33 : 0 ≤ (ji32)
      case neg =>
       rw [if_neg c33] at H
       exact absurd H (by simp)
      rw [if_pos c33] at H
      have c33b0 := eq_true c33
      have c33b1 : decide (0 ≤ (ji32)) = true := decide_eq_true c33
      clear c33
      by_cases c34 : (ji32) ≤ (x4_4.length : Int)
      case neg =>
       rw [if_neg c34] at H
       exact absurd H (by simp)
      rw [if_pos c34] at H
      have c34b0 := eq_true c34
      have c34b1 : decide ((ji32) ≤ (x4_4.length : Int)) = true := decide_eq_true c34
      clear c34
      obtain ⟨y968, hy968⟩ : ∃ y_ : List (S31), y_ = (y957.drop ((ji32) : Int).toNat) := ⟨_, rfl⟩
      replace H : (if y965.length + y968.length < 2932031007402 then (spec_JoinWarnings.l2 kj14 (y965 ++ y968) true x6_2 ji32) else (none)) = some (r1, r2) := zqH hy968 H
      have Ny968 := Aside0.mk hy968
      clear hy968
      by_cases c35 : y965.length + y968.length < 2932031007402
      case neg =>
       rw [if_neg c35] at H
       exact absurd H (by simp)
      rw [if_pos c35] at H
      have LMc35 := Aside0.mk c35
      clear c35
      obtain ⟨y972, hy972⟩ : ∃ y_ : List (S31), y_ = (y965 ++ y968) := ⟨_, rfl⟩
      replace H : (spec_JoinWarnings.l2 kj14 y972 true x6_2 ji32) = some (r1, r2) := zqH hy972 H
      have Ny972 := Aside0.mk hy972
      clear hy972
      have H' := Aside0.mk H
      clear H
      try go_wp2
      have n0_ := Aside0.mk (Kd.R_drew HO_4.out)
      have n1_ := Aside0.mk (below_drew1 HB.out)
      clear HO_4
      clear HB
      have HO_4 := n0_
      have HB := n1_
      clear n0_ n1_
      obtain ⟨Ao37, co37, eo37⟩ := Kd.R_slice HO_4.out
      (first | subst eo37 | (injection eo37 with f1_ f2_ f3_; have f4_ := f1_.symm; have f5_ := f3_.symm; clear f1_ f2_ f3_; subst f4_; subst f5_))
      have p946 : 0 ≤ (x6_2 : Int) := of_decide_eq_true zq5
      have q946 : x6_2 < (x4_4.length : Int) := of_decide_eq_true zq5
      obtain ⟨ad946, e946, hx946_0, hx946_1, hx946_2, hx946_3, hx946_4, hx946_5⟩ := at_T31 (Kd.R_reads' HO_4.out).2.2 x6_2 p946 q946
      cases e946
      replace p946 := eq_true p946
      replace q946 := eq_true q946
      have p947 : 0 ≤ (x7_4 : Int) := of_decide_eq_true zq5
      have q947 : x7_4 < (x4_4.length : Int) := of_decide_eq_true zq5
      obtain ⟨ad947, e947, hx947_0, hx947_1, hx947_2, hx947_3, hx947_4, hx947_5⟩ := at_T31 (Kd.R_reads' HO_4.out).2.2 x7_4 p947 q947
      obtain rfl : ad946 = ad947 := (by injection e947)
      replace p947 := eq_true p947
      replace q947 := eq_true q947
      refine start_ (n := 10) (S := fun w' => w'.cell? (ad946.add ((x6_2).toNat * 6)) = some (.int .i64 ((rd_T31 x4_4 x6_2).f0)) ∧ w'.cell? ⟨(ad946.add ((x6_2).toNat * 6)).block, (ad946.add ((x6_2).toNat * 6)).off + 1, none⟩ = some (.int .i64 ((rd_T31 x4_4 x6_2).f1)) ∧ w'.cell? ⟨(ad946.add ((x6_2).toNat * 6)).block, (ad946.add ((x6_2).toNat * 6)).off + 2, none⟩ = some (.int .i64 ((rd_T31 x4_4 x6_2).f2)) ∧ w'.cell? ⟨(ad946.add ((x6_2).toNat * 6)).block, (ad946.add ((x6_2).toNat * 6)).off + 3, none⟩ = some (.int .i64 ((rd_T31 x4_4 x6_2).f3)) ∧ w'.cell? ⟨(ad946.add ((x6_2).toNat * 6)).block, (ad946.add ((x6_2).toNat * 6)).off + 4, none⟩ = some (.int .i64 ((rd_T31 x4_4 x6_2).f4)) ∧ w'.cell? ⟨(ad946.add ((x6_2).toNat * 6)).block, (ad946.add ((x6_2).toNat * 6)).off + 5, none⟩ = some (.int .i64 ((rd_T31 x4_4 x6_2).f5)) ∧ w'.cell? (ad946.add ((x7_4).toNat * 6)) = some (.int .i64 ((rd_T31 x4_4 x7_4).f0)) ∧ w'.cell? ⟨(ad946.add ((x7_4).toNat * 6)).block, (ad946.add ((x7_4).toNat * 6)).off + 1, none⟩ = some (.int .i64 ((rd_T31 x4_4 x7_4).f1)) ∧ w'.cell? ⟨(ad946.add ((x7_4).toNat * 6)).block, (ad946.add ((x7_4).toNat * 6)).off + 2, none⟩ = some (.int .i64 ((rd_T31 x4_4 x7_4).f2)) ∧ w'.cell? ⟨(ad946.add ((x7_4).toNat * 6)).block, (ad946.add ((x7_4).toNat * 6)).off + 3, none⟩ = some (.int .i64 ((rd_T31 x4_4 x7_4).f3)) ∧ w'.cell? ⟨(ad946.add ((x7_4).toNat * 6)).block, (ad946.add ((x7_4).toNat * 6)).off + 4, none⟩ = some (.int .i64 ((rd_T31 x4_4 x7_4).f4)) ∧ w'.cell? ⟨(ad946.add ((x7_4).toNat * 6)).block, (ad946.add ((x7_4).toNat * 6)).off + 5, none⟩ = some (.int .i64 ((rd_T31 x4_4 x7_4).f5))) (ds := []) #[false, false, false, false, false, false, false, false, false, false] (by kernel_rfl) rfl rfl ⟨hx946_0, hx946_1, hx946_2, hx946_3, hx946_4, hx946_5, hx947_0, hx947_1, hx947_2, hx947_3, hx947_4, hx947_5⟩ (fun hHeld => ?_); refine with_tabW spec_JoinWarnings.tab13 spec_JoinWarnings.bits13 (fun HT_ HW_ => ?_)
      generalize wc.drew = w36 at HO_4 HB hx946_0 hx946_1 hx946_2 hx946_3 hx946_4 hx946_5 hx947_0 hx947_1 hx947_2 hx947_3 hx947_4 hx947_5 hHeld ⊢
      refine pure_ (i := 0) (N := some 39) (v := ?_) (a' := ?_) #[true, false, false, false, false, false, false, false, false, false] rfl rfl (any_of HT_.out (by kernel_rfl)) (fun _ _ _ h => h) (Or.inl ⟨by rfl, ?_⟩) ?_ ?_
      rotate_left; · exact zqB
      rotate_left; · exact zqA
      refine pure_ (i := 1) (N := some 40) (v := ?_) (a' := ?_) #[true, true, false, false, false, false, false, false, false, false] rfl rfl (any_of HT_.out (by kernel_rfl)) (fun _ _ _ h => h) (Or.inl ⟨by rfl, ?_⟩) ?_ ?_
      rotate_left; · exact zqB
      rotate_left; · exact zqA
      refine pure_ (i := 2) (N := some 41) (v := ?_) (a' := ?_) #[true, true, true, false, false, false, false, false, false, false] rfl rfl (any_of HT_.out (by kernel_rfl)) (fun _ _ _ h => h) (Or.inl ⟨by rfl, ?_⟩) ?_ ?_
      rotate_left; · exact zqB
      rotate_left; · exact zqA
      refine pure_ (i := 4) (N := some 43) (v := ?_) (a' := ?_) #[true, true, true, false, true, false, false, false, false, false] rfl rfl (any_of HT_.out (by kernel_rfl)) (fun _ _ _ h => h) (Or.inl ⟨by rfl, ?_⟩) ?_ ?_
      rotate_left; · exact zqB
      rotate_left; · exact zqA
      refine pure_ (i := 5) (N := some 44) (v := ?_) (a' := ?_) #[true, true, true, false, true, true, false, false, false, false] rfl rfl (any_of HT_.out (by kernel_rfl)) (fun _ _ _ h => h) (Or.inl ⟨by rfl, ?_⟩) ?_ ?_
      rotate_left; · exact zqB
      rotate_left; · exact zqA
      refine pure_ (i := 6) (N := some 45) (v := ?_) (a' := ?_) #[true, true, true, false, true, true, true, false, false, false] rfl rfl (any_of HT_.out (by kernel_rfl)) (fun _ _ _ h => h) (Or.inl ⟨by rfl, ?_⟩) ?_ ?_
      rotate_left; · exact zqB
      rotate_left; · exact zqA
      refine take_ (i := 3) (N := some 42) (v := ?_) (a' := ?_) #[true, true, true, true, true, true, true, false, false, false] rfl rfl (take_ofW HT_.out HW_.out (by kernel_rfl)) (fun _ _ _ h => h) (Or.inl ⟨by rfl, ?_⟩) hHeld ?_ ?_
      rotate_left
      ·
       rintro w' ⟨s0, s1, s2, s3, s4, s5, s6, s7, s8, s9, s10, s11⟩
       go_simp
       with_reducible rfl
      rotate_left; · exact zqA
      refine take_ (i := 7) (N := some 46) (v := ?_) (a' := ?_) #[true, true, true, true, true, true, true, true, false, false] rfl rfl (take_ofW HT_.out HW_.out (by kernel_rfl)) (fun _ _ _ h => h) (Or.inl ⟨by rfl, ?_⟩) hHeld ?_ ?_
      rotate_left
      ·
       rintro w' ⟨s0, s1, s2, s3, s4, s5, s6, s7, s8, s9, s10, s11⟩
       go_simp
       with_reducible rfl
      rotate_left; · exact zqA
      refine one_ (i := 8) (N := some 47) #[true, true, true, true, true, true, true, true, true, false] rfl rfl (one_of HT_.out (by kernel_rfl)) (by decide) (fun K hK => ?_)
      refine goes_ Try.func94 (by kernel_rfl) rfl #[.agg #[.int .i64 ((rd_T31 x4_4 x6_2).f0), .int .i64 ((rd_T31 x4_4 x6_2).f1), .int .i64 ((rd_T31 x4_4 x6_2).f2), .int .i64 ((rd_T31 x4_4 x6_2).f3), .int .i64 ((rd_T31 x4_4 x6_2).f4), .int .i64 ((rd_T31 x4_4 x6_2).f5)], .agg #[.int .i64 ((rd_T31 x4_4 x7_4).f0), .int .i64 ((rd_T31 x4_4 x7_4).f1), .int .i64 ((rd_T31 x4_4 x7_4).f2), .int .i64 ((rd_T31 x4_4 x7_4).f3), .int .i64 ((rd_T31 x4_4 x7_4).f4), .int .i64 ((rd_T31 x4_4 x7_4).f5)]] (by rfl) rfl rfl zq1 ?_
      with_reducible refine (spec_l15Joins.calls ((rd_T31 x4_4 x6_2).f0) ((rd_T31 x4_4 x6_2).f1) ((rd_T31 x4_4 x6_2).f2) ((rd_T31 x4_4 x6_2).f3) ((rd_T31 x4_4 x6_2).f4) ((rd_T31 x4_4 x6_2).f5) ((rd_T31 x4_4 x7_4).f0) ((rd_T31 x4_4 x7_4).f1) ((rd_T31 x4_4 x7_4).f2) ((rd_T31 x4_4 x7_4).f3) ((rd_T31 x4_4 x7_4).f4) ((rd_T31 x4_4 x7_4).f5) true _ A24.out).mono ?_
      rintro e w38 ⟨rfl, hb⟩
      have HS0_ := (hb.cell (World.block_lt_of_cell? _ _ (hHeld.1))).trans (hHeld.1)
      have HS1_ := (hb.cell (World.block_lt_of_cell? _ _ (hHeld.2.1))).trans (hHeld.2.1)
      have HS2_ := (hb.cell (World.block_lt_of_cell? _ _ (hHeld.2.2.1))).trans (hHeld.2.2.1)
      have HS3_ := (hb.cell (World.block_lt_of_cell? _ _ (hHeld.2.2.2.1))).trans (hHeld.2.2.2.1)
      have HS4_ := (hb.cell (World.block_lt_of_cell? _ _ (hHeld.2.2.2.2.1))).trans (hHeld.2.2.2.2.1)
      have HS5_ := (hb.cell (World.block_lt_of_cell? _ _ (hHeld.2.2.2.2.2.1))).trans (hHeld.2.2.2.2.2.1)
      have HS6_ := (hb.cell (World.block_lt_of_cell? _ _ (hHeld.2.2.2.2.2.2.1))).trans (hHeld.2.2.2.2.2.2.1)
      have HS7_ := (hb.cell (World.block_lt_of_cell? _ _ (hHeld.2.2.2.2.2.2.2.1))).trans (hHeld.2.2.2.2.2.2.2.1)
      have HS8_ := (hb.cell (World.block_lt_of_cell? _ _ (hHeld.2.2.2.2.2.2.2.2.1))).trans (hHeld.2.2.2.2.2.2.2.2.1)
      have HS9_ := (hb.cell (World.block_lt_of_cell? _ _ (hHeld.2.2.2.2.2.2.2.2.2.1))).trans (hHeld.2.2.2.2.2.2.2.2.2.1)
      have HS10_ := (hb.cell (World.block_lt_of_cell? _ _ (hHeld.2.2.2.2.2.2.2.2.2.2.1))).trans (hHeld.2.2.2.2.2.2.2.2.2.2.1)
      have HS11_ := (hb.cell (World.block_lt_of_cell? _ _ (hHeld.2.2.2.2.2.2.2.2.2.2.2))).trans (hHeld.2.2.2.2.2.2.2.2.2.2.2)
      refine ⟨_, rfl, ?_⟩
      have n0_ := Aside0.mk (Kd.R_below (zqR HO_4.out) hb)
      have n1_ := Aside0.mk (below_step zq0 hb)
      clear HO_4
      clear HB
      have HO_4 := n0_
      have HB := n1_
      clear n0_ n1_
      (try clear hb)
      (try clear hb2)
      (try clear hk)
      (try clear hi)
      refine hK.out _ _ ⟨HS0_, HS1_, HS2_, HS3_, HS4_, HS5_, HS6_, HS7_, HS8_, HS9_, HS10_, HS11_⟩ (fun hHeld => ?_)
      clear hK K
      refine norm_ (a' := ?_) ?_ ?_
      rotate_left
      ·
       show Act.put _ (some 47) _ = _
       simp only [Act.put, List.setIfInBounds_toArray, List.set_cons_zero, List.set_cons_succ, i64_w, i32_w]
       rfl
      refine pure_ (i := 9) (N := some 48) (v := ?_) (a' := ?_) #[true, true, true, true, true, true, true, true, true, true] rfl rfl (any_of HT_.out (by kernel_rfl)) (fun _ _ _ h => h) (Or.inl ⟨by rfl, ?_⟩) ?_ ?_
      rotate_left; · exact zqB
      rotate_left; · exact zqA
      refine done_ (done_of HT_.out (by kernel_rfl)) ?_
      have p949 : 0 ≤ (x6_2 : Int) := of_decide_eq_true zq5
      have q949 : x6_2 < (x4_4.length : Int) := of_decide_eq_true zq5
      obtain ⟨ad949, e949, hx949_0, hx949_1, hx949_2, hx949_3, hx949_4, hx949_5⟩ := at_T31 (Kd.R_reads' HO_4.out).2.2 x6_2 p949 q949
      obtain rfl : ad946 = ad949 := (by injection e949)
      replace p949 := eq_true p949
      replace q949 := eq_true q949
      try go_wp2_with (first | ((with_reducible refine gate_dst (N := 8) rfl ?_); refine box_event ?hg (N := 8) ?hd (cs := #[.int .i64 0, .int .i64 0, .int .i64 0, .int .i64 0, .int .i64 0, .int .i64 0]) (t := 31) ?hr ?_; (case hd => rfl); (case hg => rfl); (case hr => exact zqS); intro gb950 hg w39 hbox hb; have n0_ := Aside0.mk (Kd.R_below (Kd.R_elderB (zqR HO_4.out) gb950 (Nat.le_of_eq hg.symm)) hb); have n1_ := Aside0.mk (below_step zq0 hb); have n2_ := Aside0.mk (hbox); have n3_ := Aside0.mk ((by rw [hg]; exact (below_size zq0) : w.heap.size ≤ gb950)); have n4_ := n3_; clear HO_4; clear HB; have HO_4 := n0_; have HB := n1_; have BK950 := n2_; have GW950 := n3_; have GE950 := n4_; clear n0_ n1_ n2_ n3_ n4_; clear hb hbox hg; obtain ⟨hcz40_0, hcz40_1, hcz40_2, hcz40_3, hcz40_4, hcz40_5, hfz40_0, hfz40_1, hfz40_2, hfz40_3, hfz40_4, hfz40_5⟩ := bz6 BK950.out))
      have n0_ : Aside0 (Kd.R k31 31 ((((((w39.setCell ⟨gb950, 0, none⟩ (.int .i64 ((rd_T31 x4_4 x6_2).f0))).setCell ⟨gb950, 1, none⟩ (.int .i64 ((rd_T31 x4_4 x6_2).f1))).setCell ⟨gb950, 2, none⟩ (.int .i64 ((rd_T31 x4_4 x6_2).f2))).setCell ⟨gb950, 3, none⟩ (.int .i64 ((rd_T31 x4_4 x6_2).f3))).setCell ⟨gb950, 4, none⟩ (.int .i64 ((rd_T31 x4_4 x6_2).f4))).setCell ⟨gb950, 5, none⟩ (.int .i64 ((rd_T31 x4_4 x6_2).f5))) w.heap.size (fun k_ => k_ ≠ gb950) (.slice (some ad946) x4_4.length co37) x4_4) := ⟨by (with_reducible repeat (first | apply Kd.R_alloc | apply Kd.R_drewN | apply Kd.R_drew)); exact Kd.R_mono (Kd.R_far (p := ⟨gb950, 5, none⟩) (Kd.R_far (p := ⟨gb950, 4, none⟩) (Kd.R_far (p := ⟨gb950, 3, none⟩) (Kd.R_far (p := ⟨gb950, 2, none⟩) (Kd.R_far (p := ⟨gb950, 1, none⟩) (Kd.R_far (p := ⟨gb950, 0, none⟩) (Kd.R_mono HO_4.out (fun k_ hk => (⟨hk, hk.2⟩ : _ ∧ k_ ≠ gb950))) (fun _ hk => hk.2) (.int .i64 ((rd_T31 x4_4 x6_2).f0))) (fun _ hk => hk.2) (.int .i64 ((rd_T31 x4_4 x6_2).f1))) (fun _ hk => hk.2) (.int .i64 ((rd_T31 x4_4 x6_2).f2))) (fun _ hk => hk.2) (.int .i64 ((rd_T31 x4_4 x6_2).f3))) (fun _ hk => hk.2) (.int .i64 ((rd_T31 x4_4 x6_2).f4))) (fun _ hk => hk.2) (.int .i64 ((rd_T31 x4_4 x6_2).f5))) (fun _ hk => hk.1.2)⟩
      have n1_ : Aside0 (((((((w39.setCell ⟨gb950, 0, none⟩ (.int .i64 ((rd_T31 x4_4 x6_2).f0))).setCell ⟨gb950, 1, none⟩ (.int .i64 ((rd_T31 x4_4 x6_2).f1))).setCell ⟨gb950, 2, none⟩ (.int .i64 ((rd_T31 x4_4 x6_2).f2))).setCell ⟨gb950, 3, none⟩ (.int .i64 ((rd_T31 x4_4 x6_2).f3))).setCell ⟨gb950, 4, none⟩ (.int .i64 ((rd_T31 x4_4 x6_2).f4))).setCell ⟨gb950, 5, none⟩ (.int .i64 ((rd_T31 x4_4 x6_2).f5))).heap[gb950]? = some (.cells #[.int .i64 ((rd_T31 x4_4 x6_2).f0), .int .i64 ((rd_T31 x4_4 x6_2).f1), .int .i64 ((rd_T31 x4_4 x6_2).f2), .int .i64 ((rd_T31 x4_4 x6_2).f3), .int .i64 ((rd_T31 x4_4 x6_2).f4), .int .i64 ((rd_T31 x4_4 x6_2).f5)] 31 (0, 0))) := ⟨by (with_reducible repeat (first | refine blk_drewN ?_ _ | refine blk_drew ?_ | refine blk_alloc ?_ _)); refine blk_put (cs := #[.int .i64 ((rd_T31 x4_4 x6_2).f0), .int .i64 ((rd_T31 x4_4 x6_2).f1), .int .i64 ((rd_T31 x4_4 x6_2).f2), .int .i64 ((rd_T31 x4_4 x6_2).f3), .int .i64 ((rd_T31 x4_4 x6_2).f4), .int .i64 0]) ?_ 5 _ rfl; (with_reducible repeat (first | refine blk_drewN ?_ _ | refine blk_drew ?_ | refine blk_alloc ?_ _)); refine blk_put (cs := #[.int .i64 ((rd_T31 x4_4 x6_2).f0), .int .i64 ((rd_T31 x4_4 x6_2).f1), .int .i64 ((rd_T31 x4_4 x6_2).f2), .int .i64 ((rd_T31 x4_4 x6_2).f3), .int .i64 0, .int .i64 0]) ?_ 4 _ rfl; (with_reducible repeat (first | refine blk_drewN ?_ _ | refine blk_drew ?_ | refine blk_alloc ?_ _)); refine blk_put (cs := #[.int .i64 ((rd_T31 x4_4 x6_2).f0), .int .i64 ((rd_T31 x4_4 x6_2).f1), .int .i64 ((rd_T31 x4_4 x6_2).f2), .int .i64 0, .int .i64 0, .int .i64 0]) ?_ 3 _ rfl; (with_reducible repeat (first | refine blk_drewN ?_ _ | refine blk_drew ?_ | refine blk_alloc ?_ _)); refine blk_put (cs := #[.int .i64 ((rd_T31 x4_4 x6_2).f0), .int .i64 ((rd_T31 x4_4 x6_2).f1), .int .i64 0, .int .i64 0, .int .i64 0, .int .i64 0]) ?_ 2 _ rfl; (with_reducible repeat (first | refine blk_drewN ?_ _ | refine blk_drew ?_ | refine blk_alloc ?_ _)); refine blk_put (cs := #[.int .i64 ((rd_T31 x4_4 x6_2).f0), .int .i64 0, .int .i64 0, .int .i64 0, .int .i64 0, .int .i64 0]) ?_ 1 _ rfl; (with_reducible repeat (first | refine blk_drewN ?_ _ | refine blk_drew ?_ | refine blk_alloc ?_ _)); refine blk_put (cs := #[.int .i64 0, .int .i64 0, .int .i64 0, .int .i64 0, .int .i64 0, .int .i64 0]) ?_ 0 _ rfl; (with_reducible repeat (first | refine blk_drewN ?_ _ | refine blk_drew ?_ | refine blk_alloc ?_ _)); exact BK950.out⟩
      have n2_ : Aside0 (Below w.heap.size w ((((((w39.setCell ⟨gb950, 0, none⟩ (.int .i64 ((rd_T31 x4_4 x6_2).f0))).setCell ⟨gb950, 1, none⟩ (.int .i64 ((rd_T31 x4_4 x6_2).f1))).setCell ⟨gb950, 2, none⟩ (.int .i64 ((rd_T31 x4_4 x6_2).f2))).setCell ⟨gb950, 3, none⟩ (.int .i64 ((rd_T31 x4_4 x6_2).f3))).setCell ⟨gb950, 4, none⟩ (.int .i64 ((rd_T31 x4_4 x6_2).f4))).setCell ⟨gb950, 5, none⟩ (.int .i64 ((rd_T31 x4_4 x6_2).f5)))) := ⟨zq22⟩
      (try clear HO_4)
      (try clear BK950)
      (try clear HB)
      generalize ((((((w39.setCell ⟨gb950, 0, none⟩ (.int .i64 ((rd_T31 x4_4 x6_2).f0))).setCell ⟨gb950, 1, none⟩ (.int .i64 ((rd_T31 x4_4 x6_2).f1))).setCell ⟨gb950, 2, none⟩ (.int .i64 ((rd_T31 x4_4 x6_2).f2))).setCell ⟨gb950, 3, none⟩ (.int .i64 ((rd_T31 x4_4 x6_2).f3))).setCell ⟨gb950, 4, none⟩ (.int .i64 ((rd_T31 x4_4 x6_2).f4))).setCell ⟨gb950, 5, none⟩ (.int .i64 ((rd_T31 x4_4 x6_2).f5))) = w41 at n0_ n1_ n2_ ⊢
      have HO_4 := n0_
      have BK950 := n1_
      have HB := n2_
      clear n0_ n1_ n2_
      have n0_ := Aside0.mk (Kd.R_drew HO_4.out)
      have n1_ := Aside0.mk (blk_drew BK950.out)
      have n2_ := Aside0.mk (below_drew1 HB.out)
      clear HO_4
      clear BK950
      clear HB
      have HO_4 := n0_
      have BK950 := n1_
      have HB := n2_
      clear n0_ n1_ n2_
      have p951 : 0 ≤ (x6_2 : Int) := of_decide_eq_true zq5
      have q951 : x6_2 < (x4_4.length : Int) := of_decide_eq_true zq5
      obtain ⟨ad951, e951, hx951_0, hx951_1, hx951_2, hx951_3, hx951_4, hx951_5⟩ := at_T31 (Kd.R_reads' HO_4.out).2.2 x6_2 p951 q951
      obtain rfl : ad946 = ad951 := (by injection e951)
      replace p951 := eq_true p951
      replace q951 := eq_true q951
      have p952 : 0 ≤ (x7_4 : Int) := of_decide_eq_true zq5
      have q952 : x7_4 < (x4_4.length : Int) := of_decide_eq_true zq5
      obtain ⟨ad952, e952, hx952_0, hx952_1, hx952_2, hx952_3, hx952_4, hx952_5⟩ := at_T31 (Kd.R_reads' HO_4.out).2.2 x7_4 p952 q952
      obtain rfl : ad946 = ad952 := (by injection e952)
      replace p952 := eq_true p952
      replace q952 := eq_true q952
      refine start_ (n := 13) (S := fun w' => w'.cell? (ad946.add ((x6_2).toNat * 6)) = some (.int .i64 ((rd_T31 x4_4 x6_2).f0)) ∧ w'.cell? ⟨(ad946.add ((x6_2).toNat * 6)).block, (ad946.add ((x6_2).toNat * 6)).off + 1, none⟩ = some (.int .i64 ((rd_T31 x4_4 x6_2).f1)) ∧ w'.cell? ⟨(ad946.add ((x6_2).toNat * 6)).block, (ad946.add ((x6_2).toNat * 6)).off + 2, none⟩ = some (.int .i64 ((rd_T31 x4_4 x6_2).f2)) ∧ w'.cell? ⟨(ad946.add ((x6_2).toNat * 6)).block, (ad946.add ((x6_2).toNat * 6)).off + 3, none⟩ = some (.int .i64 ((rd_T31 x4_4 x6_2).f3)) ∧ w'.cell? ⟨(ad946.add ((x6_2).toNat * 6)).block, (ad946.add ((x6_2).toNat * 6)).off + 4, none⟩ = some (.int .i64 ((rd_T31 x4_4 x6_2).f4)) ∧ w'.cell? ⟨(ad946.add ((x6_2).toNat * 6)).block, (ad946.add ((x6_2).toNat * 6)).off + 5, none⟩ = some (.int .i64 ((rd_T31 x4_4 x6_2).f5)) ∧ w'.cell? (ad946.add ((x7_4).toNat * 6)) = some (.int .i64 ((rd_T31 x4_4 x7_4).f0)) ∧ w'.cell? ⟨(ad946.add ((x7_4).toNat * 6)).block, (ad946.add ((x7_4).toNat * 6)).off + 1, none⟩ = some (.int .i64 ((rd_T31 x4_4 x7_4).f1)) ∧ w'.cell? ⟨(ad946.add ((x7_4).toNat * 6)).block, (ad946.add ((x7_4).toNat * 6)).off + 2, none⟩ = some (.int .i64 ((rd_T31 x4_4 x7_4).f2)) ∧ w'.cell? ⟨(ad946.add ((x7_4).toNat * 6)).block, (ad946.add ((x7_4).toNat * 6)).off + 3, none⟩ = some (.int .i64 ((rd_T31 x4_4 x7_4).f3)) ∧ w'.cell? ⟨(ad946.add ((x7_4).toNat * 6)).block, (ad946.add ((x7_4).toNat * 6)).off + 4, none⟩ = some (.int .i64 ((rd_T31 x4_4 x7_4).f4)) ∧ w'.cell? ⟨(ad946.add ((x7_4).toNat * 6)).block, (ad946.add ((x7_4).toNat * 6)).off + 5, none⟩ = some (.int .i64 ((rd_T31 x4_4 x7_4).f5))) (ds := []) #[false, false, false, false, false, false, false, false, false, false, false, false, false] (by kernel_rfl) rfl rfl ⟨hx951_0, hx951_1, hx951_2, hx951_3, hx951_4, hx951_5, hx952_0, hx952_1, hx952_2, hx952_3, hx952_4, hx952_5⟩ (fun hHeld => ?_); refine with_tabW spec_JoinWarnings.tab15 spec_JoinWarnings.bits15 (fun HT_ HW_ => ?_)
      generalize w41.drew = w42 at HO_4 BK950 HB hx951_0 hx951_1 hx951_2 hx951_3 hx951_4 hx951_5 hx952_0 hx952_1 hx952_2 hx952_3 hx952_4 hx952_5 hHeld ⊢
      refine pure_ (i := 0) (N := some 53) (v := ?_) (a' := ?_) #[true, false, false, false, false, false, false, false, false, false, false, false, false] rfl rfl (any_of HT_.out (by kernel_rfl)) (fun _ _ _ h => h) (Or.inl ⟨by rfl, ?_⟩) ?_ ?_
      rotate_left; · exact zqB
      rotate_left; · exact zqA
      refine pure_ (i := 1) (N := some 54) (v := ?_) (a' := ?_) #[true, true, false, false, false, false, false, false, false, false, false, false, false] rfl rfl (any_of HT_.out (by kernel_rfl)) (fun _ _ _ h => h) (Or.inl ⟨by rfl, ?_⟩) ?_ ?_
      rotate_left; · exact zqB
      rotate_left; · exact zqA
      refine pure_ (i := 2) (N := some 55) (v := ?_) (a' := ?_) #[true, true, true, false, false, false, false, false, false, false, false, false, false] rfl rfl (any_of HT_.out (by kernel_rfl)) (fun _ _ _ h => h) (Or.inl ⟨by rfl, ?_⟩) ?_ ?_
      rotate_left; · exact zqB
      rotate_left; · exact zqA
      refine pure_ (i := 3) (N := some 56) (v := ?_) (a' := ?_) #[true, true, true, true, false, false, false, false, false, false, false, false, false] rfl rfl (any_of HT_.out (by kernel_rfl)) (fun _ _ _ h => h) (Or.inl ⟨by rfl, ?_⟩) ?_ ?_
      rotate_left; · exact zqB
      rotate_left; · exact zqA
      refine pure_ (i := 5) (N := some 58) (v := ?_) (a' := ?_) #[true, true, true, true, false, true, false, false, false, false, false, false, false] rfl rfl (any_of HT_.out (by kernel_rfl)) (fun _ _ _ h => h) (Or.inl ⟨by rfl, ?_⟩) ?_ ?_
      rotate_left; · exact zqB
      rotate_left; · exact zqA
      refine pure_ (i := 6) (N := some 59) (v := ?_) (a' := ?_) #[true, true, true, true, false, true, true, false, false, false, false, false, false] rfl rfl (any_of HT_.out (by kernel_rfl)) (fun _ _ _ h => h) (Or.inl ⟨by rfl, ?_⟩) ?_ ?_
      rotate_left; · exact zqB
      rotate_left; · exact zqA
      refine pure_ (i := 7) (N := some 60) (v := ?_) (a' := ?_) #[true, true, true, true, false, true, true, true, false, false, false, false, false] rfl rfl (any_of HT_.out (by kernel_rfl)) (fun _ _ _ h => h) (Or.inl ⟨by rfl, ?_⟩) ?_ ?_
      rotate_left; · exact zqB
      rotate_left; · exact zqA
      refine pure_ (i := 8) (N := some 61) (v := ?_) (a' := ?_) #[true, true, true, true, false, true, true, true, true, false, false, false, false] rfl rfl (any_of HT_.out (by kernel_rfl)) (fun _ _ _ h => h) (Or.inl ⟨by rfl, ?_⟩) ?_ ?_
      rotate_left; · exact zqB
      rotate_left; · exact zqA
      refine take_ (i := 4) (N := some 57) (v := ?_) (a' := ?_) #[true, true, true, true, true, true, true, true, true, false, false, false, false] rfl rfl (take_ofW HT_.out HW_.out (by kernel_rfl)) (fun _ _ _ h => h) (Or.inl ⟨by rfl, ?_⟩) hHeld ?_ ?_
      rotate_left
      ·
       rintro w' ⟨s0, s1, s2, s3, s4, s5, s6, s7, s8, s9, s10, s11⟩
       go_simp
       with_reducible rfl
      rotate_left; · exact zqA
      refine take_ (i := 9) (N := some 62) (v := ?_) (a' := ?_) #[true, true, true, true, true, true, true, true, true, true, false, false, false] rfl rfl (take_ofW HT_.out HW_.out (by kernel_rfl)) (fun _ _ _ h => h) (Or.inl ⟨by rfl, ?_⟩) hHeld ?_ ?_
      rotate_left
      ·
       rintro w' ⟨s0, s1, s2, s3, s4, s5, s6, s7, s8, s9, s10, s11⟩
       go_simp
       with_reducible rfl
      rotate_left; · exact zqA
      refine one_ (i := 10) (N := some 63) #[true, true, true, true, true, true, true, true, true, true, true, false, false] rfl rfl (one_of HT_.out (by kernel_rfl)) (by decide) (fun K hK => ?_)
      refine goes_ Try.func95 (by kernel_rfl) rfl #[.int .i64 ((rd_T31 x4_4 x6_2).f4), .int .i64 ((rd_T31 x4_4 x7_4).f4)] (by rfl) rfl rfl zq1 ?_
      with_reducible refine (spec_l1Least.calls ((rd_T31 x4_4 x6_2).f4) ((rd_T31 x4_4 x7_4).f4) t953 _ A26.out).mono ?_
      rintro e w43 ⟨rfl, hb⟩
      have HS0_ := (hb.cell (World.block_lt_of_cell? _ _ (hHeld.1))).trans (hHeld.1)
      have HS1_ := (hb.cell (World.block_lt_of_cell? _ _ (hHeld.2.1))).trans (hHeld.2.1)
      have HS2_ := (hb.cell (World.block_lt_of_cell? _ _ (hHeld.2.2.1))).trans (hHeld.2.2.1)
      have HS3_ := (hb.cell (World.block_lt_of_cell? _ _ (hHeld.2.2.2.1))).trans (hHeld.2.2.2.1)
      have HS4_ := (hb.cell (World.block_lt_of_cell? _ _ (hHeld.2.2.2.2.1))).trans (hHeld.2.2.2.2.1)
      have HS5_ := (hb.cell (World.block_lt_of_cell? _ _ (hHeld.2.2.2.2.2.1))).trans (hHeld.2.2.2.2.2.1)
      have HS6_ := (hb.cell (World.block_lt_of_cell? _ _ (hHeld.2.2.2.2.2.2.1))).trans (hHeld.2.2.2.2.2.2.1)
      have HS7_ := (hb.cell (World.block_lt_of_cell? _ _ (hHeld.2.2.2.2.2.2.2.1))).trans (hHeld.2.2.2.2.2.2.2.1)
      have HS8_ := (hb.cell (World.block_lt_of_cell? _ _ (hHeld.2.2.2.2.2.2.2.2.1))).trans (hHeld.2.2.2.2.2.2.2.2.1)
      have HS9_ := (hb.cell (World.block_lt_of_cell? _ _ (hHeld.2.2.2.2.2.2.2.2.2.1))).trans (hHeld.2.2.2.2.2.2.2.2.2.1)
      have HS10_ := (hb.cell (World.block_lt_of_cell? _ _ (hHeld.2.2.2.2.2.2.2.2.2.2.1))).trans (hHeld.2.2.2.2.2.2.2.2.2.2.1)
      have HS11_ := (hb.cell (World.block_lt_of_cell? _ _ (hHeld.2.2.2.2.2.2.2.2.2.2.2))).trans (hHeld.2.2.2.2.2.2.2.2.2.2.2)
      refine ⟨_, rfl, ?_⟩
      have n0_ := Aside0.mk (Kd.R_below (zqR HO_4.out) hb)
      have n1_ := Aside0.mk (blk_below (g := gb950) (o := .cells #[.int .i64 ((rd_T31 x4_4 x6_2).f0), .int .i64 ((rd_T31 x4_4 x6_2).f1), .int .i64 ((rd_T31 x4_4 x6_2).f2), .int .i64 ((rd_T31 x4_4 x6_2).f3), .int .i64 ((rd_T31 x4_4 x6_2).f4), .int .i64 ((rd_T31 x4_4 x6_2).f5)] 31 (0, 0)) (zqK BK950.out) hb)
      have n2_ := Aside0.mk (below_step zq22 hb)
      clear HO_4
      clear BK950
      clear HB
      have HO_4 := n0_
      have BK950 := n1_
      have HB := n2_
      clear n0_ n1_ n2_
      (try clear hb)
      (try clear hb2)
      (try clear hk)
      (try clear hi)
      refine hK.out _ _ ⟨HS0_, HS1_, HS2_, HS3_, HS4_, HS5_, HS6_, HS7_, HS8_, HS9_, HS10_, HS11_⟩ (fun hHeld => ?_)
      clear hK K
      refine norm_ (a' := ?_) ?_ ?_
      rotate_left
      ·
       show Act.put _ (some 63) _ = _
       simp only [Act.put, List.setIfInBounds_toArray, List.set_cons_zero, List.set_cons_succ, i64_w, i32_w]
       rfl
      refine pure_ (i := 11) (N := some 64) (v := ?_) (a' := ?_) #[true, true, true, true, true, true, true, true, true, true, true, true, false] rfl rfl (any_of HT_.out (by kernel_rfl)) (fun _ _ _ h => h) (Or.inl ⟨by rfl, ?_⟩) ?_ ?_
      rotate_left; · exact zqB
      rotate_left; · exact zqA
      refine one_ (i := 12) (N := none) #[true, true, true, true, true, true, true, true, true, true, true, true, true] rfl rfl (one_of HT_.out (by kernel_rfl)) (by decide) (fun K hK => ?_)
      have hs44 : w43.cell? ⟨gb950, 4, none⟩ = some (.int .i64 ((rd_T31 x4_4 x6_2).f4)) := (blk_cell BK950.out 4).trans rfl
      have hfs44 := blk_frozen BK950.out 4
      refine skip_ (w1 := ?_) (by rfl) rfl ?_ ?_
      rotate_left
      ·
       go_simp
       rfl
      refine hK.out _ _ ⟨((cell_far (p := ⟨gb950, _, none⟩) zq6 _).trans (hHeld.1)), ((cell_far (p := ⟨gb950, _, none⟩) zq6 _).trans (hHeld.2.1)), ((cell_far (p := ⟨gb950, _, none⟩) zq6 _).trans (hHeld.2.2.1)), ((cell_far (p := ⟨gb950, _, none⟩) zq6 _).trans (hHeld.2.2.2.1)), ((cell_far (p := ⟨gb950, _, none⟩) zq6 _).trans (hHeld.2.2.2.2.1)), ((cell_far (p := ⟨gb950, _, none⟩) zq6 _).trans (hHeld.2.2.2.2.2.1)), ((cell_far (p := ⟨gb950, _, none⟩) zq6 _).trans (hHeld.2.2.2.2.2.2.1)), ((cell_far (p := ⟨gb950, _, none⟩) zq6 _).trans (hHeld.2.2.2.2.2.2.2.1)), ((cell_far (p := ⟨gb950, _, none⟩) zq6 _).trans (hHeld.2.2.2.2.2.2.2.2.1)), ((cell_far (p := ⟨gb950, _, none⟩) zq6 _).trans (hHeld.2.2.2.2.2.2.2.2.2.1)), ((cell_far (p := ⟨gb950, _, none⟩) zq6 _).trans (hHeld.2.2.2.2.2.2.2.2.2.2.1)), ((cell_far (p := ⟨gb950, _, none⟩) zq6 _).trans (hHeld.2.2.2.2.2.2.2.2.2.2.2))⟩ (fun hHeld => ?_)
      clear hK K
      refine done_ (done_of HT_.out (by kernel_rfl)) ?_
      try go_wp2
      have n0_ : Aside0 (Kd.R k31 31 (w43.setCell ⟨gb950, 4, none⟩ (.int .i64 t953)) w.heap.size (fun k_ => k_ ≠ gb950) (.slice (some ad946) x4_4.length co37) x4_4) := ⟨by (with_reducible repeat (first | apply Kd.R_alloc | apply Kd.R_drewN | apply Kd.R_drew)); exact Kd.R_mono (Kd.R_far (p := ⟨gb950, 4, none⟩) (Kd.R_mono HO_4.out (fun k_ hk => (⟨hk, hk⟩ : _ ∧ k_ ≠ gb950))) (fun _ hk => hk.2) (.int .i64 t953)) (fun _ hk => hk.1)⟩
      have n1_ : Aside0 ((w43.setCell ⟨gb950, 4, none⟩ (.int .i64 t953)).heap[gb950]? = some (.cells #[.int .i64 ((rd_T31 x4_4 x6_2).f0), .int .i64 ((rd_T31 x4_4 x6_2).f1), .int .i64 ((rd_T31 x4_4 x6_2).f2), .int .i64 ((rd_T31 x4_4 x6_2).f3), .int .i64 t953, .int .i64 ((rd_T31 x4_4 x6_2).f5)] 31 (0, 0))) := ⟨by (with_reducible repeat (first | refine blk_drewN ?_ _ | refine blk_drew ?_ | refine blk_alloc ?_ _)); refine blk_put (cs := #[.int .i64 ((rd_T31 x4_4 x6_2).f0), .int .i64 ((rd_T31 x4_4 x6_2).f1), .int .i64 ((rd_T31 x4_4 x6_2).f2), .int .i64 ((rd_T31 x4_4 x6_2).f3), .int .i64 ((rd_T31 x4_4 x6_2).f4), .int .i64 ((rd_T31 x4_4 x6_2).f5)]) ?_ 4 _ rfl; (with_reducible repeat (first | refine blk_drewN ?_ _ | refine blk_drew ?_ | refine blk_alloc ?_ _)); exact BK950.out⟩
      have n2_ : Aside0 (Below w.heap.size w (w43.setCell ⟨gb950, 4, none⟩ (.int .i64 t953))) := ⟨zq22⟩
      (try clear HO_4)
      (try clear BK950)
      (try clear HB)
      generalize (w43.setCell ⟨gb950, 4, none⟩ (.int .i64 t953)) = w45 at n0_ n1_ n2_ ⊢
      have HO_4 := n0_
      have BK950 := n1_
      have HB := n2_
      clear n0_ n1_ n2_
      have n0_ := Aside0.mk (Kd.R_drew HO_4.out)
      have n1_ := Aside0.mk (blk_drew BK950.out)
      have n2_ := Aside0.mk (below_drew1 HB.out)
      clear HO_4
      clear BK950
      clear HB
      have HO_4 := n0_
      have BK950 := n1_
      have HB := n2_
      clear n0_ n1_ n2_
      have p954 : 0 ≤ (x6_2 : Int) := of_decide_eq_true zq5
      have q954 : x6_2 < (x4_4.length : Int) := of_decide_eq_true zq5
      obtain ⟨ad954, e954, hx954_0, hx954_1, hx954_2, hx954_3, hx954_4, hx954_5⟩ := at_T31 (Kd.R_reads' HO_4.out).2.2 x6_2 p954 q954
      obtain rfl : ad946 = ad954 := (by injection e954)
      replace p954 := eq_true p954
      replace q954 := eq_true q954
      have p955 : 0 ≤ (x7_4 : Int) := of_decide_eq_true zq5
      have q955 : x7_4 < (x4_4.length : Int) := of_decide_eq_true zq5
      obtain ⟨ad955, e955, hx955_0, hx955_1, hx955_2, hx955_3, hx955_4, hx955_5⟩ := at_T31 (Kd.R_reads' HO_4.out).2.2 x7_4 p955 q955
      obtain rfl : ad946 = ad955 := (by injection e955)
      replace p955 := eq_true p955
      replace q955 := eq_true q955
      refine start_ (n := 13) (S := fun w' => w'.cell? (ad946.add ((x6_2).toNat * 6)) = some (.int .i64 ((rd_T31 x4_4 x6_2).f0)) ∧ w'.cell? ⟨(ad946.add ((x6_2).toNat * 6)).block, (ad946.add ((x6_2).toNat * 6)).off + 1, none⟩ = some (.int .i64 ((rd_T31 x4_4 x6_2).f1)) ∧ w'.cell? ⟨(ad946.add ((x6_2).toNat * 6)).block, (ad946.add ((x6_2).toNat * 6)).off + 2, none⟩ = some (.int .i64 ((rd_T31 x4_4 x6_2).f2)) ∧ w'.cell? ⟨(ad946.add ((x6_2).toNat * 6)).block, (ad946.add ((x6_2).toNat * 6)).off + 3, none⟩ = some (.int .i64 ((rd_T31 x4_4 x6_2).f3)) ∧ w'.cell? ⟨(ad946.add ((x6_2).toNat * 6)).block, (ad946.add ((x6_2).toNat * 6)).off + 4, none⟩ = some (.int .i64 ((rd_T31 x4_4 x6_2).f4)) ∧ w'.cell? ⟨(ad946.add ((x6_2).toNat * 6)).block, (ad946.add ((x6_2).toNat * 6)).off + 5, none⟩ = some (.int .i64 ((rd_T31 x4_4 x6_2).f5)) ∧ w'.cell? (ad946.add ((x7_4).toNat * 6)) = some (.int .i64 ((rd_T31 x4_4 x7_4).f0)) ∧ w'.cell? ⟨(ad946.add ((x7_4).toNat * 6)).block, (ad946.add ((x7_4).toNat * 6)).off + 1, none⟩ = some (.int .i64 ((rd_T31 x4_4 x7_4).f1)) ∧ w'.cell? ⟨(ad946.add ((x7_4).toNat * 6)).block, (ad946.add ((x7_4).toNat * 6)).off + 2, none⟩ = some (.int .i64 ((rd_T31 x4_4 x7_4).f2)) ∧ w'.cell? ⟨(ad946.add ((x7_4).toNat * 6)).block, (ad946.add ((x7_4).toNat * 6)).off + 3, none⟩ = some (.int .i64 ((rd_T31 x4_4 x7_4).f3)) ∧ w'.cell? ⟨(ad946.add ((x7_4).toNat * 6)).block, (ad946.add ((x7_4).toNat * 6)).off + 4, none⟩ = some (.int .i64 ((rd_T31 x4_4 x7_4).f4)) ∧ w'.cell? ⟨(ad946.add ((x7_4).toNat * 6)).block, (ad946.add ((x7_4).toNat * 6)).off + 5, none⟩ = some (.int .i64 ((rd_T31 x4_4 x7_4).f5))) (ds := []) #[false, false, false, false, false, false, false, false, false, false, false, false, false] (by kernel_rfl) rfl rfl ⟨hx954_0, hx954_1, hx954_2, hx954_3, hx954_4, hx954_5, hx955_0, hx955_1, hx955_2, hx955_3, hx955_4, hx955_5⟩ (fun hHeld => ?_); refine with_tabW spec_JoinWarnings.tab16 spec_JoinWarnings.bits16 (fun HT_ HW_ => ?_)
      generalize w45.drew = w46 at HO_4 BK950 HB hx954_0 hx954_1 hx954_2 hx954_3 hx954_4 hx954_5 hx955_0 hx955_1 hx955_2 hx955_3 hx955_4 hx955_5 hHeld ⊢
      refine pure_ (i := 0) (N := some 65) (v := ?_) (a' := ?_) #[true, false, false, false, false, false, false, false, false, false, false, false, false] rfl rfl (any_of HT_.out (by kernel_rfl)) (fun _ _ _ h => h) (Or.inl ⟨by rfl, ?_⟩) ?_ ?_
      rotate_left; · exact zqB
      rotate_left; · exact zqA
      refine pure_ (i := 1) (N := some 66) (v := ?_) (a' := ?_) #[true, true, false, false, false, false, false, false, false, false, false, false, false] rfl rfl (any_of HT_.out (by kernel_rfl)) (fun _ _ _ h => h) (Or.inl ⟨by rfl, ?_⟩) ?_ ?_
      rotate_left; · exact zqB
      rotate_left; · exact zqA
      refine pure_ (i := 2) (N := some 67) (v := ?_) (a' := ?_) #[true, true, true, false, false, false, false, false, false, false, false, false, false] rfl rfl (any_of HT_.out (by kernel_rfl)) (fun _ _ _ h => h) (Or.inl ⟨by rfl, ?_⟩) ?_ ?_
      rotate_left; · exact zqB
      rotate_left; · exact zqA
      refine pure_ (i := 3) (N := some 68) (v := ?_) (a' := ?_) #[true, true, true, true, false, false, false, false, false, false, false, false, false] rfl rfl (any_of HT_.out (by kernel_rfl)) (fun _ _ _ h => h) (Or.inl ⟨by rfl, ?_⟩) ?_ ?_
      rotate_left; · exact zqB
      rotate_left; · exact zqA
      refine pure_ (i := 5) (N := some 70) (v := ?_) (a' := ?_) #[true, true, true, true, false, true, false, false, false, false, false, false, false] rfl rfl (any_of HT_.out (by kernel_rfl)) (fun _ _ _ h => h) (Or.inl ⟨by rfl, ?_⟩) ?_ ?_
      rotate_left; · exact zqB
      rotate_left; · exact zqA
      refine pure_ (i := 6) (N := some 71) (v := ?_) (a' := ?_) #[true, true, true, true, false, true, true, false, false, false, false, false, false] rfl rfl (any_of HT_.out (by kernel_rfl)) (fun _ _ _ h => h) (Or.inl ⟨by rfl, ?_⟩) ?_ ?_
      rotate_left; · exact zqB
      rotate_left; · exact zqA
      refine pure_ (i := 7) (N := some 72) (v := ?_) (a' := ?_) #[true, true, true, true, false, true, true, true, false, false, false, false, false] rfl rfl (any_of HT_.out (by kernel_rfl)) (fun _ _ _ h => h) (Or.inl ⟨by rfl, ?_⟩) ?_ ?_
      rotate_left; · exact zqB
      rotate_left; · exact zqA
      refine pure_ (i := 8) (N := some 73) (v := ?_) (a' := ?_) #[true, true, true, true, false, true, true, true, true, false, false, false, false] rfl rfl (any_of HT_.out (by kernel_rfl)) (fun _ _ _ h => h) (Or.inl ⟨by rfl, ?_⟩) ?_ ?_
      rotate_left; · exact zqB
      rotate_left; · exact zqA
      refine take_ (i := 4) (N := some 69) (v := ?_) (a' := ?_) #[true, true, true, true, true, true, true, true, true, false, false, false, false] rfl rfl (take_ofW HT_.out HW_.out (by kernel_rfl)) (fun _ _ _ h => h) (Or.inl ⟨by rfl, ?_⟩) hHeld ?_ ?_
      rotate_left
      ·
       rintro w' ⟨s0, s1, s2, s3, s4, s5, s6, s7, s8, s9, s10, s11⟩
       go_simp
       with_reducible rfl
      rotate_left; · exact zqA
      refine take_ (i := 9) (N := some 74) (v := ?_) (a' := ?_) #[true, true, true, true, true, true, true, true, true, true, false, false, false] rfl rfl (take_ofW HT_.out HW_.out (by kernel_rfl)) (fun _ _ _ h => h) (Or.inl ⟨by rfl, ?_⟩) hHeld ?_ ?_
      rotate_left
      ·
       rintro w' ⟨s0, s1, s2, s3, s4, s5, s6, s7, s8, s9, s10, s11⟩
       go_simp
       with_reducible rfl
      rotate_left; · exact zqA
      refine one_ (i := 10) (N := some 75) #[true, true, true, true, true, true, true, true, true, true, true, false, false] rfl rfl (one_of HT_.out (by kernel_rfl)) (by decide) (fun K hK => ?_)
      refine goes_ Try.func96 (by kernel_rfl) rfl #[.int .i64 ((rd_T31 x4_4 x6_2).f5), .int .i64 ((rd_T31 x4_4 x7_4).f5)] (by rfl) rfl rfl zq1 ?_
      with_reducible refine (spec_l1Most.calls ((rd_T31 x4_4 x6_2).f5) ((rd_T31 x4_4 x7_4).f5) t956 _ A27.out).mono ?_
      rintro e w47 ⟨rfl, hb⟩
      have HS0_ := (hb.cell (World.block_lt_of_cell? _ _ (hHeld.1))).trans (hHeld.1)
      have HS1_ := (hb.cell (World.block_lt_of_cell? _ _ (hHeld.2.1))).trans (hHeld.2.1)
      have HS2_ := (hb.cell (World.block_lt_of_cell? _ _ (hHeld.2.2.1))).trans (hHeld.2.2.1)
      have HS3_ := (hb.cell (World.block_lt_of_cell? _ _ (hHeld.2.2.2.1))).trans (hHeld.2.2.2.1)
      have HS4_ := (hb.cell (World.block_lt_of_cell? _ _ (hHeld.2.2.2.2.1))).trans (hHeld.2.2.2.2.1)
      have HS5_ := (hb.cell (World.block_lt_of_cell? _ _ (hHeld.2.2.2.2.2.1))).trans (hHeld.2.2.2.2.2.1)
      have HS6_ := (hb.cell (World.block_lt_of_cell? _ _ (hHeld.2.2.2.2.2.2.1))).trans (hHeld.2.2.2.2.2.2.1)
      have HS7_ := (hb.cell (World.block_lt_of_cell? _ _ (hHeld.2.2.2.2.2.2.2.1))).trans (hHeld.2.2.2.2.2.2.2.1)
      have HS8_ := (hb.cell (World.block_lt_of_cell? _ _ (hHeld.2.2.2.2.2.2.2.2.1))).trans (hHeld.2.2.2.2.2.2.2.2.1)
      have HS9_ := (hb.cell (World.block_lt_of_cell? _ _ (hHeld.2.2.2.2.2.2.2.2.2.1))).trans (hHeld.2.2.2.2.2.2.2.2.2.1)
      have HS10_ := (hb.cell (World.block_lt_of_cell? _ _ (hHeld.2.2.2.2.2.2.2.2.2.2.1))).trans (hHeld.2.2.2.2.2.2.2.2.2.2.1)
      have HS11_ := (hb.cell (World.block_lt_of_cell? _ _ (hHeld.2.2.2.2.2.2.2.2.2.2.2))).trans (hHeld.2.2.2.2.2.2.2.2.2.2.2)
      refine ⟨_, rfl, ?_⟩
      have n0_ := Aside0.mk (Kd.R_below (zqR HO_4.out) hb)
      have n1_ := Aside0.mk (blk_below (g := gb950) (o := .cells #[.int .i64 ((rd_T31 x4_4 x6_2).f0), .int .i64 ((rd_T31 x4_4 x6_2).f1), .int .i64 ((rd_T31 x4_4 x6_2).f2), .int .i64 ((rd_T31 x4_4 x6_2).f3), .int .i64 t953, .int .i64 ((rd_T31 x4_4 x6_2).f5)] 31 (0, 0)) (zqK BK950.out) hb)
      have n2_ := Aside0.mk (below_step zq22 hb)
      clear HO_4
      clear BK950
      clear HB
      have HO_4 := n0_
      have BK950 := n1_
      have HB := n2_
      clear n0_ n1_ n2_
      (try clear hb)
      (try clear hb2)
      (try clear hk)
      (try clear hi)
      refine hK.out _ _ ⟨HS0_, HS1_, HS2_, HS3_, HS4_, HS5_, HS6_, HS7_, HS8_, HS9_, HS10_, HS11_⟩ (fun hHeld => ?_)
      clear hK K
      refine norm_ (a' := ?_) ?_ ?_
      rotate_left
      ·
       show Act.put _ (some 75) _ = _
       simp only [Act.put, List.setIfInBounds_toArray, List.set_cons_zero, List.set_cons_succ, i64_w, i32_w]
       rfl
      refine pure_ (i := 11) (N := some 76) (v := ?_) (a' := ?_) #[true, true, true, true, true, true, true, true, true, true, true, true, false] rfl rfl (any_of HT_.out (by kernel_rfl)) (fun _ _ _ h => h) (Or.inl ⟨by rfl, ?_⟩) ?_ ?_
      rotate_left; · exact zqB
      rotate_left; · exact zqA
      refine one_ (i := 12) (N := none) #[true, true, true, true, true, true, true, true, true, true, true, true, true] rfl rfl (one_of HT_.out (by kernel_rfl)) (by decide) (fun K hK => ?_)
      have hs48 : w47.cell? ⟨gb950, 5, none⟩ = some (.int .i64 ((rd_T31 x4_4 x6_2).f5)) := (blk_cell BK950.out 5).trans rfl
      have hfs48 := blk_frozen BK950.out 5
      refine skip_ (w1 := ?_) (by rfl) rfl ?_ ?_
      rotate_left
      ·
       go_simp
       rfl
      refine hK.out _ _ ⟨((cell_far (p := ⟨gb950, _, none⟩) zq6 _).trans (hHeld.1)), ((cell_far (p := ⟨gb950, _, none⟩) zq6 _).trans (hHeld.2.1)), ((cell_far (p := ⟨gb950, _, none⟩) zq6 _).trans (hHeld.2.2.1)), ((cell_far (p := ⟨gb950, _, none⟩) zq6 _).trans (hHeld.2.2.2.1)), ((cell_far (p := ⟨gb950, _, none⟩) zq6 _).trans (hHeld.2.2.2.2.1)), ((cell_far (p := ⟨gb950, _, none⟩) zq6 _).trans (hHeld.2.2.2.2.2.1)), ((cell_far (p := ⟨gb950, _, none⟩) zq6 _).trans (hHeld.2.2.2.2.2.2.1)), ((cell_far (p := ⟨gb950, _, none⟩) zq6 _).trans (hHeld.2.2.2.2.2.2.2.1)), ((cell_far (p := ⟨gb950, _, none⟩) zq6 _).trans (hHeld.2.2.2.2.2.2.2.2.1)), ((cell_far (p := ⟨gb950, _, none⟩) zq6 _).trans (hHeld.2.2.2.2.2.2.2.2.2.1)), ((cell_far (p := ⟨gb950, _, none⟩) zq6 _).trans (hHeld.2.2.2.2.2.2.2.2.2.2.1)), ((cell_far (p := ⟨gb950, _, none⟩) zq6 _).trans (hHeld.2.2.2.2.2.2.2.2.2.2.2))⟩ (fun hHeld => ?_)
      clear hK K
      refine done_ (done_of HT_.out (by kernel_rfl)) ?_
      have n0_ : Aside0 (Kd.R k31 31 (w47.setCell ⟨gb950, 5, none⟩ (.int .i64 t956)) w.heap.size (fun k_ => k_ ≠ gb950) (.slice (some ad946) x4_4.length co37) x4_4) := ⟨by (with_reducible repeat (first | apply Kd.R_alloc | apply Kd.R_drewN | apply Kd.R_drew)); exact Kd.R_mono (Kd.R_far (p := ⟨gb950, 5, none⟩) (Kd.R_mono HO_4.out (fun k_ hk => (⟨hk, hk⟩ : _ ∧ k_ ≠ gb950))) (fun _ hk => hk.2) (.int .i64 t956)) (fun _ hk => hk.1)⟩
      have n1_ : Aside0 ((w47.setCell ⟨gb950, 5, none⟩ (.int .i64 t956)).heap[gb950]? = some (.cells #[.int .i64 ((rd_T31 x4_4 x6_2).f0), .int .i64 ((rd_T31 x4_4 x6_2).f1), .int .i64 ((rd_T31 x4_4 x6_2).f2), .int .i64 ((rd_T31 x4_4 x6_2).f3), .int .i64 t953, .int .i64 t956] 31 (0, 0))) := ⟨by (with_reducible repeat (first | refine blk_drewN ?_ _ | refine blk_drew ?_ | refine blk_alloc ?_ _)); refine blk_put (cs := #[.int .i64 ((rd_T31 x4_4 x6_2).f0), .int .i64 ((rd_T31 x4_4 x6_2).f1), .int .i64 ((rd_T31 x4_4 x6_2).f2), .int .i64 ((rd_T31 x4_4 x6_2).f3), .int .i64 t953, .int .i64 ((rd_T31 x4_4 x6_2).f5)]) ?_ 5 _ rfl; (with_reducible repeat (first | refine blk_drewN ?_ _ | refine blk_drew ?_ | refine blk_alloc ?_ _)); exact BK950.out⟩
      have n2_ : Aside0 (Below w.heap.size w (w47.setCell ⟨gb950, 5, none⟩ (.int .i64 t956))) := ⟨zq22⟩
      (try clear HO_4)
      (try clear BK950)
      (try clear HB)
      generalize (w47.setCell ⟨gb950, 5, none⟩ (.int .i64 t956)) = w49 at n0_ n1_ n2_ ⊢
      have HO_4 := n0_
      have BK950 := n1_
      have HB := n2_
      clear n0_ n1_ n2_
      obtain ⟨hcz50_0, hcz50_1, hcz50_2, hcz50_3, hcz50_4, hcz50_5, hfz50_0, hfz50_1, hfz50_2, hfz50_3, hfz50_4, hfz50_5⟩ := bz6 BK950.out
      have p28 : 0 ≤ (x6_2 : Int) := of_decide_eq_true zq5
      have q28 : (x6_2 : Int) < ((x4_4.length : Int) : Int) := of_decide_eq_true zq5
      obtain ⟨go28, co28, eo28, gb28, gl28, cl28, HG28⟩ := Kd.R_form HO_4.out (by omega)
      (first | cases eo28 | (injection eo28 with ea_ en_ ec_; (first | subst ea_ | (injection ea_ with ea_; subst ea_)); subst ec_; clear en_))
      have GB28 := Aside0.mk gb28
      have GG28 := Aside0.mk HG28
      clear gb28 gl28 HG28
      (first | simp only [add_plain] at hx946_0 | skip)
      (first | simp only [add_plain] at hx946_1 | skip)
      (first | simp only [add_plain] at hx946_2 | skip)
      (first | simp only [add_plain] at hx946_3 | skip)
      (first | simp only [add_plain] at hx946_4 | skip)
      (first | simp only [add_plain] at hx946_5 | skip)
      (first | simp only [add_plain] at hx947_0 | skip)
      (first | simp only [add_plain] at hx947_1 | skip)
      (first | simp only [add_plain] at hx947_2 | skip)
      (first | simp only [add_plain] at hx947_3 | skip)
      (first | simp only [add_plain] at hx947_4 | skip)
      (first | simp only [add_plain] at hx947_5 | skip)
      (first | simp only [add_plain] at hx949_0 | skip)
      (first | simp only [add_plain] at hx949_1 | skip)
      (first | simp only [add_plain] at hx949_2 | skip)
      (first | simp only [add_plain] at hx949_3 | skip)
      (first | simp only [add_plain] at hx949_4 | skip)
      (first | simp only [add_plain] at hx949_5 | skip)
      (first | simp only [add_plain] at hx951_0 | skip)
      (first | simp only [add_plain] at hx951_1 | skip)
      (first | simp only [add_plain] at hx951_2 | skip)
      (first | simp only [add_plain] at hx951_3 | skip)
      (first | simp only [add_plain] at hx951_4 | skip)
      (first | simp only [add_plain] at hx951_5 | skip)
      (first | simp only [add_plain] at hx952_0 | skip)
      (first | simp only [add_plain] at hx952_1 | skip)
      (first | simp only [add_plain] at hx952_2 | skip)
      (first | simp only [add_plain] at hx952_3 | skip)
      (first | simp only [add_plain] at hx952_4 | skip)
      (first | simp only [add_plain] at hx952_5 | skip)
      (first | simp only [add_plain] at hx954_0 | skip)
      (first | simp only [add_plain] at hx954_1 | skip)
      (first | simp only [add_plain] at hx954_2 | skip)
      (first | simp only [add_plain] at hx954_3 | skip)
      (first | simp only [add_plain] at hx954_4 | skip)
      (first | simp only [add_plain] at hx954_5 | skip)
      (first | simp only [add_plain] at hx955_0 | skip)
      (first | simp only [add_plain] at hx955_1 | skip)
      (first | simp only [add_plain] at hx955_2 | skip)
      (first | simp only [add_plain] at hx955_3 | skip)
      (first | simp only [add_plain] at hx955_4 | skip)
      (first | simp only [add_plain] at hx955_5 | skip)
      obtain ⟨ce28, hcl28, hM28, hcc28, hfr28⟩ := Kd.R_elem HO_4.out z31 (x6_2 : Int) p28 q28
      obtain rfl := k31_openM hM28
      have hx28_0 : w49.cell? ⟨go28, (x6_2 : Int).toNat * 6, none⟩ = some (.int .i64 ((rd_T31 x4_4 x6_2).f0)) := hcc28 0 _ rfl
      have hx28_1 : w49.cell? ⟨go28, (x6_2 : Int).toNat * 6 + 1, none⟩ = some (.int .i64 ((rd_T31 x4_4 x6_2).f1)) := hcc28 1 _ rfl
      have hx28_2 : w49.cell? ⟨go28, (x6_2 : Int).toNat * 6 + 2, none⟩ = some (.int .i64 ((rd_T31 x4_4 x6_2).f2)) := hcc28 2 _ rfl
      have hx28_3 : w49.cell? ⟨go28, (x6_2 : Int).toNat * 6 + 3, none⟩ = some (.int .i64 ((rd_T31 x4_4 x6_2).f3)) := hcc28 3 _ rfl
      have hx28_4 : w49.cell? ⟨go28, (x6_2 : Int).toNat * 6 + 4, none⟩ = some (.int .i64 ((rd_T31 x4_4 x6_2).f4)) := hcc28 4 _ rfl
      have hx28_5 : w49.cell? ⟨go28, (x6_2 : Int).toNat * 6 + 5, none⟩ = some (.int .i64 ((rd_T31 x4_4 x6_2).f5)) := hcc28 5 _ rfl
      have hf28_0 : w49.frozen? ⟨go28, (x6_2 : Int).toNat * 6, none⟩ = false := hfr28 0
      have hf28_1 : w49.frozen? ⟨go28, (x6_2 : Int).toNat * 6 + 1, none⟩ = false := hfr28 1
      have hf28_2 : w49.frozen? ⟨go28, (x6_2 : Int).toNat * 6 + 2, none⟩ = false := hfr28 2
      have hf28_3 : w49.frozen? ⟨go28, (x6_2 : Int).toNat * 6 + 3, none⟩ = false := hfr28 3
      have hf28_4 : w49.frozen? ⟨go28, (x6_2 : Int).toNat * 6 + 4, none⟩ = false := hfr28 4
      have hf28_5 : w49.frozen? ⟨go28, (x6_2 : Int).toNat * 6 + 5, none⟩ = false := hfr28 5
      clear hcl28 hcc28 hfr28 hM28
      replace p28 := eq_true p28
      replace q28 := eq_true q28
      have HX51 := Aside0.mk (show Kd.R k31 31 w49 w.heap.size (fun k_ => k_ ≠ gb950) (.slice (some ⟨go28, 0, none⟩) x4_4.length co37) x4_4 from (zqR HO_4.out))
      obtain ⟨ce51, hcl51, hM51, hcc51, hfr51⟩ := Kd.R_elem HX51.out z31 (x6_2 : Int) (of_decide_eq_true zq5) (by have h_ : (x6_2 : Int) < ((x4_4.length : Int) : Int) := of_decide_eq_true zq5; first | exact h_ | (have e_ := (Kd.R_reads' HO_4.out).1; omega) | simpa using h_)
      obtain rfl := k31_openM hM51
      have HP51 := Kd.R_seg HX51.out (x6_2 : Int) (of_decide_eq_true zq5) (by have h_ : (x6_2 : Int) < ((x4_4.length : Int) : Int) := of_decide_eq_true zq5; first | exact h_ | (have e_ := (Kd.R_reads' HO_4.out).1; omega) | simpa using h_) (seg := [.int .i64 ((rd_T31 x4_4 x6_2).f0), .int .i64 ((rd_T31 x4_4 x6_2).f1), .int .i64 ((rd_T31 x4_4 x6_2).f2), .int .i64 ((rd_T31 x4_4 x6_2).f3), .int .i64 t953, .int .i64 t956]) (j := 0) hcl51 hcc51 (show 6 ≤ 6 from by decide) (x' := (⟨(rd_T31 x4_4 x6_2).f0, (rd_T31 x4_4 x6_2).f1, (rd_T31 x4_4 x6_2).f2, (rd_T31 x4_4 x6_2).f3, t953, t956⟩ : S31)) (k31_mkM _ _ _ (⟨(rd_T31 x4_4 x6_2).f0, (rd_T31 x4_4 x6_2).f1, (rd_T31 x4_4 x6_2).f2, (rd_T31 x4_4 x6_2).f3, t953, t956⟩ : S31) ) (fun _ hk => hk)
      have hx51_0 := hcc51 0 _ rfl
      (try simp only [show (k31).sz = 6 from rfl, Nat.mul_one, Nat.add_zero] at hx51_0)
      have hf51_0 := hfr51 0
      (try simp only [show (k31).sz = 6 from rfl, Nat.mul_one, Nat.add_zero] at hf51_0)
      have hx51_1 := hcc51 1 _ rfl
      (try simp only [show (k31).sz = 6 from rfl, Nat.mul_one, Nat.add_zero] at hx51_1)
      have hf51_1 := hfr51 1
      (try simp only [show (k31).sz = 6 from rfl, Nat.mul_one, Nat.add_zero] at hf51_1)
      have hx51_2 := hcc51 2 _ rfl
      (try simp only [show (k31).sz = 6 from rfl, Nat.mul_one, Nat.add_zero] at hx51_2)
      have hf51_2 := hfr51 2
      (try simp only [show (k31).sz = 6 from rfl, Nat.mul_one, Nat.add_zero] at hf51_2)
      have hx51_3 := hcc51 3 _ rfl
      (try simp only [show (k31).sz = 6 from rfl, Nat.mul_one, Nat.add_zero] at hx51_3)
      have hf51_3 := hfr51 3
      (try simp only [show (k31).sz = 6 from rfl, Nat.mul_one, Nat.add_zero] at hf51_3)
      have hx51_4 := hcc51 4 _ rfl
      (try simp only [show (k31).sz = 6 from rfl, Nat.mul_one, Nat.add_zero] at hx51_4)
      have hf51_4 := hfr51 4
      (try simp only [show (k31).sz = 6 from rfl, Nat.mul_one, Nat.add_zero] at hf51_4)
      have hx51_5 := hcc51 5 _ rfl
      (try simp only [show (k31).sz = 6 from rfl, Nat.mul_one, Nat.add_zero] at hx51_5)
      have hf51_5 := hfr51 5
      (try simp only [show (k31).sz = 6 from rfl, Nat.mul_one, Nat.add_zero] at hf51_5)
      clear hcl51 hcc51 hfr51 hM51
      try go_wp2_with (first | ((with_reducible refine gate_store (t := 31) (p := 80) rfl ?_); refine store_event (t := 31) (p := 80) (v := ?vo_w52) (w1 := ((((((w49.setCell ⟨go28, (x6_2 : Int).toNat * 6, none⟩ (.int .i64 ((rd_T31 x4_4 x6_2).f0))).setCell ⟨go28, (x6_2 : Int).toNat * 6 + 1, none⟩ (.int .i64 ((rd_T31 x4_4 x6_2).f1))).setCell ⟨go28, (x6_2 : Int).toNat * 6 + 2, none⟩ (.int .i64 ((rd_T31 x4_4 x6_2).f2))).setCell ⟨go28, (x6_2 : Int).toNat * 6 + 3, none⟩ (.int .i64 ((rd_T31 x4_4 x6_2).f3))).setCell ⟨go28, (x6_2 : Int).toNat * 6 + 4, none⟩ (.int .i64 t953)).setCell ⟨go28, (x6_2 : Int).toNat * 6 + 5, none⟩ (.int .i64 t956))) ?hg ?ho ?hn ?hr ?_; (case ho => rfl); (case hg => rfl); (case hn => rfl); (case hr => exact zqS); intro w52 hw; have hg : w49.grownBy w52 (some go28) := (by rw [hw]; exact HP51.2); have hp_ : Kd.R k31 31 w52 w.heap.size (fun k_ => k_ ≠ gb950) (.slice (some ⟨go28, 0, none⟩) x4_4.length co37) y957 := (by rw [hw, Ny957.out]; exact HP51.1); clear HP51; have n0_ := Aside0.mk (hp_); have n1_ := Aside0.mk (blk_grown (g := gb950) (o := .cells #[.int .i64 ((rd_T31 x4_4 x6_2).f0), .int .i64 ((rd_T31 x4_4 x6_2).f1), .int .i64 ((rd_T31 x4_4 x6_2).f2), .int .i64 ((rd_T31 x4_4 x6_2).f3), .int .i64 t953, .int .i64 t956] 31 (0, 0)) (zqK BK950.out) hg (Kd.R_away HO_4.out (fun _ hk => hk))); have n2_ := Aside0.mk ((by rw [hw]; exact below_set (below_set (below_set (below_set (below_set (below_set (HB.out) GB28.out) GB28.out) GB28.out) GB28.out) GB28.out) GB28.out : Below w.heap.size w w52)); clear HO_4; clear BK950; clear HB; have HO_4 := n0_; have BK950 := n1_; have HB := n2_; clear n0_ n1_ n2_; clear hg hw hp_))
      have n0_ := Aside0.mk (Kd.R_drew HO_4.out)
      have n1_ := Aside0.mk (blk_drew BK950.out)
      have n2_ := Aside0.mk (below_drew1 HB.out)
      clear HO_4
      clear BK950
      clear HB
      have HO_4 := n0_
      have BK950 := n1_
      have HB := n2_
      clear n0_ n1_ n2_
      have hlx54 := (Kd.R_reads' HO_4.out).1
      have q54 : (x7_4 : Int) ≤ ((x4_4.length : Int) : Int) := of_decide_eq_true zq5
      obtain ⟨i054, hi054, _, hsz54, _⟩ := info_parts info31
      have hroom54 : x4_4.length ≤ co37 := (Kd.R_reads' HO_4.out).2.1
      have hroomc54 : y957.length ≤ co37 := (by rw [← hlx54]; exact hroom54)
      have hC54 : Kd.C k31 _ (some ⟨go28, 0, none⟩) y957.length y957 := (Kd.R_reads' HO_4.out).2.2
      have hcut54 := cut_to (P := Try.prog) 24 31 .i64 Try.underlying24 hi054 (some ⟨go28, 0, none⟩) x4_4.length co37 x7_4 (of_decide_eq_true zq5) q54 hroom54
      have hr54 := Kd.C_take (m := (x7_4 : Int).toNat) hC54 (by omega)
      have hy54 : y961.length = (x7_4 : Int).toNat := (by rw [Ny961.out, List.length_take]; omega)
      rw [← Ny961.out] at hr54
      rw [← hy54] at hcut54
      have HR964 := Aside0.mk hr54
      have HC964 := Aside0.mk (show y961.length ≤ co37 from by omega)
      clear hr54 hC54 hroom54 hi054 hsz54 hroomc54
      have KY54 := Aside0.mk hy54
      clear hy54
      have KE54 := Aside0.mk hlx54
      have KL54 := Aside0.mk (show (x7_4 : Int).toNat ≤ y957.length from by omega)
      clear hlx54
      replace q54 := eq_true q54
      have hlx55 := (Kd.R_reads' HO_4.out).1
      have q55 : ((ji32) : Int) ≤ ((x4_4.length : Int) : Int) := of_decide_eq_true zq5
      obtain ⟨i055, hi055, _, hsz55, _⟩ := info_parts info31
      have hroom55 : x4_4.length ≤ co37 := (Kd.R_reads' HO_4.out).2.1
      have hroomc55 : y957.length ≤ co37 := (by rw [← hlx55]; exact hroom55)
      have hC55 : Kd.C k31 _ (some ⟨go28, 0, none⟩) y957.length y957 := (Kd.R_reads' HO_4.out).2.2
      have q055 : (0 : Int) ≤ ((ji32) : Int) := of_decide_eq_true zq5
      have hcut55 := cut_from (P := Try.prog) 24 31 .i64 Try.underlying24 hi055 6 hsz55 (some ⟨go28, 0, none⟩) x4_4.length co37 (ji32) q055 q55
      have hr55 := Kd.C_drop (m := ((ji32) : Int).toNat) (c := co37) hC55 (by omega) hroomc55
      obtain ⟨A55, hA55⟩ : ∃ A1, A1 = (if co37 = ((ji32) : Int).toNat then (some ⟨go28, 0, none⟩) else ((some ⟨go28, 0, none⟩) : Option Addr).map (·.add (((ji32) : Int).toNat * 6))) := ⟨_, rfl⟩
      obtain ⟨c55, hc55⟩ : ∃ c1, c1 = co37 - ((ji32) : Int).toNat := ⟨_, rfl⟩
      have hy55 : y968.length = x4_4.length - ((ji32) : Int).toNat := (by rw [Ny968.out, List.length_drop] <;> omega)
      rw [show (y957).drop ((ji32) : Int).toNat = y968 from Ny968.out.symm] at hr55
      replace hr55 : Kd.C k31 _ A55 y968.length y968 := (by rw [hA55]; exact hr55)
      rw [← hy55, ← hA55, ← hc55] at hcut55
      have HR971 := Aside0.mk hr55
      have HC971 := Aside0.mk (show y968.length ≤ c55 from by rw [hy55, hc55]; exact Nat.sub_le_sub_right hroom55 _)
      clear hr55 hC55 hroom55 hi055 hsz55 hc55 hroomc55
      have KY55 := Aside0.mk hy55
      have KA55 := Aside0.mk hA55
      clear hy55 hA55
      have KE55 := Aside0.mk hlx55
      have KL55 := Aside0.mk (show ((ji32) : Int).toNat ≤ y957.length from by omega)
      clear hlx55
      replace q55 := eq_true q55
      refine start_ (n := 11) (S := fun w' => True) (ds := []) #[false, false, false, false, false, false, false, false, false, false, false] (by kernel_rfl) rfl rfl trivial (fun hHeld => ?_); refine with_tabW spec_JoinWarnings.tab18 spec_JoinWarnings.bits18 (fun HT_ HW_ => ?_)
      generalize w52.drew = w53 at HO_4 BK950 HB HR964 HR971 hHeld ⊢
      refine pure_ (i := 1) (N := some 82) (v := ?_) (a' := ?_) #[false, true, false, false, false, false, false, false, false, false, false] rfl rfl (any_of HT_.out (by kernel_rfl)) (fun _ _ _ h => h) (Or.inl ⟨by rfl, ?_⟩) ?_ ?_
      rotate_left; · exact zqB
      rotate_left; · exact zqA
      refine pure_ (i := 2) (N := some 83) (v := ?_) (a' := ?_) #[false, true, true, false, false, false, false, false, false, false, false] rfl rfl (any_of HT_.out (by kernel_rfl)) (fun _ _ _ h => h) (Or.inl ⟨by rfl, ?_⟩) ?_ ?_
      rotate_left; · exact zqB
      rotate_left; · exact zqA
      refine pure_ (i := 3) (N := some 84) (v := ?_) (a' := ?_) #[false, true, true, true, false, false, false, false, false, false, false] rfl rfl (any_of HT_.out (by kernel_rfl)) (fun _ _ _ h => h) (Or.inl ⟨by rfl, ?_⟩) ?_ ?_
      rotate_left; · exact zqB
      rotate_left; · exact zqA
      refine pure_ (i := 5) (N := some 86) (v := ?_) (a' := ?_) #[false, true, true, true, false, true, false, false, false, false, false] rfl rfl (any_of HT_.out (by kernel_rfl)) (fun _ _ _ h => h) (Or.inl ⟨by rfl, ?_⟩) ?_ ?_
      rotate_left; · exact zqB
      rotate_left; · exact zqA
      refine pure_ (i := 6) (N := some 87) (v := ?_) (a' := ?_) #[false, true, true, true, false, true, true, false, false, false, false] rfl rfl (any_of HT_.out (by kernel_rfl)) (fun _ _ _ h => h) (Or.inl ⟨by rfl, ?_⟩) ?_ ?_
      rotate_left; · exact zqB
      rotate_left; · exact zqA
      refine pure_ (i := 7) (N := some 88) (v := ?_) (a' := ?_) #[false, true, true, true, false, true, true, true, false, false, false] rfl rfl (any_of HT_.out (by kernel_rfl)) (fun _ _ _ h => h) (Or.inl ⟨by rfl, ?_⟩) ?_ ?_
      rotate_left; · exact zqB
      rotate_left; · exact zqA
      refine pure_ (i := 8) (N := some 89) (v := ?_) (a' := ?_) #[false, true, true, true, false, true, true, true, true, false, false] rfl rfl (any_of HT_.out (by kernel_rfl)) (fun _ _ _ h => h) (Or.inl ⟨by rfl, ?_⟩) ?_ ?_
      rotate_left; · exact zqB
      rotate_left; · exact zqA
      refine one_ (i := 0) (N := some 81) #[true, true, true, true, false, true, true, true, true, false, false] rfl rfl (one_of HT_.out (by kernel_rfl)) (by decide) (fun K hK => ?_)
      refine Kd.R_lit_step k31 _ 31 ?hg (N := 81) ?hd (xs := ([] : List (S31))) (inner := []) (ok := fun _ => True) (okp := fun _ => True) ?hr ?hp (fun _ hk => hk) trivial (Below.refl _ _) (Nat.le_refl _) (by simp) ?_; (case hd => rfl); (case hg => rfl); (case hr => exact zqS); (case hp => exact (Reps.none _ _))
      intro v959 w56 ho57 hb hg_ hnew_
      clear hg_ hnew_
      (first | rw [← Ny958.out] at ho57 | (simp only [Int.reduceToNat] at ho57; rw [← Ny958.out] at ho57))
      have n0_ := Aside0.mk (Kd.R_elder' (zqR HO_4.out) (Kd.R_base ho57) hb)
      have n1_ := Aside0.mk (Kd.R_lower (Kd.R_newB (Kd.R_new' ho57 (Kd.R_lt (zqR HO_4.out))) (g := gb950) (o := .cells #[.int .i64 ((rd_T31 x4_4 x6_2).f0), .int .i64 ((rd_T31 x4_4 x6_2).f1), .int .i64 ((rd_T31 x4_4 x6_2).f2), .int .i64 ((rd_T31 x4_4 x6_2).f3), .int .i64 t953, .int .i64 t956] 31 (0, 0)) (zqK BK950.out)) (below_size zq22))
      have n2_ := Aside0.mk (blk_below (g := gb950) (o := .cells #[.int .i64 ((rd_T31 x4_4 x6_2).f0), .int .i64 ((rd_T31 x4_4 x6_2).f1), .int .i64 ((rd_T31 x4_4 x6_2).f2), .int .i64 ((rd_T31 x4_4 x6_2).f3), .int .i64 t953, .int .i64 t956] 31 (0, 0)) (zqK BK950.out) hb)
      have n3_ := Aside0.mk (Kd.C_below (by repeat (first | (with_reducible exact HR964.out) | (with_reducible refine Kd.C_alloc ?_ _) | (with_reducible refine Kd.C_drewN ?_ _) | (with_reducible refine Kd.C_drew ?_) | exact HR964.out)) hb)
      have n4_ := Aside0.mk (Kd.C_below (by repeat (first | (with_reducible exact HR971.out) | (with_reducible refine Kd.C_alloc ?_ _) | (with_reducible refine Kd.C_drewN ?_ _) | (with_reducible refine Kd.C_drew ?_) | exact HR971.out)) hb)
      have n5_ := Aside0.mk (below_step zq22 hb)
      clear HO_4
      clear BK950
      clear HR964
      clear HR971
      clear HB
      have HO_4 := n0_
      have HO960 := n1_
      have BK950 := n2_
      have HR964 := n3_
      have HR971 := n4_
      have HB := n5_
      clear n0_ n1_ n2_ n3_ n4_ n5_
      clear hb ho57
      refine hK.out _ _ trivial (fun hHeld => ?_)
      clear hK K
      refine norm_ (a' := ?_) ?_ ?_
      rotate_left
      ·
       show Act.put _ (some 81) _ = _
       simp only [Act.put, List.setIfInBounds_toArray, List.set_cons_zero, List.set_cons_succ, i64_w, i32_w]
       rfl
      refine one_ (i := 4) (N := some 85) #[true, true, true, true, true, true, true, true, true, false, false] rfl rfl (one_of HT_.out (by kernel_rfl)) (by decide) (fun K hK => ?_)
      refine Kd.R_append_rows_step k31 (w0 := w) w.heap.size (by rfl) (.tmp 81) (.tmp 84) 24 31 (.agg #[(.int .i64 0), (.int .i64 0), (.int .i64 0), (.int .i64 0), (.int .i64 0), (.int .i64 0)]) 48 rfl Try.underlying24 info31 rfl (by decide) (by omega) v959 y958 y961 _ _ _ (fun k_ => some k_ ≠ (.slice (some ⟨go28, 0, none⟩) x4_4.length co37 : Value).ownBlock ∧ k_ ≠ gb950) (fun _ => False) rfl rfl ?aO ?aR (fun _ _ h => h) (fun _ h => h.elim) ?aF ?aB ?aS ?aL ?_
      (case aR => repeat (first | exact (by repeat (first | (with_reducible exact HR964.out) | (with_reducible refine Kd.C_alloc ?_ _) | (with_reducible refine Kd.C_drewN ?_ _) | (with_reducible refine Kd.C_drew ?_) | exact HR964.out)) | (with_reducible refine Kd.C_alloc ?_ _) | (with_reducible refine Kd.C_drewN ?_ _) | (with_reducible refine Kd.C_drew ?_)))
      (case aB => exact zq22)
      (case aF => exact (fun k_ hk => ⟨Kd.fresh' (Kd.R_lt (zqR HO_4.out)) k_ hk, Kd.freshB (g := gb950) (o := .cells #[.int .i64 ((rd_T31 x4_4 x6_2).f0), .int .i64 ((rd_T31 x4_4 x6_2).f1), .int .i64 ((rd_T31 x4_4 x6_2).f2), .int .i64 ((rd_T31 x4_4 x6_2).f3), .int .i64 t953, .int .i64 t956] 31 (0, 0)) (zqK BK950.out) k_ hk⟩))
      (case aO => exact (by (with_reducible repeat (first | apply Kd.R_alloc | apply Kd.R_drewN | apply Kd.R_drew)); exact Kd.R_mono HO960.out (fun _ hk => ⟨hk.1.2, hk.2⟩)))
      (case aS => exact (below_size zq22))
      (case aL => have := LMc31.out; omega)
      intro v966 w58 ho hb hg hat
      rw [← Ny965.out] at ho
      have n0_ := Aside0.mk (Kd.R_after (ok := (fun k_ => k_ ≠ gb950)) (zqR HO_4.out) hg hat)
      have n1_ := Aside0.mk (blk_grown (g := gb950) (o := .cells #[.int .i64 ((rd_T31 x4_4 x6_2).f0), .int .i64 ((rd_T31 x4_4 x6_2).f1), .int .i64 ((rd_T31 x4_4 x6_2).f2), .int .i64 ((rd_T31 x4_4 x6_2).f3), .int .i64 t953, .int .i64 t956] 31 (0, 0)) (zqK BK950.out) hg (Kd.R_away HO960.out (fun _ hk => hk.2)))
      have n2_ := Aside0.mk (hb)
      have n3_ := Aside0.mk ((show Kd.C k31 w58 (some ⟨go28, 0, none⟩) y961.length y961 from by rw [Ny961.out]; exact Kd.C_take (m := (x7_4 : Int).toNat) ((Kd.R_reads' (Kd.R_after (ok := (fun k_ => k_ ≠ gb950)) (zqR HO_4.out) hg hat)).2.2) KL54.out))
      have n4_ := Aside0.mk ((show Kd.C k31 w58 A55 y968.length y968 from by rw [Ny968.out, KA55.out]; exact Kd.C_drop (m := ((ji32) : Int).toNat) (c := co37) ((Kd.R_reads' (Kd.R_after (ok := (fun k_ => k_ ≠ gb950)) (zqR HO_4.out) hg hat)).2.2) KL55.out (by rw [← KE55.out]; exact (Kd.R_reads' (Kd.R_after (ok := (fun k_ => k_ ≠ gb950)) (zqR HO_4.out) hg hat)).2.1)))
      have n5_ := Aside0.mk (ho)
      clear HO_4
      clear BK950
      clear HB
      clear HR964
      clear HR971
      clear HO960
      have HO_4 := n0_
      have BK950 := n1_
      have HB := n2_
      have HR964 := n3_
      have HR971 := n4_
      have HO967 := n5_
      clear n0_ n1_ n2_ n3_ n4_ n5_
      clear ho hb hg hat
      refine hK.out _ _ trivial (fun hHeld => ?_)
      clear hK K
      refine norm_ (a' := ?_) ?_ ?_
      rotate_left
      ·
       show Act.put _ (some 85) _ = _
       simp only [Act.put, List.setIfInBounds_toArray, List.set_cons_zero, List.set_cons_succ, i64_w, i32_w]
       rfl
      refine one_ (i := 9) (N := some 90) #[true, true, true, true, true, true, true, true, true, true, false] rfl rfl (one_of HT_.out (by kernel_rfl)) (by decide) (fun K hK => ?_)
      refine Kd.R_append_rows_step k31 (w0 := w) w.heap.size (by rfl) (.tmp 85) (.tmp 89) 24 31 (.agg #[(.int .i64 0), (.int .i64 0), (.int .i64 0), (.int .i64 0), (.int .i64 0), (.int .i64 0)]) 48 rfl Try.underlying24 info31 rfl (by decide) (by omega) v966 y965 y968 _ _ _ (fun k_ => some k_ ≠ (.slice (some ⟨go28, 0, none⟩) x4_4.length co37 : Value).ownBlock ∧ k_ ≠ gb950) (fun _ => False) rfl rfl ?aO ?aR (fun _ _ h => h) (fun _ h => h.elim) ?aF ?aB ?aS ?aL ?_
      (case aR => repeat (first | exact (by repeat (first | (with_reducible exact HR971.out) | (with_reducible refine Kd.C_alloc ?_ _) | (with_reducible refine Kd.C_drewN ?_ _) | (with_reducible refine Kd.C_drew ?_) | exact HR971.out)) | (with_reducible refine Kd.C_alloc ?_ _) | (with_reducible refine Kd.C_drewN ?_ _) | (with_reducible refine Kd.C_drew ?_)))
      (case aB => exact zq22)
      (case aF => exact (fun k_ hk => ⟨Kd.fresh' (Kd.R_lt (zqR HO_4.out)) k_ hk, Kd.freshB (g := gb950) (o := .cells #[.int .i64 ((rd_T31 x4_4 x6_2).f0), .int .i64 ((rd_T31 x4_4 x6_2).f1), .int .i64 ((rd_T31 x4_4 x6_2).f2), .int .i64 ((rd_T31 x4_4 x6_2).f3), .int .i64 t953, .int .i64 t956] 31 (0, 0)) (zqK BK950.out) k_ hk⟩))
      (case aO => exact (zqR HO967.out))
      (case aS => exact (below_size zq22))
      (case aL => have := LMc35.out; omega)
      intro v973 w59 ho hb hg hat
      rw [← Ny972.out] at ho
      have n0_ := Aside0.mk (Kd.R_after (ok := (fun k_ => k_ ≠ gb950)) (zqR HO_4.out) hg hat)
      have n1_ := Aside0.mk (blk_grown (g := gb950) (o := .cells #[.int .i64 ((rd_T31 x4_4 x6_2).f0), .int .i64 ((rd_T31 x4_4 x6_2).f1), .int .i64 ((rd_T31 x4_4 x6_2).f2), .int .i64 ((rd_T31 x4_4 x6_2).f3), .int .i64 t953, .int .i64 t956] 31 (0, 0)) (zqK BK950.out) hg (Kd.R_away HO967.out (fun _ hk => hk.2)))
      have n2_ := Aside0.mk (hb)
      have n3_ := Aside0.mk ((show Kd.C k31 w59 (some ⟨go28, 0, none⟩) y961.length y961 from by rw [Ny961.out]; exact Kd.C_take (m := (x7_4 : Int).toNat) ((Kd.R_reads' (Kd.R_after (ok := (fun k_ => k_ ≠ gb950)) (zqR HO_4.out) hg hat)).2.2) KL54.out))
      have n4_ := Aside0.mk ((show Kd.C k31 w59 A55 y968.length y968 from by rw [Ny968.out, KA55.out]; exact Kd.C_drop (m := ((ji32) : Int).toNat) (c := co37) ((Kd.R_reads' (Kd.R_after (ok := (fun k_ => k_ ≠ gb950)) (zqR HO_4.out) hg hat)).2.2) KL55.out (by rw [← KE55.out]; exact (Kd.R_reads' (Kd.R_after (ok := (fun k_ => k_ ≠ gb950)) (zqR HO_4.out) hg hat)).2.1)))
      have n5_ := Aside0.mk (ho)
      clear HO_4
      clear BK950
      clear HB
      clear HR964
      clear HR971
      clear HO967
      have HO_4 := n0_
      have BK950 := n1_
      have HB := n2_
      have HR964 := n3_
      have HR971 := n4_
      have HO974 := n5_
      clear n0_ n1_ n2_ n3_ n4_ n5_
      clear ho hb hg hat
      refine hK.out _ _ trivial (fun hHeld => ?_)
      clear hK K
      refine norm_ (a' := ?_) ?_ ?_
      rotate_left
      ·
       show Act.put _ (some 90) _ = _
       simp only [Act.put, List.setIfInBounds_toArray, List.set_cons_zero, List.set_cons_succ, i64_w, i32_w]
       rfl
      refine pure_ (i := 10) (N := some 4) (v := ?_) (a' := ?_) #[true, true, true, true, true, true, true, true, true, true, true] rfl rfl (any_of HT_.out (by kernel_rfl)) (fun _ _ _ h => h) (Or.inl ⟨by rfl, ?_⟩) ?_ ?_
      rotate_left; · exact zqB
      rotate_left; · exact zqA
      refine done_ (done_of HT_.out (by kernel_rfl)) ?_
      try go_wp2
      go_roundg kj14
      case measure => have := HK1.out; have := HK2.out; have := HJ9.out; have := HK4.out; have := HJ14.out; omega
      case rel => exact ⟨(y972), (true), (ji32), (by first | rfl | (simp; done) | (simp [*]; done)), (by first | rfl | (simp; done) | (simp only [← hji32] <;> (first | rfl | simp)) | (simp [*]; done)), H', ⟨by have := HK1.out; have := HK2.out; have := HJ9.out; have := HK4.out; have := HJ14.out; omega⟩, ⟨by (with_reducible repeat (first | apply Kd.R_alloc | apply Kd.R_drewN | apply Kd.R_drew)); exact Kd.R_mono HO974.out (fun _ hk => trivial)⟩, ⟨zq22⟩⟩
end Go.Proofs.Ytklepiechbnenaa.Q
