/- Texts of this seat, put together: Qf47, Qf30. -/
import Derived.Test.YtjgkinpjjbgcpaaDoorZFnShortTexts
import Derived.Test.YtjgkinpjjbgcpaaDoorBFnShortTexts0
import Derived.Test.YtjgkinpjjbgcpaaDoorBFnShortTexts1
import Derived.Test.YtjgkinpjjbgcpaaDoorBFnShortTexts7
namespace Go.Proofs.YtjgkinpjjbgcpaaDoor.Q
open Go.RowKit Go.Proofs.YtjgkinpjjbgcpaaDoorW.PrintWords Go.Proofs.YtjgkinpjjbgcpaaDoorW.PrintLast Go.Proofs.YtjgkinpjjbgcpaaDoorW.PrintMore
attribute [local go_sem] max2_int min2_int max_two min_two max_three min_three max_four min_four   -- for this text's walks alone
set_option linter.unusedVariables false
set_option linter.unusedSimpArgs false

/-! ### spec_l1Cur_warnings: function 47 -/
mutual
def spec_l1Cur_warnings.l0 : Nat → List (S25) → Int → Int → List Int → Int → Int → Option ((List (S25)) × Int × Int)
 | 0, _, _, _, _, _, _ => none
 | k + 1, x3, x4, x5, x1000, x1001, x1002 => if x5 > 0 then ((spec_l1Cur_warning.f k x1000 x1001 x1002).bind fun bt277 => ((spec_l1Cur_pick.f x1000 bt277.2.2.2.2.2.2.1 bt277.2.2.2.2.2.2.2 2).bind fun bt286 => ((some (([] : List (S25)) : List (S25))).bind fun y289 => (if y289.length + x3.length < 2932031007402 then ((some (y289 ++ x3 : List (S25))).bind fun y292 => ((some (([(⟨wrap64 ((wrap64 (x4 + 1)) + bt286.1), bt277.2.1, bt277.2.2.1, bt277.2.2.2.1, bt277.2.2.2.2.1, bt277.2.2.2.2.2.1⟩ : S25)] : List (S25)) : List (S25))).bind fun y295 => (if y292.length + y295.length < 2932031007402 then ((some (y292 ++ y295 : List (S25))).bind fun y298 => ((spec_l14List.f k y298).bind fun t301 => (spec_l1Cur_warnings.j1 k x3 (wrap64 ((wrap64 (x4 + 1)) + bt286.1)) x5 y298 t301 x1000 bt286.2.1 bt286.2.2))) else (none)))) else (none))))) else ((spec_l1Cur_pick.f x1000 x1001 x1002 24).bind fun bt302 => (if bt302.1 = 0 then ((spec_l1Cur_warning.f k x1000 bt302.2.1 bt302.2.2).bind fun bt305 => ((some (([(⟨bt305.1, bt305.2.1, bt305.2.2.1, bt305.2.2.2.1, bt305.2.2.2.2.1, bt305.2.2.2.2.2.1⟩ : S25)] : List (S25)) : List (S25))).bind fun y313 => (if x3.length + y313.length < 2932031007402 then (some ((x3 ++ y313), bt305.2.2.2.2.2.2.1, bt305.2.2.2.2.2.2.2)) else (none)))) else (if bt302.1 = 1 then (spec_l1Cur_warnings.l1 k x3 0 x1000 bt302.2.1 bt302.2.2) else (some (x3, bt302.2.1, bt302.2.2)))))
def spec_l1Cur_warnings.j1 : Nat → List (S25) → Int → Int → List (S25) → Bool → List Int → Int → Int → Option ((List (S25)) × Int × Int)
 | 0, _, _, _, _, _, _, _, _ => none
 | k + 1, x3, x4, x5, x7, x32, x1000, x1001, x1002 => if x32 = true then (spec_l1Cur_warnings.l0 k x7 x4 (wrap64 (x5 - 1)) x1000 x1001 x1002) else (spec_l1Cur_warnings.l0 k x3 x4 (wrap64 (x5 - 1)) x1000 x1001 x1002)
def spec_l1Cur_warnings.l1 : Nat → List (S25) → Int → List Int → Int → Int → Option ((List (S25)) × Int × Int)
 | 0, _, _, _, _, _ => none
 | k + 1, x3, x8, x1000, x1001, x1002 => (spec_l1Cur_pick.f x1000 x1001 x1002 2).bind fun bt319 => (if (x3.length : Int) < (wrap64 (12 + bt319.1)) then (if x8 < 14 then ((some (([(⟨wrap64 (100 + x8), 5, 1, 9, wrap64 (10 * x8), wrap64 ((wrap64 (10 * x8)) + 5)⟩ : S25)] : List (S25)) : List (S25))).bind fun y322 => (if x3.length + y322.length < 2932031007402 then (spec_l1Cur_warnings.l1 k (x3 ++ y322) (wrap64 (x8 + 1)) x1000 bt319.2.1 bt319.2.2) else (none))) else (some (x3, bt319.2.1, bt319.2.2))) else (some (x3, bt319.2.1, bt319.2.2)))
end
def spec_l1Cur_warnings.f (k : Nat) (s0_0 : List Int) (s0_1 : Int) (s0_2 : Int) : Option ((List (S25)) × Int × Int) := (spec_l1Cur_pick.f s0_0 s0_1 s0_2 7).bind fun bt274 => (spec_l1Cur_warnings.l0 k (([] : List (S25))) 0 bt274.1 s0_0 bt274.2.1 bt274.2.2)
theorem spec_l1Cur_warnings.mono_l : ∀ k, (∀ y0 y1 y2 y3 y4 y5, LeO (spec_l1Cur_warnings.l0 k y0 y1 y2 y3 y4 y5) (spec_l1Cur_warnings.l0 (k + 1) y0 y1 y2 y3 y4 y5)) ∧ (∀ y0 y1 y2 y3 y4 y5 y6 y7, LeO (spec_l1Cur_warnings.j1 k y0 y1 y2 y3 y4 y5 y6 y7) (spec_l1Cur_warnings.j1 (k + 1) y0 y1 y2 y3 y4 y5 y6 y7)) ∧ (∀ y0 y1 y2 y3 y4, LeO (spec_l1Cur_warnings.l1 k y0 y1 y2 y3 y4) (spec_l1Cur_warnings.l1 (k + 1) y0 y1 y2 y3 y4))
 | 0 => ⟨fun _ _ _ _ _ _ r h => by simp [spec_l1Cur_warnings.l0] at h, fun _ _ _ _ _ _ _ _ r h => by simp [spec_l1Cur_warnings.j1] at h, fun _ _ _ _ _ r h => by simp [spec_l1Cur_warnings.l1] at h⟩
 | k + 1 => by
  obtain ⟨ih0, ih1, ih2⟩ := spec_l1Cur_warnings.mono_l k
  refine ⟨?_, ?_, ?_⟩
  ·
   intro y0 y1 y2 y3 y4 y5
   unfold spec_l1Cur_warnings.l0
   repeat' first
   | (with_reducible exact ih0 _ _ _ _ _ _)
   | (with_reducible exact ih1 _ _ _ _ _ _ _ _)
   | (with_reducible exact ih2 _ _ _ _ _)
   | (with_reducible exact spec_l14List.mono _ _)
   | (with_reducible exact spec_l1Cur_warning.mono _ _ _ _)
   | (with_reducible exact LeO.refl _)
   | (with_reducible exact LeO.none _)
   | (with_reducible refine LeO.ite ?_ ?_)
   | (with_reducible refine LeO.bind ?_ (fun _ => ?_))
   | exact ih0 _ _ _ _ _ _
   | exact ih1 _ _ _ _ _ _ _ _
   | exact ih2 _ _ _ _ _
   | exact spec_l14List.mono _ _
   | exact spec_l1Cur_warning.mono _ _ _ _
   | exact LeO.none _
   | refine LeO.ite ?_ ?_
   | refine LeO.bind ?_ (fun _ => ?_)
  ·
   intro y0 y1 y2 y3 y4 y5 y6 y7
   unfold spec_l1Cur_warnings.j1
   repeat' first
   | (with_reducible exact ih0 _ _ _ _ _ _)
   | (with_reducible exact ih1 _ _ _ _ _ _ _ _)
   | (with_reducible exact ih2 _ _ _ _ _)
   | (with_reducible exact spec_l14List.mono _ _)
   | (with_reducible exact spec_l1Cur_warning.mono _ _ _ _)
   | (with_reducible exact LeO.refl _)
   | (with_reducible exact LeO.none _)
   | (with_reducible refine LeO.ite ?_ ?_)
   | (with_reducible refine LeO.bind ?_ (fun _ => ?_))
   | exact ih0 _ _ _ _ _ _
   | exact ih1 _ _ _ _ _ _ _ _
   | exact ih2 _ _ _ _ _
   | exact spec_l14List.mono _ _
   | exact spec_l1Cur_warning.mono _ _ _ _
   | exact LeO.none _
   | refine LeO.ite ?_ ?_
   | refine LeO.bind ?_ (fun _ => ?_)
  ·
   intro y0 y1 y2 y3 y4
   unfold spec_l1Cur_warnings.l1
   repeat' first
   | (with_reducible exact ih0 _ _ _ _ _ _)
   | (with_reducible exact ih1 _ _ _ _ _ _ _ _)
   | (with_reducible exact ih2 _ _ _ _ _)
   | (with_reducible exact spec_l14List.mono _ _)
   | (with_reducible exact spec_l1Cur_warning.mono _ _ _ _)
   | (with_reducible exact LeO.refl _)
   | (with_reducible exact LeO.none _)
   | (with_reducible refine LeO.ite ?_ ?_)
   | (with_reducible refine LeO.bind ?_ (fun _ => ?_))
   | exact ih0 _ _ _ _ _ _
   | exact ih1 _ _ _ _ _ _ _ _
   | exact ih2 _ _ _ _ _
   | exact spec_l14List.mono _ _
   | exact spec_l1Cur_warning.mono _ _ _ _
   | exact LeO.none _
   | refine LeO.ite ?_ ?_
   | refine LeO.bind ?_ (fun _ => ?_)
theorem spec_l1Cur_warnings.mono : ∀ a0 a1 a2 k, LeO (spec_l1Cur_warnings.f k a0 a1 a2) (spec_l1Cur_warnings.f (k + 1) a0 a1 a2) := by
 intro a0 a1 a2 k
 obtain ⟨ih0, ih1, ih2⟩ := spec_l1Cur_warnings.mono_l k
 unfold spec_l1Cur_warnings.f
 repeat' first
   | (with_reducible exact ih0 _ _ _ _ _ _)
   | (with_reducible exact ih1 _ _ _ _ _ _ _ _)
   | (with_reducible exact ih2 _ _ _ _ _)
   | (with_reducible exact spec_l14List.mono _ _)
   | (with_reducible exact spec_l1Cur_warning.mono _ _ _ _)
   | (with_reducible exact LeO.refl _)
   | (with_reducible exact LeO.none _)
   | (with_reducible refine LeO.ite ?_ ?_)
   | (with_reducible refine LeO.bind ?_ (fun _ => ?_))
   | exact ih0 _ _ _ _ _ _
   | exact ih1 _ _ _ _ _ _ _ _
   | exact ih2 _ _ _ _ _
   | exact spec_l14List.mono _ _
   | exact spec_l1Cur_warning.mono _ _ _ _
   | exact LeO.none _
   | refine LeO.ite ?_ ?_
   | refine LeO.bind ?_ (fun _ => ?_)
set_option maxHeartbeats 8000000 in
set_option maxRecDepth 100000 in
theorem spec_l1Cur_warnings.calls (k : Nat) (g : Nat) (s0_0 : List Int) (s0_1 : Int) (s0_2 : Int) (r1 : List (S25)) (r2 : Int) (r3 : Int) (w0 w : World) (hI : IsS46 w0 w g s0_0 s0_1 s0_2) (hB : Below w0.heap.size w0 w) (h : spec_l1Cur_warnings.f k s0_0 s0_1 s0_2 = some (r1, r2, r3)) :
  Calls Tryd.prog 47 #[.pointer (some ⟨g, 0, none⟩)] w fun e w' => ∃ v0_ : Value, e = .returned (v0_) ∧ Kd.R k25 25 w' w.heap.size (fun _ => True) v0_ r1 ∧ IsS46 w0 w' g s0_0 r2 r3 ∧ Below w0.heap.size w0 w' ∧ KeepBut w w' g none := by
 have hu25 := Tryd.underlying25
 have HI0 := Aside0.mk hI
 have HK := Aside0.mk (KeepBut.refl w g none)
 have HL := Aside0.mk hB.size
 clear hI
 have HW0 := Aside0.mk hB.size
 have HB := Aside0.mk hB
 clear hB
 have H : ((spec_l1Cur_pick.f s0_0 s0_1 s0_2 7).bind fun bt274 => (spec_l1Cur_warnings.l0 k (([] : List (S25))) 0 bt274.1 s0_0 bt274.2.1 bt274.2.2)) = some (r1, r2, r3) := h
 clear h
 obtain ⟨y271, hy271⟩ : ∃ y_ : List (S25), y_ = (([] : List (S25))) := ⟨_, rfl⟩
 replace H : ((spec_l1Cur_pick.f s0_0 s0_1 s0_2 7).bind fun bt274 => (spec_l1Cur_warnings.l0 k y271 0 bt274.1 s0_0 bt274.2.1 bt274.2.2)) = some (r1, r2, r3) := zqH hy271 H
 have Ny271 := Aside0.mk hy271
 clear hy271
 replace H := Option.bind_eq_some_iff.mp H
 obtain ⟨⟨t274, t275, t276⟩, A20, H⟩ := H
 replace H : (spec_l1Cur_warnings.l0 k y271 0 t274 s0_0 t275 t276) = some (r1, r2, r3) := H
 have A2 := Aside0.mk A20
 clear A20
 have H' := Aside0.mk H
 clear H
 go_enter Tryd.func47, Tryd.ntmps47
 go_wp2_with (first | ((with_reducible refine gate_dst (N := 9) rfl ?_); refine Kd.R_lit k25 _ 25 ?hg (N := 9) ?hd (xs := ([] : List (S25))) (inner := []) (ok := fun _ => True) (okp := fun _ => True) ?hr ?hp (fun _ hk => hk) trivial (Below.refl _ _) (Nat.le_refl _) (by simp) ?_; (case hd => rfl); (case hg => rfl); (case hr => exact zqS); (case hp => exact (Reps.none _ _)); intro v272 w3 ho4 hb hg_ hnew_; clear hg_ hnew_; (first | rw [← Ny271.out] at ho4 | (simp only [Int.reduceToNat] at ho4; rw [← Ny271.out] at ho4)); have n0_ := Aside0.mk (Kd.R_lower ho4 (keep_size (w := w) (g := g) (row := none) zq2)); have n1_ := Aside0.mk (IsS46.below zq4 hb); have n2_ := Aside0.mk (KeepBut.trans zq2 (KeepBut.of_below hb g none) (.inl rfl)); have n3_ := Aside0.mk (below_step zq3 hb); clear HI0; clear HK; clear HB; have HO273 := n0_; have HI0 := n1_; have HK := n2_; have HB := n3_; clear n0_ n1_ n2_ n3_; clear hb ho4) | ((with_reducible refine gate_callee (f := 38) rfl ?_); refine goesL_ (some 11) rfl rfl Tryd.func38 (by kernel_rfl) rfl #[.pointer (some ⟨g, 0, none⟩), .int .i64 7] rfl zq1 ?_; (with_reducible refine (spec_l1Cur_pick.calls g s0_0 s0_1 s0_2 7 t274 t275 t276 w0 _ ?side1 ?side2 A2.out).mono ?_); (case side1 => exact zq4); (case side2 => exact zq3); rintro e w5 ⟨rfl, hi, hb, hk⟩; refine ⟨_, rfl, ?_⟩; have n0_ := Aside0.mk (Kd.R_mono (Kd.R_keep (IsS46.apart (show IsS46 w0 _ g s0_0 s0_1 s0_2 from by repeat (first | (with_reducible first | exact HI0.out | apply IsS46.alloc | apply IsS46.drewN | apply IsS46.drew | apply IsS46.set_1 | apply IsS46.set_2) | exact HI0.out)) (zqR HO273.out) (by decide)) hk (fun _ h => h.2)) (fun _ h => h.1)); have n1_ := Aside0.mk (KeepBut.trans zq2 hk (.inl rfl)); have n2_ := Aside0.mk (hb); have n3_ := Aside0.mk (hi); clear HO273; clear HK; clear HB; clear HI0; have HO273 := n0_; have HK := n1_; have HB := n2_; have HI0 := n3_; clear n0_ n1_ n2_ n3_; (try clear hb); (try clear hb2); (try clear hk); (try clear hi)))
 go_loopg [3, 4, 5] k (fun kq v3 v4 v5 w' => ∃ (x3_1 : List (S25)) (x4_1 : Int) (x5_1 : Int) (x1001_1 : Int) (x1002_1 : Int), v4 = .int .i64 x4_1 ∧ v5 = .int .i64 x5_1 ∧ Aside0 (spec_l1Cur_warnings.l0 kq x3_1 x4_1 x5_1 s0_0 x1001_1 x1002_1 = some (r1, r2, r3)) ∧ Aside0 (kq ≤ k) ∧ Aside0 (Kd.R k25 25 w' w.heap.size (fun _ => True) v3 x3_1) ∧ Aside0 (IsS46 w0 w' g s0_0 x1001_1 x1002_1) ∧ Aside0 (KeepBut w w' g none) ∧ Aside0 (Below w0.heap.size w0 w'))
 case atStart => exact ⟨(y271), (0), (t274), (t275), (t276), (by first | rfl | (simp; done) | (simp [*]; done)), (by first | rfl | (simp; done) | (simp [*]; done)), H', ⟨Nat.le_refl _⟩, ⟨zqR HO273.out⟩, ⟨zq4⟩, ⟨zq2⟩, ⟨zq3⟩⟩
 clear H'
 try clear p2
 try clear c3
 try clear c4
 obtain ⟨x3_1, x4_1, x5_1, x1001_1, x1002_1, rfl, rfl, HA, HK1, HO_3, HI0, HK, HB⟩ := hrel
 cases gk with
 | zero => exact absurd HA.out (by simp [spec_l1Cur_warnings.l0])
 | succ k1 =>
  have H := HA.out
  clear HA
  simp only [spec_l1Cur_warnings.l0] at H
  by_cases c6 : x5_1 > 0
  case neg =>
   rw [if_neg c6] at H
   have c6b0 : decide (0 < x5_1) = false := decide_eq_false c6
   clear c6
   replace H := Option.bind_eq_some_iff.mp H
   obtain ⟨⟨t302, t303, t304⟩, A330, H⟩ := H
   replace H : (if t302 = 0 then ((spec_l1Cur_warning.f k1 s0_0 t303 t304).bind fun bt305 => ((some (([(⟨bt305.1, bt305.2.1, bt305.2.2.1, bt305.2.2.2.1, bt305.2.2.2.2.1, bt305.2.2.2.2.2.1⟩ : S25)] : List (S25)) : List (S25))).bind fun y313 => (if x3_1.length + y313.length < 2932031007402 then (some ((x3_1 ++ y313), bt305.2.2.2.2.2.2.1, bt305.2.2.2.2.2.2.2)) else (none)))) else (if t302 = 1 then (spec_l1Cur_warnings.l1 k1 x3_1 0 s0_0 t303 t304) else (some (x3_1, t303, t304)))) = some (r1, r2, r3) := H
   have A33 := Aside0.mk A330
   clear A330
   by_cases c34 : t302 = 0
   case pos =>
    rw [if_pos c34] at H
    have c34b0 : (t302 == 0) = true := beq_iff_eq.mpr c34
    have c34b1 : (t302 != 0) = false := bne_eq_false_iff_eq.mpr c34
    clear c34
    replace H := Option.bind_eq_some_iff.mp H
    obtain ⟨⟨t305, t306, t307, t308, t309, t310, t311, t312⟩, A350, H⟩ := H
    replace H : ((some (([(⟨t305, t306, t307, t308, t309, t310⟩ : S25)] : List (S25)) : List (S25))).bind fun y313 => (if x3_1.length + y313.length < 2932031007402 then (some ((x3_1 ++ y313), t311, t312)) else (none))) = some (r1, r2, r3) := H
    have A35 := Aside0.mk A350
    clear A350
    obtain ⟨y313, hy313⟩ : ∃ y_ : List (S25), y_ = (([(⟨t305, t306, t307, t308, t309, t310⟩ : S25)] : List (S25))) := ⟨_, rfl⟩
    replace H : (if x3_1.length + y313.length < 2932031007402 then (some ((x3_1 ++ y313), t311, t312)) else (none)) = some (r1, r2, r3) := zqH hy313 H
    have Ny313 := Aside0.mk hy313
    clear hy313
    by_cases c36 : x3_1.length + y313.length < 2932031007402
    case neg =>
     rw [if_neg c36] at H
     exact absurd H (by simp)
    rw [if_pos c36] at H
    have LMc36 := Aside0.mk c36
    clear c36
    obtain ⟨y316, hy316⟩ : ∃ y_ : List (S25), y_ = (x3_1 ++ y313) := ⟨_, rfl⟩
    replace H : (some (y316, t311, t312)) = some (r1, r2, r3) := zqH hy316 H
    have Ny316 := Aside0.mk hy316
    clear hy316
    simp only [Option.some.injEq, Prod.mk.injEq] at H
    obtain ⟨rfl, rfl, rfl⟩ := H
    go_wp2_with (first | ((with_reducible refine gate_callee (f := 38) rfl ?_); refine goesL_ (some 35) rfl rfl Tryd.func38 (by kernel_rfl) rfl #[.pointer (some ⟨g, 0, none⟩), .int .i64 24] rfl zq1 ?_; (with_reducible refine (spec_l1Cur_pick.calls g s0_0 x1001_1 x1002_1 24 t302 t303 t304 w0 _ ?side1 ?side2 A33.out).mono ?_); (case side1 => exact zq4); (case side2 => exact zq3); rintro e w37 ⟨rfl, hi, hb, hk⟩; refine ⟨_, rfl, ?_⟩; have n0_ := Aside0.mk (Kd.R_mono (Kd.R_keep (IsS46.apart (show IsS46 w0 _ g s0_0 x1001_1 x1002_1 from by repeat (first | (with_reducible first | exact HI0.out | apply IsS46.alloc | apply IsS46.drewN | apply IsS46.drew | apply IsS46.set_1 | apply IsS46.set_2) | exact HI0.out)) (zqR HO_3.out) (by decide)) hk (fun _ h => h.2)) (fun _ h => h.1)); have n1_ := Aside0.mk (KeepBut.trans zq2 hk (.inl rfl)); have n2_ := Aside0.mk (hb); have n3_ := Aside0.mk (hi); clear HO_3; clear HK; clear HB; clear HI0; have HO_3 := n0_; have HK := n1_; have HB := n2_; have HI0 := n3_; clear n0_ n1_ n2_ n3_; (try clear hb); (try clear hb2); (try clear hk); (try clear hi)) | ((with_reducible refine gate_callee (f := 24) rfl ?_); refine goesL_ (some 40) rfl rfl Tryd.func24 (by kernel_rfl) rfl #[.pointer (some ⟨g, 0, none⟩)] rfl zq1 ?_; (with_reducible refine (spec_l1Cur_warning.calls k1 g s0_0 t303 t304 t305 t306 t307 t308 t309 t310 t311 t312 w0 _ ?side1 ?side2 A35.out).mono ?_); (case side1 => exact zq4); (case side2 => exact zq3); rintro e w38 ⟨rfl, hi, hb, hk⟩; refine ⟨_, rfl, ?_⟩; have n0_ := Aside0.mk (Kd.R_mono (Kd.R_keep (IsS46.apart (show IsS46 w0 _ g s0_0 t303 t304 from by repeat (first | (with_reducible first | exact HI0.out | apply IsS46.alloc | apply IsS46.drewN | apply IsS46.drew | apply IsS46.set_1 | apply IsS46.set_2) | exact HI0.out)) (zqR HO_3.out) (by decide)) hk (fun _ h => h.2)) (fun _ h => h.1)); have n1_ := Aside0.mk (KeepBut.trans zq2 hk (.inl rfl)); have n2_ := Aside0.mk (hb); have n3_ := Aside0.mk (hi); clear HO_3; clear HK; clear HB; clear HI0; have HO_3 := n0_; have HK := n1_; have HB := n2_; have HI0 := n3_; clear n0_ n1_ n2_ n3_; (try clear hb); (try clear hb2); (try clear hk); (try clear hi)) | ((with_reducible refine gate_dst (N := 41) rfl ?_); refine Kd.R_lit k25 _ 25 ?hg (N := 41) ?hd (xs := ([(⟨t305, t306, t307, t308, t309, t310⟩ : S25)] : List (S25))) (inner := [.int .i64 t305, .int .i64 t306, .int .i64 t307, .int .i64 t308, .int .i64 t309, .int .i64 t310]) (ok := fun _ => True) (okp := fun _ => True) ?hr ?hp (fun _ hk => hk) trivial (Below.refl _ _) (Nat.le_refl _) (by simp) ?_; (case hd => rfl); (case hg => rfl); (case hr => exact zqS); (case hp => exact (Reps.c6 (show Kd.M k25 _ _ _ (⟨t305, t306, t307, t308, t309, t310⟩ : S25) [.int .i64 t305, .int .i64 t306, .int .i64 t307, .int .i64 t308, .int .i64 t309, .int .i64 t310] from (k25_mkM _ _ _ (⟨t305, t306, t307, t308, t309, t310⟩ : S25) )) (Reps.none _ _))); intro v314 w39 ho40 hb hg_ hnew_; clear hg_ hnew_; (first | rw [← Ny313.out] at ho40 | (simp only [Int.reduceToNat] at ho40; rw [← Ny313.out] at ho40)); have n0_ := Aside0.mk (Kd.R_elder' (zqR HO_3.out) (Kd.R_base ho40) hb); have n1_ := Aside0.mk (Kd.R_lower (Kd.R_new' ho40 (Kd.R_lt (zqR HO_3.out))) (keep_size (w := w) (g := g) (row := none) zq2)); have n2_ := Aside0.mk (IsS46.below zq4 hb); have n3_ := Aside0.mk (KeepBut.trans zq2 (KeepBut.of_below hb g none) (.inl rfl)); have n4_ := Aside0.mk (below_step zq3 hb); clear HO_3; clear HI0; clear HK; clear HB; have HO_3 := n0_; have HO315 := n1_; have HI0 := n2_; have HK := n3_; have HB := n4_; clear n0_ n1_ n2_ n3_ n4_; clear hb ho40; obtain ⟨Ao42, co42, eo42⟩ := Kd.R_slice HO315.out; subst eo42) | ((with_reducible refine gate_builtin (b := .append) (xs := #[.tmp 38, .tmp 41]) rfl ?_); at_builtin; refine Kd.R_append_rows k25 w.heap.size rfl (.tmp 38) (.tmp 41) 29 25 (.agg #[(.int .i64 0), (.int .i64 0), (.int .i64 0), (.int .i64 0), (.int .i64 0), (.int .i64 0)]) 48 rfl Tryd.underlying29 info25 rfl (by decide) (by omega) u3 x3_1 y313 _ _ _ (fun k_ => some k_ ≠ (.slice Ao42 y313.length co42 : Value).ownBlock) (fun _ => False) rfl rfl ?aO ?aR (fun _ _ h => h) (fun _ h => h.elim) ?aF (Below.refl _ _) ?aS ?aL ?_; (case aR => exact zqC (Kd.R_reads' HO315.out).2.2); (case aF => exact (fun k_ hk => Kd.fresh' (Kd.R_lt (zqR HO315.out)) k_ hk)); (case aO => exact (by (with_reducible repeat (first | apply Kd.R_alloc | apply Kd.R_drewN | apply Kd.R_drew)); exact Kd.R_mono HO_3.out (fun _ hk => hk.2))); (case aS => exact (keep_size (w := w) (g := g) (row := none) zq2)); (case aL => have := LMc36.out; omega); intro v317 w41 ho hb hg hat; rw [← Ny316.out] at ho; have n0_ := Aside0.mk (IsS46.grown zq4 hg (IsS46.own_ne HI0.out HO_3.out (by decide))); have n1_ := Aside0.mk (Kd.R_after (ok := (fun _ => True)) (zqR HO315.out) hg hat); have n2_ := Aside0.mk (below_weaken zq3 HL.out hb); have n3_ := Aside0.mk (KeepBut.trans zq2 (KeepBut.of_grown hg g) (Kd.R_base2 HO_3.out)); have n4_ := Aside0.mk (ho); clear HI0; clear HO315; clear HB; clear HK; clear HO_3; have HI0 := n0_; have HO315 := n1_; have HB := n2_; have HK := n3_; have HO318 := n4_; clear n0_ n1_ n2_ n3_ n4_; clear ho hb hg hat))
    go_ret
    exact ⟨_, by first | rfl | (simp [errW_none, errW_some] <;> rfl) | (simp [*, errW_none, errW_some] <;> rfl), by (with_reducible repeat (first | apply Kd.R_alloc | apply Kd.R_drewN | apply Kd.R_drew)); exact Kd.R_mono HO318.out (fun _ hk => trivial), zq4, zq3, zq2⟩
   rw [if_neg c34] at H
   have c34b0 : (t302 == 0) = false := beq_eq_false_iff_ne.mpr c34
   have c34b1 : (t302 != 0) = true := bne_iff_ne.mpr c34
   by_cases c43 : t302 = 1
   case neg =>
    rw [if_neg c43] at H
    have c43b0 : (t302 == 1) = false := beq_eq_false_iff_ne.mpr c43
    have c43b1 : (t302 != 1) = true := bne_iff_ne.mpr c43
    simp only [Option.some.injEq, Prod.mk.injEq] at H
    obtain ⟨rfl, rfl, rfl⟩ := H
    go_wp2_with (first | ((with_reducible refine gate_callee (f := 38) rfl ?_); refine goesL_ (some 35) rfl rfl Tryd.func38 (by kernel_rfl) rfl #[.pointer (some ⟨g, 0, none⟩), .int .i64 24] rfl zq1 ?_; (with_reducible refine (spec_l1Cur_pick.calls g s0_0 x1001_1 x1002_1 24 t302 t303 t304 w0 _ ?side1 ?side2 A33.out).mono ?_); (case side1 => exact zq4); (case side2 => exact zq3); rintro e w59 ⟨rfl, hi, hb, hk⟩; refine ⟨_, rfl, ?_⟩; have n0_ := Aside0.mk (Kd.R_mono (Kd.R_keep (IsS46.apart (show IsS46 w0 _ g s0_0 x1001_1 x1002_1 from by repeat (first | (with_reducible first | exact HI0.out | apply IsS46.alloc | apply IsS46.drewN | apply IsS46.drew | apply IsS46.set_1 | apply IsS46.set_2) | exact HI0.out)) (zqR HO_3.out) (by decide)) hk (fun _ h => h.2)) (fun _ h => h.1)); have n1_ := Aside0.mk (KeepBut.trans zq2 hk (.inl rfl)); have n2_ := Aside0.mk (hb); have n3_ := Aside0.mk (hi); clear HO_3; clear HK; clear HB; clear HI0; have HO_3 := n0_; have HK := n1_; have HB := n2_; have HI0 := n3_; clear n0_ n1_ n2_ n3_; (try clear hb); (try clear hb2); (try clear hk); (try clear hi)))
    go_ret
    exact ⟨_, by first | rfl | (simp [errW_none, errW_some] <;> rfl) | (simp [*, errW_none, errW_some] <;> rfl), zqR HO_3.out, zq4, zq3, zq2⟩
   rw [if_pos c43] at H
   have c43b0 : (t302 == 1) = true := beq_iff_eq.mpr c43
   have c43b1 : (t302 != 1) = false := bne_eq_false_iff_eq.mpr c43
   clear c43
   have H' := Aside0.mk H
   clear H
   go_wp2_with (first | ((with_reducible refine gate_callee (f := 38) rfl ?_); refine goesL_ (some 35) rfl rfl Tryd.func38 (by kernel_rfl) rfl #[.pointer (some ⟨g, 0, none⟩), .int .i64 24] rfl zq1 ?_; (with_reducible refine (spec_l1Cur_pick.calls g s0_0 x1001_1 x1002_1 24 t302 t303 t304 w0 _ ?side1 ?side2 A33.out).mono ?_); (case side1 => exact zq4); (case side2 => exact zq3); rintro e w44 ⟨rfl, hi, hb, hk⟩; refine ⟨_, rfl, ?_⟩; have n0_ := Aside0.mk (Kd.R_mono (Kd.R_keep (IsS46.apart (show IsS46 w0 _ g s0_0 x1001_1 x1002_1 from by repeat (first | (with_reducible first | exact HI0.out | apply IsS46.alloc | apply IsS46.drewN | apply IsS46.drew | apply IsS46.set_1 | apply IsS46.set_2) | exact HI0.out)) (zqR HO_3.out) (by decide)) hk (fun _ h => h.2)) (fun _ h => h.1)); have n1_ := Aside0.mk (KeepBut.trans zq2 hk (.inl rfl)); have n2_ := Aside0.mk (hb); have n3_ := Aside0.mk (hi); clear HO_3; clear HK; clear HB; clear HI0; have HO_3 := n0_; have HK := n1_; have HB := n2_; have HI0 := n3_; clear n0_ n1_ n2_ n3_; (try clear hb); (try clear hb2); (try clear hk); (try clear hi)))
   go_loopg [3, 8] k1 (fun kq v3 v8 w' => ∃ (x3_2 : List (S25)) (x8_2 : Int) (x1001_2 : Int) (x1002_2 : Int), v8 = .int .i64 x8_2 ∧ Aside0 (spec_l1Cur_warnings.l1 kq x3_2 x8_2 s0_0 x1001_2 x1002_2 = some (r1, r2, r3)) ∧ Aside0 (kq ≤ k1) ∧ Aside0 (Kd.R k25 25 w' w.heap.size (fun _ => True) v3 x3_2) ∧ Aside0 (IsS46 w0 w' g s0_0 x1001_2 x1002_2) ∧ Aside0 (KeepBut w w' g none) ∧ Aside0 (Below w0.heap.size w0 w'))
   case atStart => exact ⟨(x3_1), (0), (t303), (t304), (by first | rfl | (simp; done) | (simp [*]; done)), H', ⟨Nat.le_refl _⟩, ⟨zqR HO_3.out⟩, ⟨zq4⟩, ⟨zq2⟩, ⟨zq3⟩⟩
   clear H'
   try clear c1
   try clear c2
   try clear p2
   try clear c3
   try clear c4
   try clear c5
   try clear c6
   try clear c6b0
   try clear p6
   try clear c9
   try clear c10
   try clear c14
   try clear c24
   try clear c32
   try clear c34
   try clear c34b0
   try clear c34b1
   try clear c36
   try clear c38
   try clear c43
   try clear c43b0
   try clear c43b1
   try clear hcz15_0
   try clear hcz15_1
   try clear hcz15_2
   try clear hcz15_3
   try clear hcz15_4
   try clear hcz15_5
   try clear hcz17_0
   try clear hcz17_1
   try clear hcz17_2
   try clear hcz17_3
   try clear hcz17_4
   try clear hcz17_5
   try clear hfz15_0
   try clear hfz15_1
   try clear hfz15_2
   try clear hfz15_3
   try clear hfz15_4
   try clear hfz15_5
   try clear hfz17_0
   try clear hfz17_1
   try clear hfz17_2
   try clear hfz17_3
   try clear hfz17_4
   try clear hfz17_5
   try clear p2
   try clear p6
   obtain ⟨x3_2, x8_2, x1001_2, x1002_2, rfl, HA, HK2, HO_3, HI0, HK, HB⟩ := hrel
   cases gk with
   | zero => exact absurd HA.out (by simp [spec_l1Cur_warnings.l1])
   | succ k2 =>
    have H := HA.out
    clear HA
    simp only [spec_l1Cur_warnings.l1] at H
    replace H := Option.bind_eq_some_iff.mp H
    obtain ⟨⟨t319, t320, t321⟩, A450, H⟩ := H
    replace H : (if (x3_2.length : Int) < (wrap64 (12 + t319)) then (if x8_2 < 14 then ((some (([(⟨wrap64 (100 + x8_2), 5, 1, 9, wrap64 (10 * x8_2), wrap64 ((wrap64 (10 * x8_2)) + 5)⟩ : S25)] : List (S25)) : List (S25))).bind fun y322 => (if x3_2.length + y322.length < 2932031007402 then (spec_l1Cur_warnings.l1 k2 (x3_2 ++ y322) (wrap64 (x8_2 + 1)) s0_0 t320 t321) else (none))) else (some (x3_2, t320, t321))) else (some (x3_2, t320, t321))) = some (r1, r2, r3) := H
    have A45 := Aside0.mk A450
    clear A450
    by_cases c46 : (x3_2.length : Int) < (wrap64 (12 + t319))
    case neg =>
     rw [if_neg c46] at H
     have c46b0 : decide ((x3_2.length : Int) < (wrap64 (12 + t319))) = false := decide_eq_false c46
     clear c46
     simp only [Option.some.injEq, Prod.mk.injEq] at H
     obtain ⟨rfl, rfl, rfl⟩ := H
     obtain ⟨Ao57, co57, eo57⟩ := Kd.R_slice HO_3.out
     subst eo57
     go_wp2_with (first | ((with_reducible refine gate_callee (f := 38) rfl ?_); refine goesL_ (some 48) rfl rfl Tryd.func38 (by kernel_rfl) rfl #[.pointer (some ⟨g, 0, none⟩), .int .i64 2] rfl zq1 ?_; (with_reducible refine (spec_l1Cur_pick.calls g s0_0 x1001_2 x1002_2 2 t319 t320 t321 w0 _ ?side1 ?side2 A45.out).mono ?_); (case side1 => exact zq4); (case side2 => exact zq3); rintro e w58 ⟨rfl, hi, hb, hk⟩; refine ⟨_, rfl, ?_⟩; have n0_ := Aside0.mk (Kd.R_mono (Kd.R_keep (IsS46.apart (show IsS46 w0 _ g s0_0 x1001_2 x1002_2 from by repeat (first | (with_reducible first | exact HI0.out | apply IsS46.alloc | apply IsS46.drewN | apply IsS46.drew | apply IsS46.set_1 | apply IsS46.set_2) | exact HI0.out)) (zqR HO_3.out) (by decide)) hk (fun _ h => h.2)) (fun _ h => h.1)); have n1_ := Aside0.mk (KeepBut.trans zq2 hk (.inl rfl)); have n2_ := Aside0.mk (hb); have n3_ := Aside0.mk (hi); clear HO_3; clear HK; clear HB; clear HI0; have HO_3 := n0_; have HK := n1_; have HB := n2_; have HI0 := n3_; clear n0_ n1_ n2_ n3_; (try clear hb); (try clear hb2); (try clear hk); (try clear hi)))
     go_ret
     exact ⟨_, by first | rfl | (simp [errW_none, errW_some] <;> rfl) | (simp [*, errW_none, errW_some] <;> rfl), zqR HO_3.out, zq4, zq3, zq2⟩
    rw [if_pos c46] at H
    have c46b0 : decide ((x3_2.length : Int) < (wrap64 (12 + t319))) = true := decide_eq_true c46
    clear c46
    by_cases c47 : x8_2 < 14
    case neg =>
     rw [if_neg c47] at H
     have c47b0 : decide (x8_2 < 14) = false := decide_eq_false c47
     clear c47
     simp only [Option.some.injEq, Prod.mk.injEq] at H
     obtain ⟨rfl, rfl, rfl⟩ := H
     obtain ⟨Ao55, co55, eo55⟩ := Kd.R_slice HO_3.out
     subst eo55
     go_wp2_with (first | ((with_reducible refine gate_callee (f := 38) rfl ?_); refine goesL_ (some 48) rfl rfl Tryd.func38 (by kernel_rfl) rfl #[.pointer (some ⟨g, 0, none⟩), .int .i64 2] rfl zq1 ?_; (with_reducible refine (spec_l1Cur_pick.calls g s0_0 x1001_2 x1002_2 2 t319 t320 t321 w0 _ ?side1 ?side2 A45.out).mono ?_); (case side1 => exact zq4); (case side2 => exact zq3); rintro e w56 ⟨rfl, hi, hb, hk⟩; refine ⟨_, rfl, ?_⟩; have n0_ := Aside0.mk (Kd.R_mono (Kd.R_keep (IsS46.apart (show IsS46 w0 _ g s0_0 x1001_2 x1002_2 from by repeat (first | (with_reducible first | exact HI0.out | apply IsS46.alloc | apply IsS46.drewN | apply IsS46.drew | apply IsS46.set_1 | apply IsS46.set_2) | exact HI0.out)) (zqR HO_3.out) (by decide)) hk (fun _ h => h.2)) (fun _ h => h.1)); have n1_ := Aside0.mk (KeepBut.trans zq2 hk (.inl rfl)); have n2_ := Aside0.mk (hb); have n3_ := Aside0.mk (hi); clear HO_3; clear HK; clear HB; clear HI0; have HO_3 := n0_; have HK := n1_; have HB := n2_; have HI0 := n3_; clear n0_ n1_ n2_ n3_; (try clear hb); (try clear hb2); (try clear hk); (try clear hi)))
     go_ret
     exact ⟨_, by first | rfl | (simp [errW_none, errW_some] <;> rfl) | (simp [*, errW_none, errW_some] <;> rfl), zqR HO_3.out, zq4, zq3, zq2⟩
    rw [if_pos c47] at H
    have c47b0 : decide (x8_2 < 14) = true := decide_eq_true c47
    clear c47
    obtain ⟨y322, hy322⟩ : ∃ y_ : List (S25), y_ = (([(⟨wrap64 (100 + x8_2), 5, 1, 9, wrap64 (10 * x8_2), wrap64 ((wrap64 (10 * x8_2)) + 5)⟩ : S25)] : List (S25))) := ⟨_, rfl⟩
    replace H : (if x3_2.length + y322.length < 2932031007402 then (spec_l1Cur_warnings.l1 k2 (x3_2 ++ y322) (wrap64 (x8_2 + 1)) s0_0 t320 t321) else (none)) = some (r1, r2, r3) := zqH hy322 H
    have Ny322 := Aside0.mk hy322
    clear hy322
    by_cases c48 : x3_2.length + y322.length < 2932031007402
    case neg =>
     rw [if_neg c48] at H
     exact absurd H (by simp)
    rw [if_pos c48] at H
    have LMc48 := Aside0.mk c48
    clear c48
    obtain ⟨y325, hy325⟩ : ∃ y_ : List (S25), y_ = (x3_2 ++ y322) := ⟨_, rfl⟩
    replace H : (spec_l1Cur_warnings.l1 k2 y325 (wrap64 (x8_2 + 1)) s0_0 t320 t321) = some (r1, r2, r3) := zqH hy325 H
    have Ny325 := Aside0.mk hy325
    clear hy325
    have H' := Aside0.mk H
    clear H
    obtain ⟨Ao49, co49, eo49⟩ := Kd.R_slice HO_3.out
    subst eo49
    go_wp2_with (first | ((with_reducible refine gate_callee (f := 38) rfl ?_); refine goesL_ (some 48) rfl rfl Tryd.func38 (by kernel_rfl) rfl #[.pointer (some ⟨g, 0, none⟩), .int .i64 2] rfl zq1 ?_; (with_reducible refine (spec_l1Cur_pick.calls g s0_0 x1001_2 x1002_2 2 t319 t320 t321 w0 _ ?side1 ?side2 A45.out).mono ?_); (case side1 => exact zq4); (case side2 => exact zq3); rintro e w50 ⟨rfl, hi, hb, hk⟩; refine ⟨_, rfl, ?_⟩; have n0_ := Aside0.mk (Kd.R_mono (Kd.R_keep (IsS46.apart (show IsS46 w0 _ g s0_0 x1001_2 x1002_2 from by repeat (first | (with_reducible first | exact HI0.out | apply IsS46.alloc | apply IsS46.drewN | apply IsS46.drew | apply IsS46.set_1 | apply IsS46.set_2) | exact HI0.out)) (zqR HO_3.out) (by decide)) hk (fun _ h => h.2)) (fun _ h => h.1)); have n1_ := Aside0.mk (KeepBut.trans zq2 hk (.inl rfl)); have n2_ := Aside0.mk (hb); have n3_ := Aside0.mk (hi); clear HO_3; clear HK; clear HB; clear HI0; have HO_3 := n0_; have HK := n1_; have HB := n2_; have HI0 := n3_; clear n0_ n1_ n2_ n3_; (try clear hb); (try clear hb2); (try clear hk); (try clear hi)) | ((with_reducible refine gate_dst (N := 66) rfl ?_); refine Kd.R_lit k25 _ 25 ?hg (N := 66) ?hd (xs := ([(⟨wrap64 (100 + x8_2), 5, 1, 9, wrap64 (10 * x8_2), wrap64 ((wrap64 (10 * x8_2)) + 5)⟩ : S25)] : List (S25))) (inner := [.int .i64 (wrap64 (100 + x8_2)), .int .i64 5, .int .i64 1, .int .i64 9, .int .i64 (wrap64 (10 * x8_2)), .int .i64 (wrap64 ((wrap64 (10 * x8_2)) + 5))]) (ok := fun _ => True) (okp := fun _ => True) ?hr ?hp (fun _ hk => hk) trivial (Below.refl _ _) (Nat.le_refl _) (by simp) ?_; (case hd => rfl); (case hg => rfl); (case hr => exact zqS); (case hp => exact (Reps.c6 (show Kd.M k25 _ _ _ (⟨wrap64 (100 + x8_2), 5, 1, 9, wrap64 (10 * x8_2), wrap64 ((wrap64 (10 * x8_2)) + 5)⟩ : S25) [.int .i64 (wrap64 (100 + x8_2)), .int .i64 5, .int .i64 1, .int .i64 9, .int .i64 (wrap64 (10 * x8_2)), .int .i64 (wrap64 ((wrap64 (10 * x8_2)) + 5))] from (k25_mkM _ _ _ (⟨wrap64 (100 + x8_2), 5, 1, 9, wrap64 (10 * x8_2), wrap64 ((wrap64 (10 * x8_2)) + 5)⟩ : S25) )) (Reps.none _ _))); intro v323 w51 ho52 hb hg_ hnew_; clear hg_ hnew_; (first | rw [← Ny322.out] at ho52 | (simp only [Int.reduceToNat] at ho52; rw [← Ny322.out] at ho52)); have n0_ := Aside0.mk (Kd.R_elder' (zqR HO_3.out) (Kd.R_base ho52) hb); have n1_ := Aside0.mk (Kd.R_lower (Kd.R_new' ho52 (Kd.R_lt (zqR HO_3.out))) (keep_size (w := w) (g := g) (row := none) zq2)); have n2_ := Aside0.mk (IsS46.below zq4 hb); have n3_ := Aside0.mk (KeepBut.trans zq2 (KeepBut.of_below hb g none) (.inl rfl)); have n4_ := Aside0.mk (below_step zq3 hb); clear HO_3; clear HI0; clear HK; clear HB; have HO_3 := n0_; have HO324 := n1_; have HI0 := n2_; have HK := n3_; have HB := n4_; clear n0_ n1_ n2_ n3_ n4_; clear hb ho52; obtain ⟨Ao54, co54, eo54⟩ := Kd.R_slice HO324.out; subst eo54) | ((with_reducible refine gate_builtin (b := .append) (xs := #[.tmp 57, .tmp 66]) rfl ?_); at_builtin; refine Kd.R_append_rows k25 w.heap.size rfl (.tmp 57) (.tmp 66) 29 25 (.agg #[(.int .i64 0), (.int .i64 0), (.int .i64 0), (.int .i64 0), (.int .i64 0), (.int .i64 0)]) 48 rfl Tryd.underlying29 info25 rfl (by decide) (by omega) (.slice Ao49 x3_2.length co49) x3_2 y322 _ _ _ (fun k_ => some k_ ≠ (.slice Ao54 y322.length co54 : Value).ownBlock) (fun _ => False) rfl rfl ?aO ?aR (fun _ _ h => h) (fun _ h => h.elim) ?aF (Below.refl _ _) ?aS ?aL ?_; (case aR => exact zqC (Kd.R_reads' HO324.out).2.2); (case aF => exact (fun k_ hk => Kd.fresh' (Kd.R_lt (zqR HO324.out)) k_ hk)); (case aO => exact (by (with_reducible repeat (first | apply Kd.R_alloc | apply Kd.R_drewN | apply Kd.R_drew)); exact Kd.R_mono HO_3.out (fun _ hk => hk.2))); (case aS => exact (keep_size (w := w) (g := g) (row := none) zq2)); (case aL => have := LMc48.out; omega); intro v326 w53 ho hb hg hat; rw [← Ny325.out] at ho; have n0_ := Aside0.mk (IsS46.grown zq4 hg (IsS46.own_ne HI0.out HO_3.out (by decide))); have n1_ := Aside0.mk (Kd.R_after (ok := (fun _ => True)) (zqR HO324.out) hg hat); have n2_ := Aside0.mk (below_weaken zq3 HL.out hb); have n3_ := Aside0.mk (KeepBut.trans zq2 (KeepBut.of_grown hg g) (Kd.R_base2 HO_3.out)); have n4_ := Aside0.mk (ho); clear HI0; clear HO324; clear HB; clear HK; clear HO_3; have HI0 := n0_; have HO324 := n1_; have HB := n2_; have HK := n3_; have HO327 := n4_; clear n0_ n1_ n2_ n3_ n4_; clear ho hb hg hat))
    go_roundg k2
    case measure => have := HK1.out; have := HK2.out; omega
    case rel => exact ⟨(y325), (wrap64 (x8_2 + 1)), (t320), (t321), (by first | rfl | (simp; done) | (simp [*]; done)), H', ⟨by have := HK1.out; have := HK2.out; omega⟩, ⟨by (with_reducible repeat (first | apply Kd.R_alloc | apply Kd.R_drewN | apply Kd.R_drew)); exact Kd.R_mono HO327.out (fun _ hk => trivial)⟩, ⟨zq4⟩, ⟨zq2⟩, ⟨zq3⟩⟩
  rw [if_pos c6] at H
  have c6b0 : decide (0 < x5_1) = true := decide_eq_true c6
  clear c6
  replace H := Option.bind_eq_some_iff.mp H
  obtain ⟨⟨t277, t278, t279, t280, t281, t282, t283, t284⟩, A70, H⟩ := H
  replace H : ((spec_l1Cur_pick.f s0_0 t283 t284 2).bind fun bt286 => ((some (([] : List (S25)) : List (S25))).bind fun y289 => (if y289.length + x3_1.length < 2932031007402 then ((some (y289 ++ x3_1 : List (S25))).bind fun y292 => ((some (([(⟨wrap64 ((wrap64 (x4_1 + 1)) + bt286.1), t278, t279, t280, t281, t282⟩ : S25)] : List (S25)) : List (S25))).bind fun y295 => (if y292.length + y295.length < 2932031007402 then ((some (y292 ++ y295 : List (S25))).bind fun y298 => ((spec_l14List.f k1 y298).bind fun t301 => (spec_l1Cur_warnings.j1 k1 x3_1 (wrap64 ((wrap64 (x4_1 + 1)) + bt286.1)) x5_1 y298 t301 s0_0 bt286.2.1 bt286.2.2))) else (none)))) else (none)))) = some (r1, r2, r3) := H
  have A7 := Aside0.mk A70
  clear A70
  replace H := Option.bind_eq_some_iff.mp H
  obtain ⟨⟨t286, t287, t288⟩, A80, H⟩ := H
  replace H : ((some (([] : List (S25)) : List (S25))).bind fun y289 => (if y289.length + x3_1.length < 2932031007402 then ((some (y289 ++ x3_1 : List (S25))).bind fun y292 => ((some (([(⟨wrap64 ((wrap64 (x4_1 + 1)) + t286), t278, t279, t280, t281, t282⟩ : S25)] : List (S25)) : List (S25))).bind fun y295 => (if y292.length + y295.length < 2932031007402 then ((some (y292 ++ y295 : List (S25))).bind fun y298 => ((spec_l14List.f k1 y298).bind fun t301 => (spec_l1Cur_warnings.j1 k1 x3_1 (wrap64 ((wrap64 (x4_1 + 1)) + t286)) x5_1 y298 t301 s0_0 t287 t288))) else (none)))) else (none))) = some (r1, r2, r3) := H
  have A8 := Aside0.mk A80
  clear A80
  obtain ⟨y289, hy289⟩ : ∃ y_ : List (S25), y_ = (([] : List (S25))) := ⟨_, rfl⟩
  replace H : (if y289.length + x3_1.length < 2932031007402 then ((some (y289 ++ x3_1 : List (S25))).bind fun y292 => ((some (([(⟨wrap64 ((wrap64 (x4_1 + 1)) + t286), t278, t279, t280, t281, t282⟩ : S25)] : List (S25)) : List (S25))).bind fun y295 => (if y292.length + y295.length < 2932031007402 then ((some (y292 ++ y295 : List (S25))).bind fun y298 => ((spec_l14List.f k1 y298).bind fun t301 => (spec_l1Cur_warnings.j1 k1 x3_1 (wrap64 ((wrap64 (x4_1 + 1)) + t286)) x5_1 y298 t301 s0_0 t287 t288))) else (none)))) else (none)) = some (r1, r2, r3) := zqH hy289 H
  have Ny289 := Aside0.mk hy289
  clear hy289
  by_cases c9 : y289.length + x3_1.length < 2932031007402
  case neg =>
   rw [if_neg c9] at H
   exact absurd H (by simp)
  rw [if_pos c9] at H
  have LMc9 := Aside0.mk c9
  clear c9
  obtain ⟨y292, hy292⟩ : ∃ y_ : List (S25), y_ = (y289 ++ x3_1) := ⟨_, rfl⟩
  replace H : ((some (([(⟨wrap64 ((wrap64 (x4_1 + 1)) + t286), t278, t279, t280, t281, t282⟩ : S25)] : List (S25)) : List (S25))).bind fun y295 => (if y292.length + y295.length < 2932031007402 then ((some (y292 ++ y295 : List (S25))).bind fun y298 => ((spec_l14List.f k1 y298).bind fun t301 => (spec_l1Cur_warnings.j1 k1 x3_1 (wrap64 ((wrap64 (x4_1 + 1)) + t286)) x5_1 y298 t301 s0_0 t287 t288))) else (none))) = some (r1, r2, r3) := zqH hy292 H
  have Ny292 := Aside0.mk hy292
  clear hy292
  obtain ⟨y295, hy295⟩ : ∃ y_ : List (S25), y_ = (([(⟨wrap64 ((wrap64 (x4_1 + 1)) + t286), t278, t279, t280, t281, t282⟩ : S25)] : List (S25))) := ⟨_, rfl⟩
  replace H : (if y292.length + y295.length < 2932031007402 then ((some (y292 ++ y295 : List (S25))).bind fun y298 => ((spec_l14List.f k1 y298).bind fun t301 => (spec_l1Cur_warnings.j1 k1 x3_1 (wrap64 ((wrap64 (x4_1 + 1)) + t286)) x5_1 y298 t301 s0_0 t287 t288))) else (none)) = some (r1, r2, r3) := zqH hy295 H
  have Ny295 := Aside0.mk hy295
  clear hy295
  by_cases c10 : y292.length + y295.length < 2932031007402
  case neg =>
   rw [if_neg c10] at H
   exact absurd H (by simp)
  rw [if_pos c10] at H
  have LMc10 := Aside0.mk c10
  clear c10
  obtain ⟨y298, hy298⟩ : ∃ y_ : List (S25), y_ = (y292 ++ y295) := ⟨_, rfl⟩
  replace H : ((spec_l14List.f k1 y298).bind fun t301 => (spec_l1Cur_warnings.j1 k1 x3_1 (wrap64 ((wrap64 (x4_1 + 1)) + t286)) x5_1 y298 t301 s0_0 t287 t288)) = some (r1, r2, r3) := zqH hy298 H
  have Ny298 := Aside0.mk hy298
  clear hy298
  have HC11 := Aside0.mk H
  clear H
  try go_wp2_with (first | ((with_reducible refine gate_callee (f := 24) rfl ?_); refine goesL_ (some 17) rfl rfl Tryd.func24 (by kernel_rfl) rfl #[.pointer (some ⟨g, 0, none⟩)] rfl zq1 ?_; (with_reducible refine (spec_l1Cur_warning.calls k1 g s0_0 x1001_1 x1002_1 t277 t278 t279 t280 t281 t282 t283 t284 w0 _ ?side1 ?side2 A7.out).mono ?_); (case side1 => exact zq4); (case side2 => exact zq3); rintro e w12 ⟨rfl, hi, hb, hk⟩; refine ⟨_, rfl, ?_⟩; have n0_ := Aside0.mk (Kd.R_mono (Kd.R_keep (IsS46.apart (show IsS46 w0 _ g s0_0 x1001_1 x1002_1 from by repeat (first | (with_reducible first | exact HI0.out | apply IsS46.alloc | apply IsS46.drewN | apply IsS46.drew | apply IsS46.set_1 | apply IsS46.set_2) | exact HI0.out)) (zqR HO_3.out) (by decide)) hk (fun _ h => h.2)) (fun _ h => h.1)); have n1_ := Aside0.mk (KeepBut.trans zq2 hk (.inl rfl)); have n2_ := Aside0.mk (hb); have n3_ := Aside0.mk (hi); clear HO_3; clear HK; clear HB; clear HI0; have HO_3 := n0_; have HK := n1_; have HB := n2_; have HI0 := n3_; clear n0_ n1_ n2_ n3_; (try clear hb); (try clear hb2); (try clear hk); (try clear hi)) | ((with_reducible refine gate_dst (N := 6) rfl ?_); refine box_event ?hg (N := 6) ?hd (cs := #[.int .i64 0, .int .i64 0, .int .i64 0, .int .i64 0, .int .i64 0, .int .i64 0]) (t := 25) ?hr ?_; (case hd => rfl); (case hg => rfl); (case hr => exact zqS); intro gb285 hg w13 hbox hb; have n0_ := Aside0.mk (Kd.R_below (Kd.R_elderB (zqR HO_3.out) gb285 (Nat.le_of_eq hg.symm)) hb); have n1_ := Aside0.mk (IsS46.below zq4 hb); have n2_ := Aside0.mk (KeepBut.trans zq2 (KeepBut.of_below hb g none) (.inl rfl)); have n3_ := Aside0.mk (below_step zq3 hb); have n4_ := Aside0.mk (hbox); have n5_ := Aside0.mk ((by rw [hg]; exact (keep_size (w := w) (g := g) (row := none) zq2) : w.heap.size ≤ gb285)); have n6_ := Aside0.mk ((Nat.le_trans HW0.out (by rw [hg]; exact (keep_size (w := w) (g := g) (row := none) zq2) : w.heap.size ≤ gb285) : w0.heap.size ≤ gb285)); have n7_ := Aside0.mk ((by rw [hg]; exact Nat.ne_of_lt (IsS46.lt (show IsS46 w0 _ g s0_0 t283 t284 from by repeat (first | (with_reducible first | exact HI0.out | apply IsS46.alloc | apply IsS46.drewN | apply IsS46.drew | apply IsS46.set_1 | apply IsS46.set_2) | exact HI0.out))) : g ≠ gb285)); have n8_ := Aside0.mk ((by rw [hg]; exact Nat.ne_of_gt (IsS46.lt (show IsS46 w0 _ g s0_0 t283 t284 from by repeat (first | (with_reducible first | exact HI0.out | apply IsS46.alloc | apply IsS46.drewN | apply IsS46.drew | apply IsS46.set_1 | apply IsS46.set_2) | exact HI0.out))) : gb285 ≠ g)); clear HO_3; clear HI0; clear HK; clear HB; have HO_3 := n0_; have HI0 := n1_; have HK := n2_; have HB := n3_; have BK285 := n4_; have GW285 := n5_; have GE285 := n6_; have NB0_285 := n7_; have NB285_0 := n8_; clear n0_ n1_ n2_ n3_ n4_ n5_ n6_ n7_ n8_; clear hb hbox hg; have hnb14 := NB285_0.out; have hnc14 := NB0_285.out; obtain ⟨hcz15_0, hcz15_1, hcz15_2, hcz15_3, hcz15_4, hcz15_5, hfz15_0, hfz15_1, hfz15_2, hfz15_3, hfz15_4, hfz15_5⟩ := bz6 BK285.out) | ((with_reducible refine gate_callee (f := 38) rfl ?_); refine goesL_ (some 21) rfl rfl Tryd.func38 (by kernel_rfl) rfl #[.pointer (some ⟨g, 0, none⟩), .int .i64 2] rfl zq1 ?_; (with_reducible refine (spec_l1Cur_pick.calls g s0_0 t283 t284 2 t286 t287 t288 w0 _ ?side1 ?side2 A8.out).mono ?_); (case side1 => repeat (first | (with_reducible first | exact HI0.out | apply IsS46.alloc | apply IsS46.drewN | apply IsS46.drew | apply IsS46.set_1 | apply IsS46.set_2 | refine IsS46.far ?_ NB0_285.out _) | exact HI0.out)); (case side2 => repeat (first | (with_reducible first | exact HB.out | apply below_alloc | apply pw_below_drewN | apply below_drew1 | refine below_set ?_ (IsS46.ge HI0.out) | refine below_set ?_ GE285.out) | exact HB.out)); rintro e w16 ⟨rfl, hi, hb, hk⟩; refine ⟨_, rfl, ?_⟩; have n0_ := Aside0.mk (Kd.R_mono (Kd.R_keep (IsS46.apart (show IsS46 w0 _ g s0_0 t283 t284 from by repeat (first | (with_reducible first | exact HI0.out | apply IsS46.alloc | apply IsS46.drewN | apply IsS46.drew | apply IsS46.set_1 | apply IsS46.set_2 | refine IsS46.far ?_ NB0_285.out _) | exact HI0.out)) (by (with_reducible repeat (first | apply Kd.R_alloc | apply Kd.R_drewN | apply Kd.R_drew)); exact (Kd.R_mono (Kd.R_far (p := ⟨gb285, 5, none⟩) (Kd.R_far (p := ⟨gb285, 4, none⟩) (Kd.R_far (p := ⟨gb285, 3, none⟩) (Kd.R_far (p := ⟨gb285, 2, none⟩) (Kd.R_far (p := ⟨gb285, 1, none⟩) (Kd.R_far (p := ⟨gb285, 0, none⟩) (Kd.R_mono HO_3.out (fun k_ hk => (⟨hk, hk.2⟩ : _ ∧ k_ ≠ gb285))) (fun _ hk => hk.2) (.int .i64 t277)) (fun _ hk => hk.2) (.int .i64 t278)) (fun _ hk => hk.2) (.int .i64 t279)) (fun _ hk => hk.2) (.int .i64 t280)) (fun _ hk => hk.2) (.int .i64 t281)) (fun _ hk => hk.2) (.int .i64 t282)) (fun _ h_ => h_.1))) (by decide)) hk (fun _ h => h.2)) (fun _ h => h.1)); have n1_ := Aside0.mk (KeepBut.blk hk (g' := gb285) (o := .cells #[.int .i64 t277, .int .i64 t278, .int .i64 t279, .int .i64 t280, .int .i64 t281, .int .i64 t282] 25 (0, 0)) (by (with_reducible repeat (first | refine blk_drewN ?_ _ | refine blk_drew ?_ | refine blk_alloc ?_ _)); refine blk_put (cs := #[.int .i64 t277, .int .i64 t278, .int .i64 t279, .int .i64 t280, .int .i64 t281, .int .i64 0]) ?_ 5 _ rfl; (with_reducible repeat (first | refine blk_drewN ?_ _ | refine blk_drew ?_ | refine blk_alloc ?_ _)); refine blk_put (cs := #[.int .i64 t277, .int .i64 t278, .int .i64 t279, .int .i64 t280, .int .i64 0, .int .i64 0]) ?_ 4 _ rfl; (with_reducible repeat (first | refine blk_drewN ?_ _ | refine blk_drew ?_ | refine blk_alloc ?_ _)); refine blk_put (cs := #[.int .i64 t277, .int .i64 t278, .int .i64 t279, .int .i64 0, .int .i64 0, .int .i64 0]) ?_ 3 _ rfl; (with_reducible repeat (first | refine blk_drewN ?_ _ | refine blk_drew ?_ | refine blk_alloc ?_ _)); refine blk_put (cs := #[.int .i64 t277, .int .i64 t278, .int .i64 0, .int .i64 0, .int .i64 0, .int .i64 0]) ?_ 2 _ rfl; (with_reducible repeat (first | refine blk_drewN ?_ _ | refine blk_drew ?_ | refine blk_alloc ?_ _)); refine blk_put (cs := #[.int .i64 t277, .int .i64 0, .int .i64 0, .int .i64 0, .int .i64 0, .int .i64 0]) ?_ 1 _ rfl; (with_reducible repeat (first | refine blk_drewN ?_ _ | refine blk_drew ?_ | refine blk_alloc ?_ _)); refine blk_put (cs := #[.int .i64 0, .int .i64 0, .int .i64 0, .int .i64 0, .int .i64 0, .int .i64 0]) ?_ 0 _ rfl; (with_reducible repeat (first | refine blk_drewN ?_ _ | refine blk_drew ?_ | refine blk_alloc ?_ _)); exact BK285.out) NB285_0.out (by simp)); have n2_ := Aside0.mk (KeepBut.trans zq6 hk (.inl rfl)); have n3_ := Aside0.mk (hb); have n4_ := Aside0.mk (hi); clear HO_3; clear BK285; clear HK; clear HB; clear HI0; have HO_3 := n0_; have BK285 := n1_; have HK := n2_; have HB := n3_; have HI0 := n4_; clear n0_ n1_ n2_ n3_ n4_; (try clear hb); (try clear hb2); (try clear hk); (try clear hi); obtain ⟨hcz17_0, hcz17_1, hcz17_2, hcz17_3, hcz17_4, hcz17_5, hfz17_0, hfz17_1, hfz17_2, hfz17_3, hfz17_4, hfz17_5⟩ := bz6 BK285.out; obtain ⟨Ao18, co18, eo18⟩ := Kd.R_slice HO_3.out; subst eo18))
  have n0_ : Aside0 (Kd.R k25 25 (w16.setCell ⟨gb285, 0, none⟩ (.int .i64 (wrap64 ((wrap64 (x4_1 + 1)) + t286)))) w.heap.size (fun k_ => k_ ≠ gb285) (.slice Ao18 x3_1.length co18) x3_1) := ⟨by (with_reducible repeat (first | apply Kd.R_alloc | apply Kd.R_drewN | apply Kd.R_drew)); exact Kd.R_mono (Kd.R_far (p := ⟨gb285, 0, none⟩) (Kd.R_mono HO_3.out (fun k_ hk => (⟨hk, hk.2⟩ : _ ∧ k_ ≠ gb285))) (fun _ hk => hk.2) (.int .i64 (wrap64 ((wrap64 (x4_1 + 1)) + t286)))) (fun _ hk => hk.1.2)⟩
  have n1_ : Aside0 ((w16.setCell ⟨gb285, 0, none⟩ (.int .i64 (wrap64 ((wrap64 (x4_1 + 1)) + t286)))).heap[gb285]? = some (.cells #[.int .i64 (wrap64 ((wrap64 (x4_1 + 1)) + t286)), .int .i64 t278, .int .i64 t279, .int .i64 t280, .int .i64 t281, .int .i64 t282] 25 (0, 0))) := ⟨by (with_reducible repeat (first | refine blk_drewN ?_ _ | refine blk_drew ?_ | refine blk_alloc ?_ _)); refine blk_put (cs := #[.int .i64 t277, .int .i64 t278, .int .i64 t279, .int .i64 t280, .int .i64 t281, .int .i64 t282]) ?_ 0 _ rfl; (with_reducible repeat (first | refine blk_drewN ?_ _ | refine blk_drew ?_ | refine blk_alloc ?_ _)); exact BK285.out⟩
  have n2_ : Aside0 (IsS46 w0 (w16.setCell ⟨gb285, 0, none⟩ (.int .i64 (wrap64 ((wrap64 (x4_1 + 1)) + t286)))) g s0_0 t287 t288) := ⟨zq10⟩
  have n3_ : Aside0 (KeepBut w (w16.setCell ⟨gb285, 0, none⟩ (.int .i64 (wrap64 ((wrap64 (x4_1 + 1)) + t286)))) g none) := ⟨zq6⟩
  have n4_ : Aside0 (Below w0.heap.size w0 (w16.setCell ⟨gb285, 0, none⟩ (.int .i64 (wrap64 ((wrap64 (x4_1 + 1)) + t286))))) := ⟨zq11⟩
  (try clear HO_3)
  (try clear BK285)
  (try clear HI0)
  (try clear HK)
  (try clear HB)
  generalize (w16.setCell ⟨gb285, 0, none⟩ (.int .i64 (wrap64 ((wrap64 (x4_1 + 1)) + t286)))) = w19 at n0_ n1_ n2_ n3_ n4_ ⊢
  have HO_3 := n0_
  have BK285 := n1_
  have HI0 := n2_
  have HK := n3_
  have HB := n4_
  clear n0_ n1_ n2_ n3_ n4_
  have n0_ := Aside0.mk (Kd.R_drew HO_3.out)
  have n1_ := Aside0.mk (blk_drew BK285.out)
  have n2_ := Aside0.mk (IsS46.drew HI0.out)
  have n3_ := Aside0.mk (keep_drew HK.out)
  have n4_ := Aside0.mk (below_drew1 HB.out)
  clear HO_3
  clear BK285
  clear HI0
  clear HK
  clear HB
  have HO_3 := n0_
  have BK285 := n1_
  have HI0 := n2_
  have HK := n3_
  have HB := n4_
  clear n0_ n1_ n2_ n3_ n4_
  refine start_ (n := 7) (S := fun w' => w'.cell? ⟨gb285, 0, none⟩ = some (.int .i64 (wrap64 ((wrap64 (x4_1 + 1)) + t286))) ∧ w'.cell? ⟨gb285, 1, none⟩ = some (.int .i64 t278) ∧ w'.cell? ⟨gb285, 2, none⟩ = some (.int .i64 t279) ∧ w'.cell? ⟨gb285, 3, none⟩ = some (.int .i64 t280) ∧ w'.cell? ⟨gb285, 4, none⟩ = some (.int .i64 t281) ∧ w'.cell? ⟨gb285, 5, none⟩ = some (.int .i64 t282)) (ds := []) #[false, false, false, false, false, false, false] (by kernel_rfl) rfl rfl (bc6 BK285.out) (fun hHeld => ?_)
  generalize w19.drew = w20 at HO_3 BK285 HI0 HK HB hHeld ⊢
  refine pure_ (i := 1) (N := some 26) (v := ?_) (a' := ?_) #[false, true, false, false, false, false, false] rfl rfl (by kernel_rfl) (fun _ _ _ h => h) (Or.inl ⟨by rfl, ?_⟩) ?_ ?_
  rotate_left; · exact zqB
  rotate_left; · exact zqA
  refine take_ (i := 3) (N := some 28) (v := ?_) (a' := ?_) #[false, true, false, true, false, false, false] rfl rfl (by kernel_rfl) (fun _ _ _ h => h) (Or.inl ⟨by rfl, ?_⟩) hHeld ?_ ?_
  rotate_left
  ·
   rintro w' ⟨s0, s1, s2, s3, s4, s5⟩
   go_simp
   with_reducible rfl
  rotate_left; · exact zqA
  refine join_ (σ := Value × Value × Value) 2 #[true, true, true, true, true, false, false] (fun s_ => [(25, s_.1), (27, s_.2.1), (29, s_.2.2)]) (fun s_ w' => (w'.cell? ⟨gb285, 0, none⟩ = some (.int .i64 (wrap64 ((wrap64 (x4_1 + 1)) + t286))) ∧ w'.cell? ⟨gb285, 1, none⟩ = some (.int .i64 t278) ∧ w'.cell? ⟨gb285, 2, none⟩ = some (.int .i64 t279) ∧ w'.cell? ⟨gb285, 3, none⟩ = some (.int .i64 t280) ∧ w'.cell? ⟨gb285, 4, none⟩ = some (.int .i64 t281) ∧ w'.cell? ⟨gb285, 5, none⟩ = some (.int .i64 t282)) ∧ (Kd.R k25 25 w' w.heap.size (fun k_ => some k_ ≠ (s_.2.2 : Value).ownBlock ∧ some k_ ≠ (.slice Ao18 x3_1.length co18 : Value).ownBlock ∧ k_ ≠ gb285) s_.2.1 y292) ∧ (Kd.R k25 25 w' w.heap.size (fun k_ => some k_ ≠ (s_.2.1 : Value).ownBlock ∧ some k_ ≠ (.slice Ao18 x3_1.length co18 : Value).ownBlock ∧ k_ ≠ gb285) s_.2.2 y295) ∧ (Kd.R k25 25 w' w.heap.size (fun k_ => some k_ ≠ (s_.2.1 : Value).ownBlock ∧ some k_ ≠ (s_.2.2 : Value).ownBlock ∧ k_ ≠ gb285) (.slice Ao18 x3_1.length co18) x3_1) ∧ (w'.heap[gb285]? = some (.cells #[.int .i64 (wrap64 ((wrap64 (x4_1 + 1)) + t286)), .int .i64 t278, .int .i64 t279, .int .i64 t280, .int .i64 t281, .int .i64 t282] 25 (0, 0))) ∧ (IsS46 w0 w' g s0_0 t287 t288) ∧ (KeepBut w w' g none) ∧ (Below w0.heap.size w0 w')) ?_ ?_
  rotate_left
  ·
   intro hCont
   refine two_ (i := 0) (j := 4) (Ni := some 25) (Nj := some 29) #[true, true, false, true, false, false, false] #[false, true, false, true, true, false, false] rfl rfl rfl rfl (by kernel_rfl) (by decide) (by decide) (fun K hK => ?_) (fun K hK => ?_)
   ·
    skip
    refine Kd.R_lit_step k25 _ 25 ?hg (N := 25) ?hd (xs := ([] : List (S25))) (inner := []) (ok := fun _ => True) (okp := fun _ => True) ?hr ?hp (fun _ hk => hk) trivial (Below.refl _ _) (Nat.le_refl _) (by simp) ?_; (case hd => rfl); (case hg => rfl); (case hr => exact zqS); (case hp => exact (Reps.none _ _))
    intro v290 w21 ho22 hb hg_ hnew_
    clear hg_ hnew_
    (first | rw [← Ny289.out] at ho22 | (simp only [Int.reduceToNat] at ho22; rw [← Ny289.out] at ho22))
    have n0_ := Aside0.mk (Kd.R_elder' (zqR HO_3.out) (Kd.R_base ho22) hb)
    have n1_ := Aside0.mk (Kd.R_lower (Kd.R_newB (Kd.R_new' ho22 (Kd.R_lt (zqR HO_3.out))) (g := gb285) (o := .cells #[.int .i64 (wrap64 ((wrap64 (x4_1 + 1)) + t286)), .int .i64 t278, .int .i64 t279, .int .i64 t280, .int .i64 t281, .int .i64 t282] 25 (0, 0)) (zqK BK285.out)) (keep_size (w := w) (g := g) (row := none) zq6))
    have n2_ := Aside0.mk (IsS46.below zq10 hb)
    have n3_ := Aside0.mk (blk_below (g := gb285) (o := .cells #[.int .i64 (wrap64 ((wrap64 (x4_1 + 1)) + t286)), .int .i64 t278, .int .i64 t279, .int .i64 t280, .int .i64 t281, .int .i64 t282] 25 (0, 0)) (zqK BK285.out) hb)
    have n4_ := Aside0.mk (KeepBut.trans zq6 (KeepBut.of_below hb g none) (.inl rfl))
    have n5_ := Aside0.mk (below_step zq11 hb)
    clear HO_3
    clear HI0
    clear BK285
    clear HK
    clear HB
    have HO_3 := n0_
    have HO291 := n1_
    have HI0 := n2_
    have BK285 := n3_
    have HK := n4_
    have HB := n5_
    clear n0_ n1_ n2_ n3_ n4_ n5_
    clear hb ho22
    refine hK.out _ _ (bc6 BK285.out) (fun hHeld => ?_)
    clear hK K
    refine norm_ (a' := ?_) ?_ ?_
    rotate_left
    ·
     show Act.put _ (some 25) _ = _
     simp only [Act.put, List.setIfInBounds_toArray, List.set_cons_zero, List.set_cons_succ, i64_w, i32_w]
     rfl
    refine two_ (i := 2) (j := 4) (Ni := some 27) (Nj := some 29) #[true, true, true, true, false, false, false] #[true, true, false, true, true, false, false] rfl rfl rfl rfl (by kernel_rfl) (by decide) (by decide) (fun K hK => ?_) (fun K hK => ?_)
    ·
     skip
     refine Kd.R_append_rows_step k25 w.heap.size (by rfl) (.tmp 25) (.tmp 26) 29 25 (.agg #[(.int .i64 0), (.int .i64 0), (.int .i64 0), (.int .i64 0), (.int .i64 0), (.int .i64 0)]) 48 rfl Tryd.underlying29 info25 rfl (by decide) (by omega) v290 y289 x3_1 _ _ _ (fun k_ => some k_ ≠ (.slice Ao18 x3_1.length co18 : Value).ownBlock ∧ k_ ≠ gb285) (fun _ => False) rfl rfl ?aO ?aR (fun _ _ h => h) (fun _ h => h.elim) ?aF (Below.refl _ _) ?aS ?aL ?_
     (case aR => exact zqC (Kd.R_reads' HO_3.out).2.2)
     (case aF => exact (fun k_ hk => ⟨Kd.fresh' (Kd.R_lt (zqR HO_3.out)) k_ hk, Kd.freshB (g := gb285) (o := .cells #[.int .i64 (wrap64 ((wrap64 (x4_1 + 1)) + t286)), .int .i64 t278, .int .i64 t279, .int .i64 t280, .int .i64 t281, .int .i64 t282] 25 (0, 0)) (zqK BK285.out) k_ hk⟩))
     (case aO => exact (by (with_reducible repeat (first | apply Kd.R_alloc | apply Kd.R_drewN | apply Kd.R_drew)); exact Kd.R_mono HO291.out (fun _ hk => ⟨hk.1.2, hk.2⟩)))
     (case aS => exact (keep_size (w := w) (g := g) (row := none) zq6))
     (case aL => have := LMc9.out; omega)
     intro v293 w23 ho hb hg hat
     rw [← Ny292.out] at ho
     have n0_ := Aside0.mk (Kd.R_after (ok := (fun k_ => k_ ≠ gb285)) (zqR HO_3.out) hg hat)
     have n1_ := Aside0.mk (IsS46.grown zq10 hg (IsS46.own_ne HI0.out HO291.out (by decide)))
     have n2_ := Aside0.mk (blk_grown (g := gb285) (o := .cells #[.int .i64 (wrap64 ((wrap64 (x4_1 + 1)) + t286)), .int .i64 t278, .int .i64 t279, .int .i64 t280, .int .i64 t281, .int .i64 t282] 25 (0, 0)) (zqK BK285.out) hg (Kd.R_away HO291.out (fun _ hk => hk.2)))
     have n3_ := Aside0.mk (below_weaken zq11 HL.out hb)
     have n4_ := Aside0.mk (KeepBut.trans zq6 (KeepBut.of_grown hg g) (Kd.R_base2 HO291.out))
     have n5_ := Aside0.mk (ho)
     clear HO_3
     clear HI0
     clear BK285
     clear HB
     clear HK
     clear HO291
     have HO_3 := n0_
     have HI0 := n1_
     have BK285 := n2_
     have HB := n3_
     have HK := n4_
     have HO294 := n5_
     clear n0_ n1_ n2_ n3_ n4_ n5_
     clear ho hb hg hat
     refine hK.out _ _ (bc6 BK285.out) (fun hHeld => ?_)
     clear hK K
     refine norm_ (a' := ?_) ?_ ?_
     rotate_left
     ·
      show Act.put _ (some 27) _ = _
      simp only [Act.put, List.setIfInBounds_toArray, List.set_cons_zero, List.set_cons_succ, i64_w, i32_w]
      rfl
     refine one_ (i := 4) (N := some 29) #[true, true, true, true, true, false, false] rfl rfl (by kernel_rfl) (by decide) (fun K hK => ?_)
     refine Kd.R_lit_step k25 _ 25 ?hg (N := 29) ?hd (xs := ([(⟨wrap64 ((wrap64 (x4_1 + 1)) + t286), t278, t279, t280, t281, t282⟩ : S25)] : List (S25))) (inner := [.int .i64 (wrap64 ((wrap64 (x4_1 + 1)) + t286)), .int .i64 t278, .int .i64 t279, .int .i64 t280, .int .i64 t281, .int .i64 t282]) (ok := fun _ => True) (okp := fun _ => True) ?hr ?hp (fun _ hk => hk) trivial (Below.refl _ _) (Nat.le_refl _) (by simp) ?_; (case hd => rfl); (case hg => rfl); (case hr => exact zqS); (case hp => exact (Reps.c6 (show Kd.M k25 _ _ _ (⟨wrap64 ((wrap64 (x4_1 + 1)) + t286), t278, t279, t280, t281, t282⟩ : S25) [.int .i64 (wrap64 ((wrap64 (x4_1 + 1)) + t286)), .int .i64 t278, .int .i64 t279, .int .i64 t280, .int .i64 t281, .int .i64 t282] from (k25_mkM _ _ _ (⟨wrap64 ((wrap64 (x4_1 + 1)) + t286), t278, t279, t280, t281, t282⟩ : S25) )) (Reps.none _ _)))
     intro v296 w24 ho25 hb hg_ hnew_
     clear hg_ hnew_
     (first | rw [← Ny295.out] at ho25 | (simp only [Int.reduceToNat] at ho25; rw [← Ny295.out] at ho25))
     have n0_ := Aside0.mk (Kd.R_elder' (zqR HO_3.out) (Kd.R_base ho25) hb)
     have n1_ := Aside0.mk (Kd.R_elder' (zqR HO294.out) (Kd.R_base ho25) hb)
     have n2_ := Aside0.mk (Kd.R_lower (Kd.R_newB (Kd.R_new' (Kd.R_new' ho25 (Kd.R_lt (zqR HO_3.out))) (Kd.R_lt (zqR HO294.out))) (g := gb285) (o := .cells #[.int .i64 (wrap64 ((wrap64 (x4_1 + 1)) + t286)), .int .i64 t278, .int .i64 t279, .int .i64 t280, .int .i64 t281, .int .i64 t282] 25 (0, 0)) (zqK BK285.out)) (keep_size (w := w) (g := g) (row := none) zq6))
     have n3_ := Aside0.mk (IsS46.below zq10 hb)
     have n4_ := Aside0.mk (blk_below (g := gb285) (o := .cells #[.int .i64 (wrap64 ((wrap64 (x4_1 + 1)) + t286)), .int .i64 t278, .int .i64 t279, .int .i64 t280, .int .i64 t281, .int .i64 t282] 25 (0, 0)) (zqK BK285.out) hb)
     have n5_ := Aside0.mk (KeepBut.trans zq6 (KeepBut.of_below hb g none) (.inl rfl))
     have n6_ := Aside0.mk (below_step zq11 hb)
     clear HO_3
     clear HO294
     clear HI0
     clear BK285
     clear HK
     clear HB
     have HO_3 := n0_
     have HO294 := n1_
     have HO297 := n2_
     have HI0 := n3_
     have BK285 := n4_
     have HK := n5_
     have HB := n6_
     clear n0_ n1_ n2_ n3_ n4_ n5_ n6_
     clear hb ho25
     refine hK.out _ _ (bc6 BK285.out) (fun hHeld => ?_)
     clear hK K
     refine norm_ (a' := ?_) ?_ ?_
     rotate_left
     ·
      show Act.put _ (some 29) _ = _
      simp only [Act.put, List.setIfInBounds_toArray, List.set_cons_zero, List.set_cons_succ, i64_w, i32_w]
      rfl
     exact norm_ (by simp only [putAll, Act.put, List.setIfInBounds_toArray, List.set_cons_zero, List.set_cons_succ]) (hCont (v290, v293, v296) _ ⟨hHeld, (by (with_reducible repeat (first | apply Kd.R_alloc | apply Kd.R_drewN | apply Kd.R_drew)); exact Kd.R_mono HO294.out (fun _ hk => ⟨hk.2, ⟨hk.1.1, hk.1.2⟩⟩)), (by (with_reducible repeat (first | apply Kd.R_alloc | apply Kd.R_drewN | apply Kd.R_drew)); exact Kd.R_mono HO297.out (fun _ hk => ⟨hk.1.2, ⟨hk.1.1.2, hk.2⟩⟩)), (by (with_reducible repeat (first | apply Kd.R_alloc | apply Kd.R_drewN | apply Kd.R_drew)); exact Kd.R_mono HO_3.out (fun _ hk => ⟨hk.1.2, ⟨hk.2, hk.1.1⟩⟩)), (zqK BK285.out), zq10, zq6, zq11⟩)
    ·
     skip
     refine Kd.R_lit_step k25 _ 25 ?hg (N := 29) ?hd (xs := ([(⟨wrap64 ((wrap64 (x4_1 + 1)) + t286), t278, t279, t280, t281, t282⟩ : S25)] : List (S25))) (inner := [.int .i64 (wrap64 ((wrap64 (x4_1 + 1)) + t286)), .int .i64 t278, .int .i64 t279, .int .i64 t280, .int .i64 t281, .int .i64 t282]) (ok := fun _ => True) (okp := fun _ => True) ?hr ?hp (fun _ hk => hk) trivial (Below.refl _ _) (Nat.le_refl _) (by simp) ?_; (case hd => rfl); (case hg => rfl); (case hr => exact zqS); (case hp => exact (Reps.c6 (show Kd.M k25 _ _ _ (⟨wrap64 ((wrap64 (x4_1 + 1)) + t286), t278, t279, t280, t281, t282⟩ : S25) [.int .i64 (wrap64 ((wrap64 (x4_1 + 1)) + t286)), .int .i64 t278, .int .i64 t279, .int .i64 t280, .int .i64 t281, .int .i64 t282] from (k25_mkM _ _ _ (⟨wrap64 ((wrap64 (x4_1 + 1)) + t286), t278, t279, t280, t281, t282⟩ : S25) )) (Reps.none _ _)))
     intro v296 w23 ho24 hb hg_ hnew_
     clear hg_ hnew_
     (first | rw [← Ny295.out] at ho24 | (simp only [Int.reduceToNat] at ho24; rw [← Ny295.out] at ho24))
     have n0_ := Aside0.mk (Kd.R_elder' (zqR HO_3.out) (Kd.R_base ho24) hb)
     have n1_ := Aside0.mk (Kd.R_elder' (zqR HO291.out) (Kd.R_base ho24) hb)
     have n2_ := Aside0.mk (Kd.R_lower (Kd.R_newB (Kd.R_new' (Kd.R_new' ho24 (Kd.R_lt (zqR HO_3.out))) (Kd.R_lt (zqR HO291.out))) (g := gb285) (o := .cells #[.int .i64 (wrap64 ((wrap64 (x4_1 + 1)) + t286)), .int .i64 t278, .int .i64 t279, .int .i64 t280, .int .i64 t281, .int .i64 t282] 25 (0, 0)) (zqK BK285.out)) (keep_size (w := w) (g := g) (row := none) zq6))
     have n3_ := Aside0.mk (IsS46.below zq10 hb)
     have n4_ := Aside0.mk (blk_below (g := gb285) (o := .cells #[.int .i64 (wrap64 ((wrap64 (x4_1 + 1)) + t286)), .int .i64 t278, .int .i64 t279, .int .i64 t280, .int .i64 t281, .int .i64 t282] 25 (0, 0)) (zqK BK285.out) hb)
     have n5_ := Aside0.mk (KeepBut.trans zq6 (KeepBut.of_below hb g none) (.inl rfl))
     have n6_ := Aside0.mk (below_step zq11 hb)
     clear HO_3
     clear HO291
     clear HI0
     clear BK285
     clear HK
     clear HB
     have HO_3 := n0_
     have HO291 := n1_
     have HO297 := n2_
     have HI0 := n3_
     have BK285 := n4_
     have HK := n5_
     have HB := n6_
     clear n0_ n1_ n2_ n3_ n4_ n5_ n6_
     clear hb ho24
     refine hK.out _ _ (bc6 BK285.out) (fun hHeld => ?_)
     clear hK K
     refine norm_ (a' := ?_) ?_ ?_
     rotate_left
     ·
      show Act.put _ (some 29) _ = _
      simp only [Act.put, List.setIfInBounds_toArray, List.set_cons_zero, List.set_cons_succ, i64_w, i32_w]
      rfl
     refine one_ (i := 2) (N := some 27) #[true, true, true, true, true, false, false] rfl rfl (by kernel_rfl) (by decide) (fun K hK => ?_)
     refine Kd.R_append_rows_step k25 w.heap.size (by rfl) (.tmp 25) (.tmp 26) 29 25 (.agg #[(.int .i64 0), (.int .i64 0), (.int .i64 0), (.int .i64 0), (.int .i64 0), (.int .i64 0)]) 48 rfl Tryd.underlying29 info25 rfl (by decide) (by omega) v290 y289 x3_1 _ _ _ (fun k_ => some k_ ≠ (.slice Ao18 x3_1.length co18 : Value).ownBlock ∧ some k_ ≠ (v296 : Value).ownBlock ∧ k_ ≠ gb285) (fun _ => False) rfl rfl ?aO ?aR (fun _ _ h => h) (fun _ h => h.elim) ?aF (Below.refl _ _) ?aS ?aL ?_
     (case aR => exact zqC (Kd.R_reads' HO_3.out).2.2)
     (case aF => exact (fun k_ hk => ⟨Kd.fresh' (Kd.R_lt (zqR HO_3.out)) k_ hk, Kd.fresh' (Kd.R_lt (zqR HO297.out)) k_ hk, Kd.freshB (g := gb285) (o := .cells #[.int .i64 (wrap64 ((wrap64 (x4_1 + 1)) + t286)), .int .i64 t278, .int .i64 t279, .int .i64 t280, .int .i64 t281, .int .i64 t282] 25 (0, 0)) (zqK BK285.out) k_ hk⟩))
     (case aO => exact (by (with_reducible repeat (first | apply Kd.R_alloc | apply Kd.R_drewN | apply Kd.R_drew)); exact Kd.R_mono HO291.out (fun _ hk => ⟨hk.1.1.2, ⟨hk.2, hk.1.2⟩⟩)))
     (case aS => exact (keep_size (w := w) (g := g) (row := none) zq6))
     (case aL => have := LMc9.out; omega)
     intro v293 w25 ho hb hg hat
     rw [← Ny292.out] at ho
     have n0_ := Aside0.mk (Kd.R_after (ok := (fun k_ => some k_ ≠ (v296 : Value).ownBlock ∧ k_ ≠ gb285)) (by (with_reducible repeat (first | apply Kd.R_alloc | apply Kd.R_drewN | apply Kd.R_drew)); exact Kd.R_mono HO_3.out (fun _ hk => ⟨⟨hk.2, hk.1.1⟩, hk.1.2⟩)) hg hat)
     have n1_ := Aside0.mk (IsS46.grown zq10 hg (IsS46.own_ne HI0.out HO291.out (by decide)))
     have n2_ := Aside0.mk (blk_grown (g := gb285) (o := .cells #[.int .i64 (wrap64 ((wrap64 (x4_1 + 1)) + t286)), .int .i64 t278, .int .i64 t279, .int .i64 t280, .int .i64 t281, .int .i64 t282] 25 (0, 0)) (zqK BK285.out) hg (Kd.R_away HO291.out (fun _ hk => hk.1.2)))
     have n3_ := Aside0.mk (Kd.R_after (ok := (fun k_ => some k_ ≠ (.slice Ao18 x3_1.length co18 : Value).ownBlock ∧ k_ ≠ gb285)) (by (with_reducible repeat (first | apply Kd.R_alloc | apply Kd.R_drewN | apply Kd.R_drew)); exact Kd.R_mono HO297.out (fun _ hk => ⟨⟨hk.1.1.2, hk.2⟩, hk.1.2⟩)) hg hat)
     have n4_ := Aside0.mk (below_weaken zq11 HL.out hb)
     have n5_ := Aside0.mk (KeepBut.trans zq6 (KeepBut.of_grown hg g) (Kd.R_base2 HO291.out))
     have n6_ := Aside0.mk (ho)
     clear HO_3
     clear HI0
     clear BK285
     clear HO297
     clear HB
     clear HK
     clear HO291
     have HO_3 := n0_
     have HI0 := n1_
     have BK285 := n2_
     have HO297 := n3_
     have HB := n4_
     have HK := n5_
     have HO294 := n6_
     clear n0_ n1_ n2_ n3_ n4_ n5_ n6_
     clear ho hb hg hat
     refine hK.out _ _ (bc6 BK285.out) (fun hHeld => ?_)
     clear hK K
     refine norm_ (a' := ?_) ?_ ?_
     rotate_left
     ·
      show Act.put _ (some 27) _ = _
      simp only [Act.put, List.setIfInBounds_toArray, List.set_cons_zero, List.set_cons_succ, i64_w, i32_w]
      rfl
     exact norm_ (by simp only [putAll, Act.put, List.setIfInBounds_toArray, List.set_cons_zero, List.set_cons_succ]) (hCont (v290, v293, v296) _ ⟨hHeld, zq33, (by (with_reducible repeat (first | apply Kd.R_alloc | apply Kd.R_drewN | apply Kd.R_drew)); exact Kd.R_mono HO297.out (fun _ hk => ⟨hk.2, ⟨hk.1.1, hk.1.2⟩⟩)), (by (with_reducible repeat (first | apply Kd.R_alloc | apply Kd.R_drewN | apply Kd.R_drew)); exact Kd.R_mono HO_3.out (fun _ hk => ⟨hk.2, ⟨hk.1.1, hk.1.2⟩⟩)), (zqK BK285.out), zq10, zq6, zq11⟩)
   ·
    skip
    refine Kd.R_lit_step k25 _ 25 ?hg (N := 29) ?hd (xs := ([(⟨wrap64 ((wrap64 (x4_1 + 1)) + t286), t278, t279, t280, t281, t282⟩ : S25)] : List (S25))) (inner := [.int .i64 (wrap64 ((wrap64 (x4_1 + 1)) + t286)), .int .i64 t278, .int .i64 t279, .int .i64 t280, .int .i64 t281, .int .i64 t282]) (ok := fun _ => True) (okp := fun _ => True) ?hr ?hp (fun _ hk => hk) trivial (Below.refl _ _) (Nat.le_refl _) (by simp) ?_; (case hd => rfl); (case hg => rfl); (case hr => exact zqS); (case hp => exact (Reps.c6 (show Kd.M k25 _ _ _ (⟨wrap64 ((wrap64 (x4_1 + 1)) + t286), t278, t279, t280, t281, t282⟩ : S25) [.int .i64 (wrap64 ((wrap64 (x4_1 + 1)) + t286)), .int .i64 t278, .int .i64 t279, .int .i64 t280, .int .i64 t281, .int .i64 t282] from (k25_mkM _ _ _ (⟨wrap64 ((wrap64 (x4_1 + 1)) + t286), t278, t279, t280, t281, t282⟩ : S25) )) (Reps.none _ _)))
    intro v296 w21 ho22 hb hg_ hnew_
    clear hg_ hnew_
    (first | rw [← Ny295.out] at ho22 | (simp only [Int.reduceToNat] at ho22; rw [← Ny295.out] at ho22))
    have n0_ := Aside0.mk (Kd.R_elder' (zqR HO_3.out) (Kd.R_base ho22) hb)
    have n1_ := Aside0.mk (Kd.R_lower (Kd.R_newB (Kd.R_new' ho22 (Kd.R_lt (zqR HO_3.out))) (g := gb285) (o := .cells #[.int .i64 (wrap64 ((wrap64 (x4_1 + 1)) + t286)), .int .i64 t278, .int .i64 t279, .int .i64 t280, .int .i64 t281, .int .i64 t282] 25 (0, 0)) (zqK BK285.out)) (keep_size (w := w) (g := g) (row := none) zq6))
    have n2_ := Aside0.mk (IsS46.below zq10 hb)
    have n3_ := Aside0.mk (blk_below (g := gb285) (o := .cells #[.int .i64 (wrap64 ((wrap64 (x4_1 + 1)) + t286)), .int .i64 t278, .int .i64 t279, .int .i64 t280, .int .i64 t281, .int .i64 t282] 25 (0, 0)) (zqK BK285.out) hb)
    have n4_ := Aside0.mk (KeepBut.trans zq6 (KeepBut.of_below hb g none) (.inl rfl))
    have n5_ := Aside0.mk (below_step zq11 hb)
    clear HO_3
    clear HI0
    clear BK285
    clear HK
    clear HB
    have HO_3 := n0_
    have HO297 := n1_
    have HI0 := n2_
    have BK285 := n3_
    have HK := n4_
    have HB := n5_
    clear n0_ n1_ n2_ n3_ n4_ n5_
    clear hb ho22
    refine hK.out _ _ (bc6 BK285.out) (fun hHeld => ?_)
    clear hK K
    refine norm_ (a' := ?_) ?_ ?_
    rotate_left
    ·
     show Act.put _ (some 29) _ = _
     simp only [Act.put, List.setIfInBounds_toArray, List.set_cons_zero, List.set_cons_succ, i64_w, i32_w]
     rfl
    refine one_ (i := 0) (N := some 25) #[true, true, false, true, true, false, false] rfl rfl (by kernel_rfl) (by decide) (fun K hK => ?_)
    refine Kd.R_lit_step k25 _ 25 ?hg (N := 25) ?hd (xs := ([] : List (S25))) (inner := []) (ok := fun _ => True) (okp := fun _ => True) ?hr ?hp (fun _ hk => hk) trivial (Below.refl _ _) (Nat.le_refl _) (by simp) ?_; (case hd => rfl); (case hg => rfl); (case hr => exact zqS); (case hp => exact (Reps.none _ _))
    intro v290 w23 ho24 hb hg_ hnew_
    clear hg_ hnew_
    (first | rw [← Ny289.out] at ho24 | (simp only [Int.reduceToNat] at ho24; rw [← Ny289.out] at ho24))
    have n0_ := Aside0.mk (Kd.R_elder' (zqR HO_3.out) (Kd.R_base ho24) hb)
    have n1_ := Aside0.mk (Kd.R_elder' (zqR HO297.out) (Kd.R_base ho24) hb)
    have n2_ := Aside0.mk (Kd.R_lower (Kd.R_newB (Kd.R_new' (Kd.R_new' ho24 (Kd.R_lt (zqR HO_3.out))) (Kd.R_lt (zqR HO297.out))) (g := gb285) (o := .cells #[.int .i64 (wrap64 ((wrap64 (x4_1 + 1)) + t286)), .int .i64 t278, .int .i64 t279, .int .i64 t280, .int .i64 t281, .int .i64 t282] 25 (0, 0)) (zqK BK285.out)) (keep_size (w := w) (g := g) (row := none) zq6))
    have n3_ := Aside0.mk (IsS46.below zq10 hb)
    have n4_ := Aside0.mk (blk_below (g := gb285) (o := .cells #[.int .i64 (wrap64 ((wrap64 (x4_1 + 1)) + t286)), .int .i64 t278, .int .i64 t279, .int .i64 t280, .int .i64 t281, .int .i64 t282] 25 (0, 0)) (zqK BK285.out) hb)
    have n5_ := Aside0.mk (KeepBut.trans zq6 (KeepBut.of_below hb g none) (.inl rfl))
    have n6_ := Aside0.mk (below_step zq11 hb)
    clear HO_3
    clear HO297
    clear HI0
    clear BK285
    clear HK
    clear HB
    have HO_3 := n0_
    have HO297 := n1_
    have HO291 := n2_
    have HI0 := n3_
    have BK285 := n4_
    have HK := n5_
    have HB := n6_
    clear n0_ n1_ n2_ n3_ n4_ n5_ n6_
    clear hb ho24
    refine hK.out _ _ (bc6 BK285.out) (fun hHeld => ?_)
    clear hK K
    refine norm_ (a' := ?_) ?_ ?_
    rotate_left
    ·
     show Act.put _ (some 25) _ = _
     simp only [Act.put, List.setIfInBounds_toArray, List.set_cons_zero, List.set_cons_succ, i64_w, i32_w]
     rfl
    refine one_ (i := 2) (N := some 27) #[true, true, true, true, true, false, false] rfl rfl (by kernel_rfl) (by decide) (fun K hK => ?_)
    refine Kd.R_append_rows_step k25 w.heap.size (by rfl) (.tmp 25) (.tmp 26) 29 25 (.agg #[(.int .i64 0), (.int .i64 0), (.int .i64 0), (.int .i64 0), (.int .i64 0), (.int .i64 0)]) 48 rfl Tryd.underlying29 info25 rfl (by decide) (by omega) v290 y289 x3_1 _ _ _ (fun k_ => some k_ ≠ (.slice Ao18 x3_1.length co18 : Value).ownBlock ∧ some k_ ≠ (v296 : Value).ownBlock ∧ k_ ≠ gb285) (fun _ => False) rfl rfl ?aO ?aR (fun _ _ h => h) (fun _ h => h.elim) ?aF (Below.refl _ _) ?aS ?aL ?_
    (case aR => exact zqC (Kd.R_reads' HO_3.out).2.2)
    (case aF => exact (fun k_ hk => ⟨Kd.fresh' (Kd.R_lt (zqR HO_3.out)) k_ hk, Kd.fresh' (Kd.R_lt (zqR HO297.out)) k_ hk, Kd.freshB (g := gb285) (o := .cells #[.int .i64 (wrap64 ((wrap64 (x4_1 + 1)) + t286)), .int .i64 t278, .int .i64 t279, .int .i64 t280, .int .i64 t281, .int .i64 t282] 25 (0, 0)) (zqK BK285.out) k_ hk⟩))
    (case aO => exact (by (with_reducible repeat (first | apply Kd.R_alloc | apply Kd.R_drewN | apply Kd.R_drew)); exact Kd.R_mono HO291.out (fun _ hk => ⟨hk.1.1.2, ⟨hk.1.2, hk.2⟩⟩)))
    (case aS => exact (keep_size (w := w) (g := g) (row := none) zq6))
    (case aL => have := LMc9.out; omega)
    intro v293 w25 ho hb hg hat
    rw [← Ny292.out] at ho
    have n0_ := Aside0.mk (Kd.R_after (ok := (fun k_ => some k_ ≠ (v296 : Value).ownBlock ∧ k_ ≠ gb285)) (by (with_reducible repeat (first | apply Kd.R_alloc | apply Kd.R_drewN | apply Kd.R_drew)); exact Kd.R_mono HO_3.out (fun _ hk => ⟨⟨hk.1.2, hk.1.1⟩, hk.2⟩)) hg hat)
    have n1_ := Aside0.mk (IsS46.grown zq10 hg (IsS46.own_ne HI0.out HO291.out (by decide)))
    have n2_ := Aside0.mk (blk_grown (g := gb285) (o := .cells #[.int .i64 (wrap64 ((wrap64 (x4_1 + 1)) + t286)), .int .i64 t278, .int .i64 t279, .int .i64 t280, .int .i64 t281, .int .i64 t282] 25 (0, 0)) (zqK BK285.out) hg (Kd.R_away HO291.out (fun _ hk => hk.2)))
    have n3_ := Aside0.mk (Kd.R_after (ok := (fun k_ => some k_ ≠ (.slice Ao18 x3_1.length co18 : Value).ownBlock ∧ k_ ≠ gb285)) (by (with_reducible repeat (first | apply Kd.R_alloc | apply Kd.R_drewN | apply Kd.R_drew)); exact Kd.R_mono HO297.out (fun _ hk => ⟨⟨hk.1.1.2, hk.1.2⟩, hk.2⟩)) hg hat)
    have n4_ := Aside0.mk (below_weaken zq11 HL.out hb)
    have n5_ := Aside0.mk (KeepBut.trans zq6 (KeepBut.of_grown hg g) (Kd.R_base2 HO291.out))
    have n6_ := Aside0.mk (ho)
    clear HO_3
    clear HI0
    clear BK285
    clear HO297
    clear HB
    clear HK
    clear HO291
    have HO_3 := n0_
    have HI0 := n1_
    have BK285 := n2_
    have HO297 := n3_
    have HB := n4_
    have HK := n5_
    have HO294 := n6_
    clear n0_ n1_ n2_ n3_ n4_ n5_ n6_
    clear ho hb hg hat
    refine hK.out _ _ (bc6 BK285.out) (fun hHeld => ?_)
    clear hK K
    refine norm_ (a' := ?_) ?_ ?_
    rotate_left
    ·
     show Act.put _ (some 27) _ = _
     simp only [Act.put, List.setIfInBounds_toArray, List.set_cons_zero, List.set_cons_succ, i64_w, i32_w]
     rfl
    exact norm_ (by simp only [putAll, Act.put, List.setIfInBounds_toArray, List.set_cons_zero, List.set_cons_succ]) (hCont (v290, v293, v296) _ ⟨hHeld, zq33, (by (with_reducible repeat (first | apply Kd.R_alloc | apply Kd.R_drewN | apply Kd.R_drew)); exact Kd.R_mono HO297.out (fun _ hk => ⟨hk.2, ⟨hk.1.1, hk.1.2⟩⟩)), (by (with_reducible repeat (first | apply Kd.R_alloc | apply Kd.R_drewN | apply Kd.R_drew)); exact Kd.R_mono HO_3.out (fun _ hk => ⟨hk.2, ⟨hk.1.1, hk.1.2⟩⟩)), (zqK BK285.out), zq10, zq6, zq11⟩)
  rintro ⟨v290, v293, v296⟩ w26 ⟨hS_, h0_, h1_, h2_, h3_, h4_, h5_, h6_⟩
  have n0_ : Aside0 (Kd.R k25 25 w26 w.heap.size (fun k_ => some k_ ≠ (v296 : Value).ownBlock ∧ some k_ ≠ (.slice Ao18 x3_1.length co18 : Value).ownBlock ∧ k_ ≠ gb285) v293 y292) := ⟨h0_⟩
  have n1_ : Aside0 (Kd.R k25 25 w26 w.heap.size (fun k_ => some k_ ≠ (v293 : Value).ownBlock ∧ some k_ ≠ (.slice Ao18 x3_1.length co18 : Value).ownBlock ∧ k_ ≠ gb285) v296 y295) := ⟨h1_⟩
  have n2_ : Aside0 (Kd.R k25 25 w26 w.heap.size (fun k_ => some k_ ≠ (v293 : Value).ownBlock ∧ some k_ ≠ (v296 : Value).ownBlock ∧ k_ ≠ gb285) (.slice Ao18 x3_1.length co18) x3_1) := ⟨h2_⟩
  have n3_ : Aside0 (w26.heap[gb285]? = some (.cells #[.int .i64 (wrap64 ((wrap64 (x4_1 + 1)) + t286)), .int .i64 t278, .int .i64 t279, .int .i64 t280, .int .i64 t281, .int .i64 t282] 25 (0, 0))) := ⟨h3_⟩
  have n4_ : Aside0 (IsS46 w0 w26 g s0_0 t287 t288) := ⟨h4_⟩
  have n5_ : Aside0 (KeepBut w w26 g none) := ⟨h5_⟩
  have n6_ : Aside0 (Below w0.heap.size w0 w26) := ⟨h6_⟩
  clear HO_3
  clear BK285
  clear HI0
  clear HK
  clear HB
  clear h0_ h1_ h2_ h3_ h4_ h5_ h6_
  have HO294 := n0_
  have HO297 := n1_
  have HO_3 := n2_
  have BK285 := n3_
  have HI0 := n4_
  have HK := n5_
  have HB := n6_
  clear n0_ n1_ n2_ n3_ n4_ n5_ n6_
  have hHeld : w26.cell? ⟨gb285, 0, none⟩ = some (.int .i64 (wrap64 ((wrap64 (x4_1 + 1)) + t286))) ∧ w26.cell? ⟨gb285, 1, none⟩ = some (.int .i64 t278) ∧ w26.cell? ⟨gb285, 2, none⟩ = some (.int .i64 t279) ∧ w26.cell? ⟨gb285, 3, none⟩ = some (.int .i64 t280) ∧ w26.cell? ⟨gb285, 4, none⟩ = some (.int .i64 t281) ∧ w26.cell? ⟨gb285, 5, none⟩ = some (.int .i64 t282) := hS_
  obtain ⟨Ao28, co28, eo28⟩ := Kd.R_slice HO297.out
  (first | subst eo28 | (injection eo28 with f1_ f2_ f3_; have f4_ := f1_.symm; have f5_ := f3_.symm; clear f1_ f2_ f3_; subst f4_; subst f5_))
  refine norm_ (a' := ?_) ?_ ?_
  rotate_left
  ·
   simp only [putAll, Act.put, List.setIfInBounds_toArray, List.set_cons_zero, List.set_cons_succ]
   rfl
  refine one_ (i := 5) (N := some 30) #[true, true, true, true, true, true, false] rfl rfl (by kernel_rfl) (by decide) (fun K hK => ?_)
  refine Kd.R_append_rows_step k25 w.heap.size (by rfl) (.tmp 27) (.tmp 29) 29 25 (.agg #[(.int .i64 0), (.int .i64 0), (.int .i64 0), (.int .i64 0), (.int .i64 0), (.int .i64 0)]) 48 rfl Tryd.underlying29 info25 rfl (by decide) (by omega) v293 y292 y295 _ _ _ (fun k_ => some k_ ≠ (.slice Ao18 x3_1.length co18 : Value).ownBlock ∧ some k_ ≠ (.slice Ao28 y295.length co28 : Value).ownBlock ∧ k_ ≠ gb285) (fun _ => False) rfl rfl ?aO ?aR (fun _ _ h => h) (fun _ h => h.elim) ?aF (Below.refl _ _) ?aS ?aL ?_
  (case aR => exact zqC (Kd.R_reads' HO297.out).2.2)
  (case aF => exact (fun k_ hk => ⟨Kd.fresh' (Kd.R_lt (zqR HO_3.out)) k_ hk, Kd.fresh' (Kd.R_lt (zqR HO297.out)) k_ hk, Kd.freshB (g := gb285) (o := .cells #[.int .i64 (wrap64 ((wrap64 (x4_1 + 1)) + t286)), .int .i64 t278, .int .i64 t279, .int .i64 t280, .int .i64 t281, .int .i64 t282] 25 (0, 0)) (zqK BK285.out) k_ hk⟩))
  (case aO => exact zq33)
  (case aS => exact (keep_size (w := w) (g := g) (row := none) zq6))
  (case aL => have := LMc10.out; omega)
  intro v299 w27 ho hb hg hat
  rw [← Ny298.out] at ho
  have n0_ := Aside0.mk (Kd.R_after (ok := (fun k_ => some k_ ≠ (.slice Ao28 y295.length co28 : Value).ownBlock ∧ k_ ≠ gb285)) (by (with_reducible repeat (first | apply Kd.R_alloc | apply Kd.R_drewN | apply Kd.R_drew)); exact Kd.R_mono HO_3.out (fun _ hk => ⟨⟨hk.2.1, hk.2.2⟩, hk.1⟩)) hg hat)
  have n1_ := Aside0.mk (IsS46.grown zq10 hg (IsS46.own_ne HI0.out HO294.out (by decide)))
  have n2_ := Aside0.mk (blk_grown (g := gb285) (o := .cells #[.int .i64 (wrap64 ((wrap64 (x4_1 + 1)) + t286)), .int .i64 t278, .int .i64 t279, .int .i64 t280, .int .i64 t281, .int .i64 t282] 25 (0, 0)) (zqK BK285.out) hg (Kd.R_away HO294.out (fun _ hk => hk.2.2)))
  have n3_ := Aside0.mk (Kd.R_after (ok := (fun k_ => some k_ ≠ (.slice Ao18 x3_1.length co18 : Value).ownBlock ∧ k_ ≠ gb285)) (by (with_reducible repeat (first | apply Kd.R_alloc | apply Kd.R_drewN | apply Kd.R_drew)); exact Kd.R_mono HO297.out (fun _ hk => ⟨⟨hk.2.1, hk.2.2⟩, hk.1⟩)) hg hat)
  have n4_ := Aside0.mk (below_weaken zq11 HL.out hb)
  have n5_ := Aside0.mk (KeepBut.trans zq6 (KeepBut.of_grown hg g) (Kd.R_base2 HO294.out))
  have n6_ := Aside0.mk (ho)
  clear HO_3
  clear HI0
  clear BK285
  clear HO297
  clear HB
  clear HK
  clear HO294
  have HO_3 := n0_
  have HI0 := n1_
  have BK285 := n2_
  have HO297 := n3_
  have HB := n4_
  have HK := n5_
  have HO300 := n6_
  clear n0_ n1_ n2_ n3_ n4_ n5_ n6_
  clear ho hb hg hat
  refine hK.out _ _ (bc6 BK285.out) (fun hHeld => ?_)
  clear hK K
  refine norm_ (a' := ?_) ?_ ?_
  rotate_left
  ·
   show Act.put _ (some 30) _ = _
   simp only [Act.put, List.setIfInBounds_toArray, List.set_cons_zero, List.set_cons_succ, i64_w, i32_w]
   rfl
  refine pure_ (i := 6) (N := some 7) (v := ?_) (a' := ?_) #[true, true, true, true, true, true, true] rfl rfl (by kernel_rfl) (fun _ _ _ h => h) (Or.inl ⟨by rfl, ?_⟩) ?_ ?_
  rotate_left; · exact zqB
  rotate_left; · exact zqA
  refine done_ (by kernel_rfl) ?_
  go_upto_region 10 with (fail)
  go_cut [32] (fun v32 wc => ∃ (kq : Nat) (x32_10 : Bool), v32 = .bool x32_10 ∧ Aside0 (spec_l1Cur_warnings.j1 kq x3_1 (wrap64 ((wrap64 (x4_1 + 1)) + t286)) x5_1 y298 x32_10 s0_0 t287 t288 = some (r1, r2, r3)) ∧ Aside0 (kq ≤ k1) ∧ Aside0 (Kd.R k25 25 wc w.heap.size (fun k_ => some k_ ≠ (v299 : Value).ownBlock ∧ k_ ≠ gb285) (.slice Ao18 x3_1.length co18) x3_1) ∧ Aside0 (Kd.R k25 25 wc w.heap.size (fun k_ => some k_ ≠ ((.slice Ao18 x3_1.length co18) : Value).ownBlock ∧ k_ ≠ gb285) v299 y298) ∧ Aside0 (wc.heap[gb285]? = some (.cells #[.int .i64 (wrap64 ((wrap64 (x4_1 + 1)) + t286)), .int .i64 t278, .int .i64 t279, .int .i64 t280, .int .i64 t281, .int .i64 t282] 25 (0, 0))) ∧ Aside0 (IsS46 w0 wc g s0_0 t287 t288) ∧ Aside0 (KeepBut w wc g none) ∧ Aside0 (Below w0.heap.size w0 wc))
  case first =>
   have H := HC11.out
   clear HC11
   replace H := Option.bind_eq_some_iff.mp H
   obtain ⟨t301, A290, H⟩ := H
   replace H : (spec_l1Cur_warnings.j1 k1 x3_1 (wrap64 ((wrap64 (x4_1 + 1)) + t286)) x5_1 y298 t301 s0_0 t287 t288) = some (r1, r2, r3) := H
   have A29 := Aside0.mk A290
   clear A290
   have H' := Aside0.mk H
   clear H
   obtain ⟨Ao30, co30, eo30⟩ := Kd.R_slice HO300.out
   subst eo30
   go_wp2_with (first | ((with_reducible refine gate_callee (f := 54) rfl ?_); refine goesL_ (some 32) rfl rfl Tryd.func54 (by kernel_rfl) rfl #[.slice Ao30 y298.length co30] rfl zq1 ?_; (with_reducible refine (spec_l14List.calls k1 _ _ y298 t301 _ ?side1 ?side2 A29.out).mono ?_); (case side1 => exact zqC (Kd.R_reads' HO300.out).2.2); (case side2 => exact (Kd.R_reads' HO300.out).2.1); rintro e w31 ⟨rfl, hb⟩; refine ⟨_, rfl, ?_⟩; have n0_ := Aside0.mk (Kd.R_below (zqR HO_3.out) hb); have n1_ := Aside0.mk (Kd.R_below (zqR HO297.out) hb); have n2_ := Aside0.mk (Kd.R_below (zqR HO300.out) hb); have n3_ := Aside0.mk (IsS46.below zq10 hb); have n4_ := Aside0.mk (blk_below (g := gb285) (o := .cells #[.int .i64 (wrap64 ((wrap64 (x4_1 + 1)) + t286)), .int .i64 t278, .int .i64 t279, .int .i64 t280, .int .i64 t281, .int .i64 t282] 25 (0, 0)) (zqK BK285.out) hb); have n5_ := Aside0.mk (KeepBut.trans zq6 (KeepBut.of_below hb g none) (.inl rfl)); have n6_ := Aside0.mk (below_step zq11 hb); clear HO_3; clear HO297; clear HO300; clear HI0; clear BK285; clear HK; clear HB; have HO_3 := n0_; have HO297 := n1_; have HO300 := n2_; have HI0 := n3_; have BK285 := n4_; have HK := n5_; have HB := n6_; clear n0_ n1_ n2_ n3_ n4_ n5_ n6_; (try clear hb); (try clear hb2); (try clear hk); (try clear hi)))
   go_meet
   case rel => exact ⟨_, (t301), (by first | rfl | (simp; done) | (simp [*]; done)), H', ⟨by have := HK1.out; first | omega | exact Nat.le_refl _⟩, ⟨by (with_reducible repeat (first | apply Kd.R_alloc | apply Kd.R_drewN | apply Kd.R_drew)); exact Kd.R_mono HO_3.out (fun _ hk => ⟨hk.2, hk.1.2⟩)⟩, ⟨by (with_reducible repeat (first | apply Kd.R_alloc | apply Kd.R_drewN | apply Kd.R_drew)); exact Kd.R_mono HO300.out (fun _ hk => ⟨hk.1, hk.2.2⟩)⟩, ⟨by (with_reducible repeat (first | refine blk_drewN ?_ _ | refine blk_drew ?_ | refine blk_alloc ?_ _)); exact BK285.out⟩, ⟨zq10⟩, ⟨zq6⟩, ⟨zq11⟩⟩
  clear HC11
  try clear c1
  try clear c2
  try clear p2
  try clear c3
  try clear c4
  try clear c5
  try clear c6
  try clear c6b0
  try clear p6
  try clear c9
  try clear c10
  try clear c14
  try clear c24
  try clear hcz15_0
  try clear hcz15_1
  try clear hcz15_2
  try clear hcz15_3
  try clear hcz15_4
  try clear hcz15_5
  try clear hcz17_0
  try clear hcz17_1
  try clear hcz17_2
  try clear hcz17_3
  try clear hcz17_4
  try clear hcz17_5
  try clear hfz15_0
  try clear hfz15_1
  try clear hfz15_2
  try clear hfz15_3
  try clear hfz15_4
  try clear hfz15_5
  try clear hfz17_0
  try clear hfz17_1
  try clear hfz17_2
  try clear hfz17_3
  try clear hfz17_4
  try clear hfz17_5
  try clear p2
  obtain ⟨kq, x32_10, rfl, HA, HJ10, HO_3, HO_7, BK285, HI0, HK, HB⟩ := hcut
  cases kq with
  | zero => exact absurd HA.out (by simp [spec_l1Cur_warnings.j1])
  | succ kj10 =>
   have H := HA.out
   clear HA
   simp only [spec_l1Cur_warnings.j1] at H
   by_cases c32 : x32_10 = true
   case pos =>
    subst c32
    have H1 : (spec_l1Cur_warnings.l0 kj10 y298 (wrap64 ((wrap64 (x4_1 + 1)) + t286)) (wrap64 (x5_1 - 1)) s0_0 t287 t288) = some (r1, r2, r3) := by rw [if_pos rfl] at H; exact H
    clear H
    have H := H1
    clear H1
    have H' := Aside0.mk H
    clear H
    go_wp2
    go_roundg kj10
    case measure => have := HK1.out; have := HJ10.out; omega
    case rel => exact ⟨(y298), ((wrap64 ((wrap64 (x4_1 + 1)) + t286))), (wrap64 (x5_1 - 1)), (t287), (t288), (by first | rfl | (simp; done) | (simp [*]; done)), (by first | rfl | (simp; done) | (simp [*]; done)), H', ⟨by have := HK1.out; have := HJ10.out; omega⟩, ⟨by (with_reducible repeat (first | apply Kd.R_alloc | apply Kd.R_drewN | apply Kd.R_drew)); exact Kd.R_mono HO_7.out (fun _ hk => trivial)⟩, ⟨zq10⟩, ⟨zq6⟩, ⟨zq11⟩⟩
   replace c32 := Bool.eq_false_iff.mpr c32
   subst c32
   have H1 : (spec_l1Cur_warnings.l0 kj10 x3_1 (wrap64 ((wrap64 (x4_1 + 1)) + t286)) (wrap64 (x5_1 - 1)) s0_0 t287 t288) = some (r1, r2, r3) := by rw [if_neg (show ¬ (false = true) by decide)] at H; exact H
   clear H
   have H := H1
   clear H1
   have H' := Aside0.mk H
   clear H
   go_wp2
   go_roundg kj10
   case measure => have := HK1.out; have := HJ10.out; omega
   case rel => exact ⟨(x3_1), ((wrap64 ((wrap64 (x4_1 + 1)) + t286))), (wrap64 (x5_1 - 1)), (t287), (t288), (by first | rfl | (simp; done) | (simp [*]; done)), (by first | rfl | (simp; done) | (simp [*]; done)), H', ⟨by have := HK1.out; have := HJ10.out; omega⟩, ⟨by (with_reducible repeat (first | apply Kd.R_alloc | apply Kd.R_drewN | apply Kd.R_drew)); exact Kd.R_mono HO_3.out (fun _ hk => trivial)⟩, ⟨zq10⟩, ⟨zq6⟩, ⟨zq11⟩⟩

/-! ### spec_DrawOverviewText: function 30 -/
def spec_DrawOverviewText.f (k : Nat) (l0 : List Int) : Option ((List (S25))) := (spec_l1Cur_warnings.f k l0 0 0).bind fun bt329 => (some bt329.1)
theorem spec_DrawOverviewText.mono : ∀ a0 k, LeO (spec_DrawOverviewText.f k a0) (spec_DrawOverviewText.f (k + 1) a0) := by
 intro a0 k
 unfold spec_DrawOverviewText.f
 repeat' first
   | (with_reducible exact spec_l1Cur_warnings.mono _ _ _ _)
   | (with_reducible exact LeO.refl _)
   | (with_reducible exact LeO.none _)
   | (with_reducible refine LeO.ite ?_ ?_)
   | (with_reducible refine LeO.bind ?_ (fun _ => ?_))
   | exact spec_l1Cur_warnings.mono _ _ _ _
   | exact LeO.none _
   | refine LeO.ite ?_ ?_
   | refine LeO.bind ?_ (fun _ => ?_)
set_option maxHeartbeats 8000000 in
set_option maxRecDepth 100000 in
theorem spec_DrawOverviewText.calls (k : Nat) (A0 : Option Addr) (c0 : Nat) (l0 : List Int) (r : List (S25)) (w : World) (hr0 : Kd.C (Kd.int .u8) w A0 l0.length l0) (hc0 : l0.length ≤ c0) (h : spec_DrawOverviewText.f k l0 = some r) :
  Calls Tryd.prog 30 #[.slice A0 l0.length c0] w fun e w' => ∃ v0_ : Value, e = .returned (v0_) ∧ Kd.R k25 25 w' w.heap.size (fun _ => True) v0_ r ∧ Below w.heap.size w w' := by
 have hu46 := Tryd.underlying46
 have HR0 := Aside0.mk hr0
 have HC0 := Aside0.mk hc0
 clear hr0 hc0
 have HB := Aside0.mk (Below.refl w.heap.size w)
 have H : ((spec_l1Cur_warnings.f k l0 0 0).bind fun bt329 => (some bt329.1)) = some r := h
 clear h
 replace H := Option.bind_eq_some_iff.mp H
 obtain ⟨⟨t329, t332, t333⟩, A20, H⟩ := H
 replace H : (some t329) = some r := H
 have A2 := Aside0.mk A20
 clear A20
 obtain rfl := Option.some.inj H
 go_enter Tryd.func30, Tryd.ntmps30
 go_wp2_with (first | ((with_reducible refine gate_dst (N := 6) rfl ?_); refine box_event ?hg (N := 6) ?hd (cs := #[.slice A0 l0.length c0, .int .i64 0, .int .u64 0]) (t := 46) ?hr ?_; (case hd => rfl); (case hg => rfl); (case hr => exact zqS); intro gb328 hg w3 hbox hb; have n0_ := Aside0.mk (below_step zq0 hb); have n1_ := Aside0.mk ((show IsS46 w w3 gb328 l0 0 0 from ⟨_, _, hbox, (by rw [hg]; exact (below_size zq0) : w.heap.size ≤ gb328), HR0.out⟩)); have n2_ := Aside0.mk ((by rw [hg]; exact (below_size zq0) : w.heap.size ≤ gb328)); have n3_ := n2_; clear HB; have HB := n0_; have HI328 := n1_; have GW328 := n2_; have GE328 := n3_; clear n0_ n1_ n2_ n3_; clear hb hbox hg) | ((with_reducible refine gate_callee (f := 47) rfl ?_); refine goesL_ (some 8) rfl rfl Tryd.func47 (by kernel_rfl) rfl #[.pointer (some ⟨gb328, 0, none⟩)] rfl zq1 ?_; (with_reducible refine (spec_l1Cur_warnings.calls k gb328 l0 0 0 t329 t332 t333 w _ ?side1 ?side2 A2.out).mono ?_); (case side1 => exact (by repeat (first | (with_reducible first | exact HI328.out | apply IsS46.alloc | apply IsS46.drewN | apply IsS46.drew | apply IsS46.set_1 | apply IsS46.set_2) | exact HI328.out))); (case side2 => exact zq32); rintro e w4 ⟨v330, rfl, ho0, hi, hb, hk⟩; refine ⟨_, rfl, ?_⟩; have n0_ := Aside0.mk (Kd.R_lower ho0 (below_size zq32)); have n1_ := Aside0.mk (hb); have n2_ := Aside0.mk (hi); clear HB; clear HI328; have HO331 := n0_; have HB := n1_; have HI328 := n2_; clear n0_ n1_ n2_; (try clear hb); (try clear hb2); (try clear hk); (try clear hi); (try clear ho0)))
 go_ret
 exact ⟨_, by first | rfl | (simp [errW_none, errW_some] <;> rfl) | (simp [*, errW_none, errW_some] <;> rfl), zqR HO331.out, zq32⟩
/-! ### spec_DrawHeadlineOf: function 11 -/
def spec_DrawHeadlineOf.f (k : Nat) (l0 : List Int) : Option ((List (S25))) := (spec_DrawOverviewText.f k l0).bind fun t334 => (some t334)
theorem spec_DrawHeadlineOf.mono : ∀ a0 k, LeO (spec_DrawHeadlineOf.f k a0) (spec_DrawHeadlineOf.f (k + 1) a0) := by
 intro a0 k
 unfold spec_DrawHeadlineOf.f
 repeat' first
   | (with_reducible exact spec_DrawOverviewText.mono _ _)
   | (with_reducible exact LeO.refl _)
   | (with_reducible exact LeO.none _)
   | (with_reducible refine LeO.ite ?_ ?_)
   | (with_reducible refine LeO.bind ?_ (fun _ => ?_))
   | exact spec_DrawOverviewText.mono _ _
   | exact LeO.none _
   | refine LeO.ite ?_ ?_
   | refine LeO.bind ?_ (fun _ => ?_)
set_option maxHeartbeats 8000000 in
set_option maxRecDepth 100000 in
theorem spec_DrawHeadlineOf.calls (k : Nat) (A0 : Option Addr) (c0 : Nat) (l0 : List Int) (r : List (S25)) (w : World) (hr0 : Kd.C (Kd.int .u8) w A0 l0.length l0) (hc0 : l0.length ≤ c0) (h : spec_DrawHeadlineOf.f k l0 = some r) :
  Calls Tryd.prog 11 #[.slice A0 l0.length c0] w fun e w' => ∃ v0_ : Value, e = .returned (v0_) ∧ Kd.R k25 25 w' w.heap.size (fun _ => True) v0_ r ∧ Below w.heap.size w w' := by
 have HR0 := Aside0.mk hr0
 have HC0 := Aside0.mk hc0
 clear hr0 hc0
 have HB := Aside0.mk (Below.refl w.heap.size w)
 have H : ((spec_DrawOverviewText.f k l0).bind fun t334 => (some t334)) = some r := h
 clear h
 replace H := Option.bind_eq_some_iff.mp H
 obtain ⟨t334, A20, H⟩ := H
 replace H : (some t334) = some r := H
 have A2 := Aside0.mk A20
 clear A20
 obtain rfl := Option.some.inj H
 go_enter Tryd.func11, Tryd.ntmps11
 go_wp2_with (first | ((with_reducible refine gate_callee (f := 30) rfl ?_); refine goesL_ (some 4) rfl rfl Tryd.func30 (by kernel_rfl) rfl #[.slice A0 l0.length c0] rfl zq1 ?_; (with_reducible refine (spec_DrawOverviewText.calls k _ _ l0 t334 _ ?side1 ?side2 A2.out).mono ?_); (case side1 => exact zqC HR0.out); (case side2 => exact HC0.out); rintro e w3 ⟨v335, rfl, ho0, hb⟩; refine ⟨_, rfl, ?_⟩; have n0_ := Aside0.mk (Kd.R_lower ho0 (below_size zq0)); have n1_ := Aside0.mk (below_step zq0 hb); clear HB; have HO336 := n0_; have HB := n1_; clear n0_ n1_; (try clear hb); (try clear hb2); (try clear hk); (try clear hi); (try clear ho0)))
 go_ret
 exact ⟨_, by first | rfl | (simp [errW_none, errW_some] <;> rfl) | (simp [*, errW_none, errW_some] <;> rfl), zqR HO336.out, zq0⟩
end Go.Proofs.YtjgkinpjjbgcpaaDoor.Q
