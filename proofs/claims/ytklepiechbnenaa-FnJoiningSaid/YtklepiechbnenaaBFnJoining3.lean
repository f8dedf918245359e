/- Texts of this seat, put together: Qf54, Qf99. -/
import Derived.Test.YtklepiechbnenaaZFnJoining
import Derived.Test.YtklepiechbnenaaBFnJoining0
import Derived.Test.YtklepiechbnenaaBFnJoining1
import Derived.Test.YtklepiechbnenaaBFnJoining2
namespace Go.Proofs.Ytklepiechbnenaa.Q
open Go.RowKit Go.Proofs.YtklepiechbnenaaW.PrintWords Go.Proofs.YtklepiechbnenaaW.PrintLast Go.Proofs.YtklepiechbnenaaW.PrintMore
attribute [local go_sem] max2_int min2_int max_two min_two max_three min_three max_four min_four   -- for this text's walks alone
set_option linter.unusedVariables false
set_option linter.unusedSimpArgs false

/-! ### spec_l1Cur_warnings: function 54 -/
mutual
def spec_l1Cur_warnings.l0 : Nat → List (S31) → Int → Int → List Int → Int → Int → Option ((List (S31)) × Int × Int)
 | 0, _, _, _, _, _, _ => none
 | k + 1, x3, x4, x5, x1000, x1001, x1002 => if x5 > 0 then ((spec_l1Cur_warning.f k x1000 x1001 x1002).bind fun bt187 => ((spec_l1Cur_pick.f x1000 bt187.2.2.2.2.2.2.1 bt187.2.2.2.2.2.2.2 2).bind fun bt196 => ((some (([] : List (S31)) : List (S31))).bind fun y199 => (if y199.length + x3.length < 2932031007402 then ((some (y199 ++ x3 : List (S31))).bind fun y202 => ((some (([(⟨wrap64 ((wrap64 (x4 + 1)) + bt196.1), bt187.2.1, bt187.2.2.1, bt187.2.2.2.1, bt187.2.2.2.2.1, bt187.2.2.2.2.2.1⟩ : S31)] : List (S31)) : List (S31))).bind fun y205 => (if y202.length + y205.length < 2932031007402 then ((some (y202 ++ y205 : List (S31))).bind fun y208 => ((spec_l14List.f k y208).bind fun t211 => (spec_l1Cur_warnings.j1 k x3 (wrap64 ((wrap64 (x4 + 1)) + bt196.1)) x5 y208 t211 x1000 bt196.2.1 bt196.2.2))) else (none)))) else (none))))) else ((spec_l1Cur_pick.f x1000 x1001 x1002 24).bind fun bt212 => (if bt212.1 = 0 then ((spec_l1Cur_warning.f k x1000 bt212.2.1 bt212.2.2).bind fun bt215 => ((some (([(⟨bt215.1, bt215.2.1, bt215.2.2.1, bt215.2.2.2.1, bt215.2.2.2.2.1, bt215.2.2.2.2.2.1⟩ : S31)] : List (S31)) : List (S31))).bind fun y223 => (if x3.length + y223.length < 2932031007402 then (some ((x3 ++ y223), bt215.2.2.2.2.2.2.1, bt215.2.2.2.2.2.2.2)) else (none)))) else (if bt212.1 = 1 then (spec_l1Cur_warnings.l1 k x3 0 x1000 bt212.2.1 bt212.2.2) else (some (x3, bt212.2.1, bt212.2.2)))))
def spec_l1Cur_warnings.j1 : Nat → List (S31) → Int → Int → List (S31) → Bool → List Int → Int → Int → Option ((List (S31)) × Int × Int)
 | 0, _, _, _, _, _, _, _, _ => none
 | k + 1, x3, x4, x5, x7, x32, x1000, x1001, x1002 => if x32 = true then (spec_l1Cur_warnings.l0 k x7 x4 (wrap64 (x5 - 1)) x1000 x1001 x1002) else (spec_l1Cur_warnings.l0 k x3 x4 (wrap64 (x5 - 1)) x1000 x1001 x1002)
def spec_l1Cur_warnings.l1 : Nat → List (S31) → Int → List Int → Int → Int → Option ((List (S31)) × Int × Int)
 | 0, _, _, _, _, _ => none
 | k + 1, x3, x8, x1000, x1001, x1002 => (spec_l1Cur_pick.f x1000 x1001 x1002 2).bind fun bt229 => (if (x3.length : Int) < (wrap64 (12 + bt229.1)) then (if x8 < 14 then ((some (([(⟨wrap64 (100 + x8), 5, 1, 9, wrap64 (10 * x8), wrap64 ((wrap64 (10 * x8)) + 5)⟩ : S31)] : List (S31)) : List (S31))).bind fun y232 => (if x3.length + y232.length < 2932031007402 then (spec_l1Cur_warnings.l1 k (x3 ++ y232) (wrap64 (x8 + 1)) x1000 bt229.2.1 bt229.2.2) else (none))) else (some (x3, bt229.2.1, bt229.2.2))) else (some (x3, bt229.2.1, bt229.2.2)))
end
def spec_l1Cur_warnings.f (k : Nat) (s0_0 : List Int) (s0_1 : Int) (s0_2 : Int) : Option ((List (S31)) × Int × Int) := (spec_l1Cur_pick.f s0_0 s0_1 s0_2 7).bind fun bt184 => (spec_l1Cur_warnings.l0 k (([] : List (S31))) 0 bt184.1 s0_0 bt184.2.1 bt184.2.2)
theorem spec_l1Cur_warnings.mono_l : ∀ k, (∀ y0 y1 y2 y3 y4 y5, LeO (spec_l1Cur_warnings.l0 k y0 y1 y2 y3 y4 y5) (spec_l1Cur_warnings.l0 (k + 1) y0 y1 y2 y3 y4 y5)) ∧ (∀ y0 y1 y2 y3 y4 y5 y6 y7, LeO (spec_l1Cur_warnings.j1 k y0 y1 y2 y3 y4 y5 y6 y7) (spec_l1Cur_warnings.j1 (k + 1) y0 y1 y2 y3 y4 y5 y6 y7)) ∧ (∀ y0 y1 y2 y3 y4, LeO (spec_l1Cur_warnings.l1 k y0 y1 y2 y3 y4) (spec_l1Cur_warnings.l1 (k + 1) y0 y1 y2 y3 y4))
 | 0 => ⟨fun _ _ _ _ _ _ r h => by simp [spec_l1Cur_warnings.l0] at h, fun _ _ _ _ _ _ _ _ r h => by simp [spec_l1Cur_warnings.j1] at h, fun _ _ _ _ _ r h => by simp [spec_l1Cur_warnings.l1] at h⟩
 | k + 1 => by
  obtain ⟨ih0, ih1, ih2⟩ := spec_l1Cur_warnings.mono_l k
  refine ⟨?_, ?_, ?_⟩
  ·
   intro y0 y1 y2 y3 y4 y5
   unfold spec_l1Cur_warnings.l0
   repeat' first
   | (with_reducible exact ih0 _ _ _ _ _ _)
   | (with_reducible exact ih1 _ _ _ _ _ _ _ _)
   | (with_reducible exact ih2 _ _ _ _ _)
   | (with_reducible exact spec_l14List.mono _ _)
   | (with_reducible exact spec_l1Cur_warning.mono _ _ _ _)
   | (with_reducible exact LeO.refl _)
   | (with_reducible exact LeO.none _)
   | (with_reducible refine LeO.ite ?_ ?_)
   | (with_reducible refine LeO.bind ?_ (fun _ => ?_))
   | exact ih0 _ _ _ _ _ _
   | exact ih1 _ _ _ _ _ _ _ _
   | exact ih2 _ _ _ _ _
   | exact spec_l14List.mono _ _
   | exact spec_l1Cur_warning.mono _ _ _ _
   | exact LeO.none _
   | refine LeO.ite ?_ ?_
   | refine LeO.bind ?_ (fun _ => ?_)
  ·
   intro y0 y1 y2 y3 y4 y5 y6 y7
   unfold spec_l1Cur_warnings.j1
   repeat' first
   | (with_reducible exact ih0 _ _ _ _ _ _)
   | (with_reducible exact ih1 _ _ _ _ _ _ _ _)
   | (with_reducible exact ih2 _ _ _ _ _)
   | (with_reducible exact spec_l14List.mono _ _)
   | (with_reducible exact spec_l1Cur_warning.mono _ _ _ _)
   | (with_reducible exact LeO.refl _)
   | (with_reducible exact LeO.none _)
   | (with_reducible refine LeO.ite ?_ ?_)
   | (with_reducible refine LeO.bind ?_ (fun _ => ?_))
   | exact ih0 _ _ _ _ _ _
   | exact ih1 _ _ _ _ _ _ _ _
   | exact ih2 _ _ _ _ _
   | exact spec_l14List.mono _ _
   | exact spec_l1Cur_warning.mono _ _ _ _
   | exact LeO.none _
   | refine LeO.ite ?_ ?_
   | refine LeO.bind ?_ (fun _ => ?_)
  ·
   intro y0 y1 y2 y3 y4
   unfold spec_l1Cur_warnings.l1
   repeat' first
   | (with_reducible exact ih0 _ _ _ _ _ _)
   | (with_reducible exact ih1 _ _ _ _ _ _ _ _)
   | (with_reducible exact ih2 _ _ _ _ _)
   | (with_reducible exact spec_l14List.mono _ _)
   | (with_reducible exact spec_l1Cur_warning.mono _ _ _ _)
   | (with_reducible exact LeO.refl _)
   | (with_reducible exact LeO.none _)
   | (with_reducible refine LeO.ite ?_ ?_)
   | (with_reducible refine LeO.bind ?_ (fun _ => ?_))
   | exact ih0 _ _ _ _ _ _
   | exact ih1 _ _ _ _ _ _ _ _
   | exact ih2 _ _ _ _ _
   | exact spec_l14List.mono _ _
   | exact spec_l1Cur_warning.mono _ _ _ _
   | exact LeO.none _
   | refine LeO.ite ?_ ?_
   | refine LeO.bind ?_ (fun _ => ?_)
theorem spec_l1Cur_warnings.mono : ∀ a0 a1 a2 k, LeO (spec_l1Cur_warnings.f k a0 a1 a2) (spec_l1Cur_warnings.f (k + 1) a0 a1 a2) := by
 intro a0 a1 a2 k
 obtain ⟨ih0, ih1, ih2⟩ := spec_l1Cur_warnings.mono_l k
 unfold spec_l1Cur_warnings.f
 repeat' first
   | (with_reducible exact ih0 _ _ _ _ _ _)
   | (with_reducible exact ih1 _ _ _ _ _ _ _ _)
   | (with_reducible exact ih2 _ _ _ _ _)
   | (with_reducible exact spec_l14List.mono _ _)
   | (with_reducible exact spec_l1Cur_warning.mono _ _ _ _)
   | (with_reducible exact LeO.refl _)
   | (with_reducible exact LeO.none _)
   | (with_reducible refine LeO.ite ?_ ?_)
   | (with_reducible refine LeO.bind ?_ (fun _ => ?_))
   | exact ih0 _ _ _ _ _ _
   | exact ih1 _ _ _ _ _ _ _ _
   | exact ih2 _ _ _ _ _
   | exact spec_l14List.mono _ _
   | exact spec_l1Cur_warning.mono _ _ _ _
   | exact LeO.none _
   | refine LeO.ite ?_ ?_
   | refine LeO.bind ?_ (fun _ => ?_)
set_option maxHeartbeats 8000000 in
set_option maxRecDepth 100000 in
theorem spec_l1Cur_warnings.calls (k : Nat) (g : Nat) (s0_0 : List Int) (s0_1 : Int) (s0_2 : Int) (r1 : List (S31)) (r2 : Int) (r3 : Int) (w0 w : World) (hI : IsS72 w0 w g s0_0 s0_1 s0_2) (hB : Below w0.heap.size w0 w) (h : spec_l1Cur_warnings.f k s0_0 s0_1 s0_2 = some (r1, r2, r3)) :
  Calls Try.prog 54 #[.pointer (some ⟨g, 0, none⟩)] w fun e w' => ∃ v0_ : Value, e = .returned (v0_) ∧ Kd.R k31 31 w' w.heap.size (fun _ => True) v0_ r1 ∧ IsS72 w0 w' g s0_0 r2 r3 ∧ Below w0.heap.size w0 w' ∧ KeepBut w w' g none := by
 have hu31 := Try.underlying31
 have HI0 := Aside0.mk hI
 have HK := Aside0.mk (KeepBut.refl w g none)
 have HL := Aside0.mk hB.size
 clear hI
 have HW0 := Aside0.mk hB.size
 have HB := Aside0.mk hB
 clear hB
 have H : ((spec_l1Cur_pick.f s0_0 s0_1 s0_2 7).bind fun bt184 => (spec_l1Cur_warnings.l0 k (([] : List (S31))) 0 bt184.1 s0_0 bt184.2.1 bt184.2.2)) = some (r1, r2, r3) := h
 clear h
 obtain ⟨y181, hy181⟩ : ∃ y_ : List (S31), y_ = (([] : List (S31))) := ⟨_, rfl⟩
 replace H : ((spec_l1Cur_pick.f s0_0 s0_1 s0_2 7).bind fun bt184 => (spec_l1Cur_warnings.l0 k y181 0 bt184.1 s0_0 bt184.2.1 bt184.2.2)) = some (r1, r2, r3) := zqH hy181 H
 have Ny181 := Aside0.mk hy181
 clear hy181
 replace H := Option.bind_eq_some_iff.mp H
 obtain ⟨⟨t184, t185, t186⟩, A20, H⟩ := H
 replace H : (spec_l1Cur_warnings.l0 k y181 0 t184 s0_0 t185 t186) = some (r1, r2, r3) := H
 have A2 := Aside0.mk A20
 clear A20
 have H' := Aside0.mk H
 clear H
 go_enter Try.func54, Try.ntmps54
 go_wp2_with (first | ((with_reducible refine gate_dst (N := 9) rfl ?_); refine Kd.R_lit k31 _ 31 ?hg (N := 9) ?hd (xs := ([] : List (S31))) (inner := []) (ok := fun _ => True) (okp := fun _ => True) ?hr ?hp (fun _ hk => hk) trivial (Below.refl _ _) (Nat.le_refl _) (by simp) ?_; (case hd => rfl); (case hg => rfl); (case hr => exact zqS); (case hp => exact (Reps.none _ _)); intro v182 w3 ho4 hb hg_ hnew_; clear hg_ hnew_; (first | rw [← Ny181.out] at ho4 | (simp only [Int.reduceToNat] at ho4; rw [← Ny181.out] at ho4)); have n0_ := Aside0.mk (Kd.R_lower ho4 (keep_size (w := w) (g := g) (row := none) zq2)); have n1_ := Aside0.mk (IsS72.below zq4 hb); have n2_ := Aside0.mk (KeepBut.trans zq2 (KeepBut.of_below hb g none) (.inl rfl)); have n3_ := Aside0.mk (below_step zq3 hb); clear HI0; clear HK; clear HB; have HO183 := n0_; have HI0 := n1_; have HK := n2_; have HB := n3_; clear n0_ n1_ n2_ n3_; clear hb ho4) | ((with_reducible refine gate_callee (f := 56) rfl ?_); refine goesL_ (some 11) rfl rfl Try.func56 (by kernel_rfl) rfl #[.pointer (some ⟨g, 0, none⟩), .int .i64 7] rfl zq1 ?_; (with_reducible refine (spec_l1Cur_pick.calls g s0_0 s0_1 s0_2 7 t184 t185 t186 w0 _ ?side1 ?side2 A2.out).mono ?_); (case side1 => exact zq4); (case side2 => exact zq3); rintro e w5 ⟨rfl, hi, hb, hk⟩; refine ⟨_, rfl, ?_⟩; have n0_ := Aside0.mk (Kd.R_mono (Kd.R_keep (IsS72.apart (show IsS72 w0 _ g s0_0 s0_1 s0_2 from by repeat (first | (with_reducible first | exact HI0.out | apply IsS72.alloc | apply IsS72.drewN | apply IsS72.drew | apply IsS72.set_1 | apply IsS72.set_2) | exact HI0.out)) (zqR HO183.out) (by decide)) hk (fun _ h => h.2)) (fun _ h => h.1)); have n1_ := Aside0.mk (KeepBut.trans zq2 hk (.inl rfl)); have n2_ := Aside0.mk (hb); have n3_ := Aside0.mk (hi); clear HO183; clear HK; clear HB; clear HI0; have HO183 := n0_; have HK := n1_; have HB := n2_; have HI0 := n3_; clear n0_ n1_ n2_ n3_; (try clear hb); (try clear hb2); (try clear hk); (try clear hi)))
 go_loopg [3, 4, 5] k (fun kq v3 v4 v5 w' => ∃ (x3_1 : List (S31)) (x4_1 : Int) (x5_1 : Int) (x1001_1 : Int) (x1002_1 : Int), v4 = .int .i64 x4_1 ∧ v5 = .int .i64 x5_1 ∧ Aside0 (spec_l1Cur_warnings.l0 kq x3_1 x4_1 x5_1 s0_0 x1001_1 x1002_1 = some (r1, r2, r3)) ∧ Aside0 (kq ≤ k) ∧ Aside0 (Kd.R k31 31 w' w.heap.size (fun _ => True) v3 x3_1) ∧ Aside0 (IsS72 w0 w' g s0_0 x1001_1 x1002_1) ∧ Aside0 (KeepBut w w' g none) ∧ Aside0 (Below w0.heap.size w0 w'))
 case atStart => exact ⟨(y181), (0), (t184), (t185), (t186), (by first | rfl | (simp; done) | (simp [*]; done)), (by first | rfl | (simp; done) | (simp [*]; done)), H', ⟨Nat.le_refl _⟩, ⟨zqR HO183.out⟩, ⟨zq4⟩, ⟨zq2⟩, ⟨zq3⟩⟩
 clear H'
 try clear p2
 try clear c5
 obtain ⟨x3_1, x4_1, x5_1, x1001_1, x1002_1, rfl, rfl, HA, HK1, HO_3, HI0, HK, HB⟩ := hrel
 cases gk with
 | zero => exact absurd HA.out (by simp [spec_l1Cur_warnings.l0])
 | succ k1 =>
  have H := HA.out
  clear HA
  simp only [spec_l1Cur_warnings.l0] at H
  by_cases c6 : x5_1 > 0
  case neg =>
   rw [if_neg c6] at H
   have c6b0 : decide (0 < x5_1) = false := decide_eq_false c6
   clear c6
   replace H := Option.bind_eq_some_iff.mp H
   obtain ⟨⟨t212, t213, t214⟩, A330, H⟩ := H
   replace H : (if t212 = 0 then ((spec_l1Cur_warning.f k1 s0_0 t213 t214).bind fun bt215 => ((some (([(⟨bt215.1, bt215.2.1, bt215.2.2.1, bt215.2.2.2.1, bt215.2.2.2.2.1, bt215.2.2.2.2.2.1⟩ : S31)] : List (S31)) : List (S31))).bind fun y223 => (if x3_1.length + y223.length < 2932031007402 then (some ((x3_1 ++ y223), bt215.2.2.2.2.2.2.1, bt215.2.2.2.2.2.2.2)) else (none)))) else (if t212 = 1 then (spec_l1Cur_warnings.l1 k1 x3_1 0 s0_0 t213 t214) else (some (x3_1, t213, t214)))) = some (r1, r2, r3) := H
   have A33 := Aside0.mk A330
   clear A330
   by_cases c34 : t212 = 0
   case pos =>
    rw [if_pos c34] at H
    have c34b0 : (t212 == 0) = true := beq_iff_eq.mpr c34
    have c34b1 : (t212 != 0) = false := bne_eq_false_iff_eq.mpr c34
    clear c34
    replace H := Option.bind_eq_some_iff.mp H
    obtain ⟨⟨t215, t216, t217, t218, t219, t220, t221, t222⟩, A350, H⟩ := H
    replace H : ((some (([(⟨t215, t216, t217, t218, t219, t220⟩ : S31)] : List (S31)) : List (S31))).bind fun y223 => (if x3_1.length + y223.length < 2932031007402 then (some ((x3_1 ++ y223), t221, t222)) else (none))) = some (r1, r2, r3) := H
    have A35 := Aside0.mk A350
    clear A350
    obtain ⟨y223, hy223⟩ : ∃ y_ : List (S31), y_ = (([(⟨t215, t216, t217, t218, t219, t220⟩ : S31)] : List (S31))) := ⟨_, rfl⟩
    replace H : (if x3_1.length + y223.length < 2932031007402 then (some ((x3_1 ++ y223), t221, t222)) else (none)) = some (r1, r2, r3) := zqH hy223 H
    have Ny223 := Aside0.mk hy223
    clear hy223
    by_cases c36 : x3_1.length + y223.length < 2932031007402
    case neg =>
     rw [if_neg c36] at H
     exact absurd H (by simp)
    rw [if_pos c36] at H
    have LMc36 := Aside0.mk c36
    clear c36
    obtain ⟨y226, hy226⟩ : ∃ y_ : List (S31), y_ = (x3_1 ++ y223) := ⟨_, rfl⟩
    replace H : (some (y226, t221, t222)) = some (r1, r2, r3) := zqH hy226 H
    have Ny226 := Aside0.mk hy226
    clear hy226
    simp only [Option.some.injEq, Prod.mk.injEq] at H
    obtain ⟨rfl, rfl, rfl⟩ := H
    go_wp2_with (first | ((with_reducible refine gate_callee (f := 56) rfl ?_); refine goesL_ (some 35) rfl rfl Try.func56 (by kernel_rfl) rfl #[.pointer (some ⟨g, 0, none⟩), .int .i64 24] rfl zq1 ?_; (with_reducible refine (spec_l1Cur_pick.calls g s0_0 x1001_1 x1002_1 24 t212 t213 t214 w0 _ ?side1 ?side2 A33.out).mono ?_); (case side1 => exact zq4); (case side2 => exact zq3); rintro e w37 ⟨rfl, hi, hb, hk⟩; refine ⟨_, rfl, ?_⟩; have n0_ := Aside0.mk (Kd.R_mono (Kd.R_keep (IsS72.apart (show IsS72 w0 _ g s0_0 x1001_1 x1002_1 from by repeat (first | (with_reducible first | exact HI0.out | apply IsS72.alloc | apply IsS72.drewN | apply IsS72.drew | apply IsS72.set_1 | apply IsS72.set_2) | exact HI0.out)) (zqR HO_3.out) (by decide)) hk (fun _ h => h.2)) (fun _ h => h.1)); have n1_ := Aside0.mk (KeepBut.trans zq2 hk (.inl rfl)); have n2_ := Aside0.mk (hb); have n3_ := Aside0.mk (hi); clear HO_3; clear HK; clear HB; clear HI0; have HO_3 := n0_; have HK := n1_; have HB := n2_; have HI0 := n3_; clear n0_ n1_ n2_ n3_; (try clear hb); (try clear hb2); (try clear hk); (try clear hi)) | ((with_reducible refine gate_callee (f := 90) rfl ?_); refine goesL_ (some 40) rfl rfl Try.func90 (by kernel_rfl) rfl #[.pointer (some ⟨g, 0, none⟩)] rfl zq1 ?_; (with_reducible refine (spec_l1Cur_warning.calls k1 g s0_0 t213 t214 t215 t216 t217 t218 t219 t220 t221 t222 w0 _ ?side1 ?side2 A35.out).mono ?_); (case side1 => exact zq4); (case side2 => exact zq3); rintro e w38 ⟨rfl, hi, hb, hk⟩; refine ⟨_, rfl, ?_⟩; have n0_ := Aside0.mk (Kd.R_mono (Kd.R_keep (IsS72.apart (show IsS72 w0 _ g s0_0 t213 t214 from by repeat (first | (with_reducible first | exact HI0.out | apply IsS72.alloc | apply IsS72.drewN | apply IsS72.drew | apply IsS72.set_1 | apply IsS72.set_2) | exact HI0.out)) (zqR HO_3.out) (by decide)) hk (fun _ h => h.2)) (fun _ h => h.1)); have n1_ := Aside0.mk (KeepBut.trans zq2 hk (.inl rfl)); have n2_ := Aside0.mk (hb); have n3_ := Aside0.mk (hi); clear HO_3; clear HK; clear HB; clear HI0; have HO_3 := n0_; have HK := n1_; have HB := n2_; have HI0 := n3_; clear n0_ n1_ n2_ n3_; (try clear hb); (try clear hb2); (try clear hk); (try clear hi)) | ((with_reducible refine gate_dst (N := 41) rfl ?_); refine Kd.R_lit k31 _ 31 ?hg (N := 41) ?hd (xs := ([(⟨t215, t216, t217, t218, t219, t220⟩ : S31)] : List (S31))) (inner := [.int .i64 t215, .int .i64 t216, .int .i64 t217, .int .i64 t218, .int .i64 t219, .int .i64 t220]) (ok := fun _ => True) (okp := fun _ => True) ?hr ?hp (fun _ hk => hk) trivial (Below.refl _ _) (Nat.le_refl _) (by simp) ?_; (case hd => rfl); (case hg => rfl); (case hr => exact zqS); (case hp => exact (Reps.c6 (show Kd.M k31 _ _ _ (⟨t215, t216, t217, t218, t219, t220⟩ : S31) [.int .i64 t215, .int .i64 t216, .int .i64 t217, .int .i64 t218, .int .i64 t219, .int .i64 t220] from (k31_mkM _ _ _ (⟨t215, t216, t217, t218, t219, t220⟩ : S31) )) (Reps.none _ _))); intro v224 w39 ho40 hb hg_ hnew_; clear hg_ hnew_; (first | rw [← Ny223.out] at ho40 | (simp only [Int.reduceToNat] at ho40; rw [← Ny223.out] at ho40)); have n0_ := Aside0.mk (Kd.R_elder' (zqR HO_3.out) (Kd.R_base ho40) hb); have n1_ := Aside0.mk (Kd.R_lower (Kd.R_new' ho40 (Kd.R_lt (zqR HO_3.out))) (keep_size (w := w) (g := g) (row := none) zq2)); have n2_ := Aside0.mk (IsS72.below zq4 hb); have n3_ := Aside0.mk (KeepBut.trans zq2 (KeepBut.of_below hb g none) (.inl rfl)); have n4_ := Aside0.mk (below_step zq3 hb); clear HO_3; clear HI0; clear HK; clear HB; have HO_3 := n0_; have HO225 := n1_; have HI0 := n2_; have HK := n3_; have HB := n4_; clear n0_ n1_ n2_ n3_ n4_; clear hb ho40; obtain ⟨Ao42, co42, eo42⟩ := Kd.R_slice HO225.out; subst eo42) | ((with_reducible refine gate_builtin (b := .append) (xs := #[.tmp 38, .tmp 41]) rfl ?_); at_builtin; refine Kd.R_append_rows k31 w.heap.size rfl (.tmp 38) (.tmp 41) 24 31 (.agg #[(.int .i64 0), (.int .i64 0), (.int .i64 0), (.int .i64 0), (.int .i64 0), (.int .i64 0)]) 48 rfl Try.underlying24 info31 rfl (by decide) (by omega) u3 x3_1 y223 _ _ _ (fun k_ => some k_ ≠ (.slice Ao42 y223.length co42 : Value).ownBlock) (fun _ => False) rfl rfl ?aO ?aR (fun _ _ h => h) (fun _ h => h.elim) ?aF (Below.refl _ _) ?aS ?aL ?_; (case aR => exact zqC (Kd.R_reads' HO225.out).2.2); (case aF => exact (fun k_ hk => Kd.fresh' (Kd.R_lt (zqR HO225.out)) k_ hk)); (case aO => exact (by (with_reducible repeat (first | apply Kd.R_alloc | apply Kd.R_drewN | apply Kd.R_drew)); exact Kd.R_mono HO_3.out (fun _ hk => hk.2))); (case aS => exact (keep_size (w := w) (g := g) (row := none) zq2)); (case aL => have := LMc36.out; omega); intro v227 w41 ho hb hg hat; rw [← Ny226.out] at ho; have n0_ := Aside0.mk (IsS72.grown zq4 hg (IsS72.own_ne HI0.out HO_3.out (by decide))); have n1_ := Aside0.mk (Kd.R_after (ok := (fun _ => True)) (zqR HO225.out) hg hat); have n2_ := Aside0.mk (below_weaken zq3 HL.out hb); have n3_ := Aside0.mk (KeepBut.trans zq2 (KeepBut.of_grown hg g) (Kd.R_base2 HO_3.out)); have n4_ := Aside0.mk (ho); clear HI0; clear HO225; clear HB; clear HK; clear HO_3; have HI0 := n0_; have HO225 := n1_; have HB := n2_; have HK := n3_; have HO228 := n4_; clear n0_ n1_ n2_ n3_ n4_; clear ho hb hg hat))
    go_ret
    exact ⟨_, by first | rfl | (simp [errW_none, errW_some] <;> rfl) | (simp [*, errW_none, errW_some] <;> rfl), by (with_reducible repeat (first | apply Kd.R_alloc | apply Kd.R_drewN | apply Kd.R_drew)); exact Kd.R_mono HO228.out (fun _ hk => trivial), zq4, zq3, zq2⟩
   rw [if_neg c34] at H
   have c34b0 : (t212 == 0) = false := beq_eq_false_iff_ne.mpr c34
   have c34b1 : (t212 != 0) = true := bne_iff_ne.mpr c34
   by_cases c43 : t212 = 1
   case neg =>
    rw [if_neg c43] at H
    have c43b0 : (t212 == 1) = false := beq_eq_false_iff_ne.mpr c43
    have c43b1 : (t212 != 1) = true := bne_iff_ne.mpr c43
    simp only [Option.some.injEq, Prod.mk.injEq] at H
    obtain ⟨rfl, rfl, rfl⟩ := H
    go_wp2_with (first | ((with_reducible refine gate_callee (f := 56) rfl ?_); refine goesL_ (some 35) rfl rfl Try.func56 (by kernel_rfl) rfl #[.pointer (some ⟨g, 0, none⟩), .int .i64 24] rfl zq1 ?_; (with_reducible refine (spec_l1Cur_pick.calls g s0_0 x1001_1 x1002_1 24 t212 t213 t214 w0 _ ?side1 ?side2 A33.out).mono ?_); (case side1 => exact zq4); (case side2 => exact zq3); rintro e w59 ⟨rfl, hi, hb, hk⟩; refine ⟨_, rfl, ?_⟩; have n0_ := Aside0.mk (Kd.R_mono (Kd.R_keep (IsS72.apart (show IsS72 w0 _ g s0_0 x1001_1 x1002_1 from by repeat (first | (with_reducible first | exact HI0.out | apply IsS72.alloc | apply IsS72.drewN | apply IsS72.drew | apply IsS72.set_1 | apply IsS72.set_2) | exact HI0.out)) (zqR HO_3.out) (by decide)) hk (fun _ h => h.2)) (fun _ h => h.1)); have n1_ := Aside0.mk (KeepBut.trans zq2 hk (.inl rfl)); have n2_ := Aside0.mk (hb); have n3_ := Aside0.mk (hi); clear HO_3; clear HK; clear HB; clear HI0; have HO_3 := n0_; have HK := n1_; have HB := n2_; have HI0 := n3_; clear n0_ n1_ n2_ n3_; (try clear hb); (try clear hb2); (try clear hk); (try clear hi)))
    go_ret
    exact ⟨_, by first | rfl | (simp [errW_none, errW_some] <;> rfl) | (simp [*, errW_none, errW_some] <;> rfl), zqR HO_3.out, zq4, zq3, zq2⟩
   rw [if_pos c43] at H
   have c43b0 : (t212 == 1) = true := beq_iff_eq.mpr c43
   have c43b1 : (t212 != 1) = false := bne_eq_false_iff_eq.mpr c43
   clear c43
   have H' := Aside0.mk H
   clear H
   go_wp2_with (first | ((with_reducible refine gate_callee (f := 56) rfl ?_); refine goesL_ (some 35) rfl rfl Try.func56 (by kernel_rfl) rfl #[.pointer (some ⟨g, 0, none⟩), .int .i64 24] rfl zq1 ?_; (with_reducible refine (spec_l1Cur_pick.calls g s0_0 x1001_1 x1002_1 24 t212 t213 t214 w0 _ ?side1 ?side2 A33.out).mono ?_); (case side1 => exact zq4); (case side2 => exact zq3); rintro e w44 ⟨rfl, hi, hb, hk⟩; refine ⟨_, rfl, ?_⟩; have n0_ := Aside0.mk (Kd.R_mono (Kd.R_keep (IsS72.apart (show IsS72 w0 _ g s0_0 x1001_1 x1002_1 from by repeat (first | (with_reducible first | exact HI0.out | apply IsS72.alloc | apply IsS72.drewN | apply IsS72.drew | apply IsS72.set_1 | apply IsS72.set_2) | exact HI0.out)) (zqR HO_3.out) (by decide)) hk (fun _ h => h.2)) (fun _ h => h.1)); have n1_ := Aside0.mk (KeepBut.trans zq2 hk (.inl rfl)); have n2_ := Aside0.mk (hb); have n3_ := Aside0.mk (hi); clear HO_3; clear HK; clear HB; clear HI0; have HO_3 := n0_; have HK := n1_; have HB := n2_; have HI0 := n3_; clear n0_ n1_ n2_ n3_; (try clear hb); (try clear hb2); (try clear hk); (try clear hi)))
   go_loopg [3, 8] k1 (fun kq v3 v8 w' => ∃ (x3_2 : List (S31)) (x8_2 : Int) (x1001_2 : Int) (x1002_2 : Int), v8 = .int .i64 x8_2 ∧ Aside0 (spec_l1Cur_warnings.l1 kq x3_2 x8_2 s0_0 x1001_2 x1002_2 = some (r1, r2, r3)) ∧ Aside0 (kq ≤ k1) ∧ Aside0 (Kd.R k31 31 w' w.heap.size (fun _ => True) v3 x3_2) ∧ Aside0 (IsS72 w0 w' g s0_0 x1001_2 x1002_2) ∧ Aside0 (KeepBut w w' g none) ∧ Aside0 (Below w0.heap.size w0 w'))
   case atStart => exact ⟨(x3_1), (0), (t213), (t214), (by first | rfl | (simp; done) | (simp [*]; done)), H', ⟨Nat.le_refl _⟩, ⟨zqR HO_3.out⟩, ⟨zq4⟩, ⟨zq2⟩, ⟨zq3⟩⟩
   clear H'
   try clear c1
   try clear p2
   try clear c3
   try clear c4
   try clear c5
   try clear c6
   try clear c6b0
   try clear p6
   try clear c9
   try clear c10
   try clear c14
   try clear c32
   try clear c34
   try clear c34b0
   try clear c34b1
   try clear c36
   try clear c43
   try clear c43b0
   try clear c43b1
   try clear hcz15_0
   try clear hcz15_1
   try clear hcz15_2
   try clear hcz15_3
   try clear hcz15_4
   try clear hcz15_5
   try clear hcz17_0
   try clear hcz17_1
   try clear hcz17_2
   try clear hcz17_3
   try clear hcz17_4
   try clear hcz17_5
   try clear hfz15_0
   try clear hfz15_1
   try clear hfz15_2
   try clear hfz15_3
   try clear hfz15_4
   try clear hfz15_5
   try clear hfz17_0
   try clear hfz17_1
   try clear hfz17_2
   try clear hfz17_3
   try clear hfz17_4
   try clear hfz17_5
   try clear p2
   try clear p6
   obtain ⟨x3_2, x8_2, x1001_2, x1002_2, rfl, HA, HK2, HO_3, HI0, HK, HB⟩ := hrel
   cases gk with
   | zero => exact absurd HA.out (by simp [spec_l1Cur_warnings.l1])
   | succ k2 =>
    have H := HA.out
    clear HA
    simp only [spec_l1Cur_warnings.l1] at H
    replace H := Option.bind_eq_some_iff.mp H
    obtain ⟨⟨t229, t230, t231⟩, A450, H⟩ := H
    replace H : (if (x3_2.length : Int) < (wrap64 (12 + t229)) then (if x8_2 < 14 then ((some (([(⟨wrap64 (100 + x8_2), 5, 1, 9, wrap64 (10 * x8_2), wrap64 ((wrap64 (10 * x8_2)) + 5)⟩ : S31)] : List (S31)) : List (S31))).bind fun y232 => (if x3_2.length + y232.length < 2932031007402 then (spec_l1Cur_warnings.l1 k2 (x3_2 ++ y232) (wrap64 (x8_2 + 1)) s0_0 t230 t231) else (none))) else (some (x3_2, t230, t231))) else (some (x3_2, t230, t231))) = some (r1, r2, r3) := H
    have A45 := Aside0.mk A450
    clear A450
    by_cases c46 : (x3_2.length : Int) < (wrap64 (12 + t229))
    case neg =>
     rw [if_neg c46] at H
     have c46b0 : decide ((x3_2.length : Int) < (wrap64 (12 + t229))) = false := decide_eq_false c46
     clear c46
     simp only [Option.some.injEq, Prod.mk.injEq] at H
     obtain ⟨rfl, rfl, rfl⟩ := H
     obtain ⟨Ao57, co57, eo57⟩ := Kd.R_slice HO_3.out
     subst eo57
     go_wp2_with (first | ((with_reducible refine gate_callee (f := 56) rfl ?_); refine goesL_ (some 48) rfl rfl Try.func56 (by kernel_rfl) rfl #[.pointer (some ⟨g, 0, none⟩), .int .i64 2] rfl zq1 ?_; (with_reducible refine (spec_l1Cur_pick.calls g s0_0 x1001_2 x1002_2 2 t229 t230 t231 w0 _ ?side1 ?side2 A45.out).mono ?_); (case side1 => exact zq4); (case side2 => exact zq3); rintro e w58 ⟨rfl, hi, hb, hk⟩; refine ⟨_, rfl, ?_⟩; have n0_ := Aside0.mk (Kd.R_mono (Kd.R_keep (IsS72.apart (show IsS72 w0 _ g s0_0 x1001_2 x1002_2 from by repeat (first | (with_reducible first | exact HI0.out | apply IsS72.alloc | apply IsS72.drewN | apply IsS72.drew | apply IsS72.set_1 | apply IsS72.set_2) | exact HI0.out)) (zqR HO_3.out) (by decide)) hk (fun _ h => h.2)) (fun _ h => h.1)); have n1_ := Aside0.mk (KeepBut.trans zq2 hk (.inl rfl)); have n2_ := Aside0.mk (hb); have n3_ := Aside0.mk (hi); clear HO_3; clear HK; clear HB; clear HI0; have HO_3 := n0_; have HK := n1_; have HB := n2_; have HI0 := n3_; clear n0_ n1_ n2_ n3_; (try clear hb); (try clear hb2); (try clear hk); (try clear hi)))
     go_ret
     exact ⟨_, by first | rfl | (simp [errW_none, errW_some] <;> rfl) | (simp [*, errW_none, errW_some] <;> rfl), zqR HO_3.out, zq4, zq3, zq2⟩
    rw [if_pos c46] at H
    have c46b0 : decide ((x3_2.length : Int) < (wrap64 (12 + t229))) = true := decide_eq_true c46
    clear c46
    by_cases c47 : x8_2 < 14
    case neg =>
     rw [if_neg c47] at H
     have c47b0 : decide (x8_2 < 14) = false := decide_eq_false c47
     clear c47
     simp only [Option.some.injEq, Prod.mk.injEq] at H
     obtain ⟨rfl, rfl, rfl⟩ := H
     obtain ⟨Ao55, co55, eo55⟩ := Kd.R_slice HO_3.out
     subst eo55
     go_wp2_with (first | ((with_reducible refine gate_callee (f := 56) rfl ?_); refine goesL_ (some 48) rfl rfl Try.func56 (by kernel_rfl) rfl #[.pointer (some ⟨g, 0, none⟩), .int .i64 2] rfl zq1 ?_; (with_reducible refine (spec_l1Cur_pick.calls g s0_0 x1001_2 x1002_2 2 t229 t230 t231 w0 _ ?side1 ?side2 A45.out).mono ?_); (case side1 => exact zq4); (case side2 => exact zq3); rintro e w56 ⟨rfl, hi, hb, hk⟩; refine ⟨_, rfl, ?_⟩; have n0_ := Aside0.mk (Kd.R_mono (Kd.R_keep (IsS72.apart (show IsS72 w0 _ g s0_0 x1001_2 x1002_2 from by repeat (first | (with_reducible first | exact HI0.out | apply IsS72.alloc | apply IsS72.drewN | apply IsS72.drew | apply IsS72.set_1 | apply IsS72.set_2) | exact HI0.out)) (zqR HO_3.out) (by decide)) hk (fun _ h => h.2)) (fun _ h => h.1)); have n1_ := Aside0.mk (KeepBut.trans zq2 hk (.inl rfl)); have n2_ := Aside0.mk (hb); have n3_ := Aside0.mk (hi); clear HO_3; clear HK; clear HB; clear HI0; have HO_3 := n0_; have HK := n1_; have HB := n2_; have HI0 := n3_; clear n0_ n1_ n2_ n3_; (try clear hb); (try clear hb2); (try clear hk); (try clear hi)))
     go_ret
     exact ⟨_, by first | rfl | (simp [errW_none, errW_some] <;> rfl) | (simp [*, errW_none, errW_some] <;> rfl), zqR HO_3.out, zq4, zq3, zq2⟩
    rw [if_pos c47] at H
    have c47b0 : decide (x8_2 < 14) = true := decide_eq_true c47
    clear c47
    obtain ⟨y232, hy232⟩ : ∃ y_ : List (S31), y_ = (([(⟨wrap64 (100 + x8_2), 5, 1, 9, wrap64 (10 * x8_2), wrap64 ((wrap64 (10 * x8_2)) + 5)⟩ : S31)] : List (S31))) := ⟨_, rfl⟩
    replace H : (if x3_2.length + y232.length < 2932031007402 then (spec_l1Cur_warnings.l1 k2 (x3_2 ++ y232) (wrap64 (x8_2 + 1)) s0_0 t230 t231) else (none)) = some (r1, r2, r3) := zqH hy232 H
    have Ny232 := Aside0.mk hy232
    clear hy232
    by_cases c48 : x3_2.length + y232.length < 2932031007402
    case neg =>
     rw [if_neg c48] at H
     exact absurd H (by simp)
    rw [if_pos c48] at H
    have LMc48 := Aside0.mk c48
    clear c48
    obtain ⟨y235, hy235⟩ : ∃ y_ : List (S31), y_ = (x3_2 ++ y232) := ⟨_, rfl⟩
    replace H : (spec_l1Cur_warnings.l1 k2 y235 (wrap64 (x8_2 + 1)) s0_0 t230 t231) = some (r1, r2, r3) := zqH hy235 H
    have Ny235 := Aside0.mk hy235
    clear hy235
    have H' := Aside0.mk H
    clear H
    obtain ⟨Ao49, co49, eo49⟩ := Kd.R_slice HO_3.out
    subst eo49
    go_wp2_with (first | ((with_reducible refine gate_callee (f := 56) rfl ?_); refine goesL_ (some 48) rfl rfl Try.func56 (by kernel_rfl) rfl #[.pointer (some ⟨g, 0, none⟩), .int .i64 2] rfl zq1 ?_; (with_reducible refine (spec_l1Cur_pick.calls g s0_0 x1001_2 x1002_2 2 t229 t230 t231 w0 _ ?side1 ?side2 A45.out).mono ?_); (case side1 => exact zq4); (case side2 => exact zq3); rintro e w50 ⟨rfl, hi, hb, hk⟩; refine ⟨_, rfl, ?_⟩; have n0_ := Aside0.mk (Kd.R_mono (Kd.R_keep (IsS72.apart (show IsS72 w0 _ g s0_0 x1001_2 x1002_2 from by repeat (first | (with_reducible first | exact HI0.out | apply IsS72.alloc | apply IsS72.drewN | apply IsS72.drew | apply IsS72.set_1 | apply IsS72.set_2) | exact HI0.out)) (zqR HO_3.out) (by decide)) hk (fun _ h => h.2)) (fun _ h => h.1)); have n1_ := Aside0.mk (KeepBut.trans zq2 hk (.inl rfl)); have n2_ := Aside0.mk (hb); have n3_ := Aside0.mk (hi); clear HO_3; clear HK; clear HB; clear HI0; have HO_3 := n0_; have HK := n1_; have HB := n2_; have HI0 := n3_; clear n0_ n1_ n2_ n3_; (try clear hb); (try clear hb2); (try clear hk); (try clear hi)) | ((with_reducible refine gate_dst (N := 66) rfl ?_); refine Kd.R_lit k31 _ 31 ?hg (N := 66) ?hd (xs := ([(⟨wrap64 (100 + x8_2), 5, 1, 9, wrap64 (10 * x8_2), wrap64 ((wrap64 (10 * x8_2)) + 5)⟩ : S31)] : List (S31))) (inner := [.int .i64 (wrap64 (100 + x8_2)), .int .i64 5, .int .i64 1, .int .i64 9, .int .i64 (wrap64 (10 * x8_2)), .int .i64 (wrap64 ((wrap64 (10 * x8_2)) + 5))]) (ok := fun _ => True) (okp := fun _ => True) ?hr ?hp (fun _ hk => hk) trivial (Below.refl _ _) (Nat.le_refl _) (by simp) ?_; (case hd => rfl); (case hg => rfl); (case hr => exact zqS); (case hp => exact (Reps.c6 (show Kd.M k31 _ _ _ (⟨wrap64 (100 + x8_2), 5, 1, 9, wrap64 (10 * x8_2), wrap64 ((wrap64 (10 * x8_2)) + 5)⟩ : S31) [.int .i64 (wrap64 (100 + x8_2)), .int .i64 5, .int .i64 1, .int .i64 9, .int .i64 (wrap64 (10 * x8_2)), .int .i64 (wrap64 ((wrap64 (10 * x8_2)) + 5))] from (k31_mkM _ _ _ (⟨wrap64 (100 + x8_2), 5, 1, 9, wrap64 (10 * x8_2), wrap64 ((wrap64 (10 * x8_2)) + 5)⟩ : S31) )) (Reps.none _ _))); intro v233 w51 ho52 hb hg_ hnew_; clear hg_ hnew_; (first | rw [← Ny232.out] at ho52 | (simp only [Int.reduceToNat] at ho52; rw [← Ny232.out] at ho52)); have n0_ := Aside0.mk (Kd.R_elder' (zqR HO_3.out) (Kd.R_base ho52) hb); have n1_ := Aside0.mk (Kd.R_lower (Kd.R_new' ho52 (Kd.R_lt (zqR HO_3.out))) (keep_size (w := w) (g := g) (row := none) zq2)); have n2_ := Aside0.mk (IsS72.below zq4 hb); have n3_ := Aside0.mk (KeepBut.trans zq2 (KeepBut.of_below hb g none) (.inl rfl)); have n4_ := Aside0.mk (below_step zq3 hb); clear HO_3; clear HI0; clear HK; clear HB; have HO_3 := n0_; have HO234 := n1_; have HI0 := n2_; have HK := n3_; have HB := n4_; clear n0_ n1_ n2_ n3_ n4_; clear hb ho52; obtain ⟨Ao54, co54, eo54⟩ := Kd.R_slice HO234.out; subst eo54) | ((with_reducible refine gate_builtin (b := .append) (xs := #[.tmp 57, .tmp 66]) rfl ?_); at_builtin; refine Kd.R_append_rows k31 w.heap.size rfl (.tmp 57) (.tmp 66) 24 31 (.agg #[(.int .i64 0), (.int .i64 0), (.int .i64 0), (.int .i64 0), (.int .i64 0), (.int .i64 0)]) 48 rfl Try.underlying24 info31 rfl (by decide) (by omega) (.slice Ao49 x3_2.length co49) x3_2 y232 _ _ _ (fun k_ => some k_ ≠ (.slice Ao54 y232.length co54 : Value).ownBlock) (fun _ => False) rfl rfl ?aO ?aR (fun _ _ h => h) (fun _ h => h.elim) ?aF (Below.refl _ _) ?aS ?aL ?_; (case aR => exact zqC (Kd.R_reads' HO234.out).2.2); (case aF => exact (fun k_ hk => Kd.fresh' (Kd.R_lt (zqR HO234.out)) k_ hk)); (case aO => exact (by (with_reducible repeat (first | apply Kd.R_alloc | apply Kd.R_drewN | apply Kd.R_drew)); exact Kd.R_mono HO_3.out (fun _ hk => hk.2))); (case aS => exact (keep_size (w := w) (g := g) (row := none) zq2)); (case aL => have := LMc48.out; omega); intro v236 w53 ho hb hg hat; rw [← Ny235.out] at ho; have n0_ := Aside0.mk (IsS72.grown zq4 hg (IsS72.own_ne HI0.out HO_3.out (by decide))); have n1_ := Aside0.mk (Kd.R_after (ok := (fun _ => True)) (zqR HO234.out) hg hat); have n2_ := Aside0.mk (below_weaken zq3 HL.out hb); have n3_ := Aside0.mk (KeepBut.trans zq2 (KeepBut.of_grown hg g) (Kd.R_base2 HO_3.out)); have n4_ := Aside0.mk (ho); clear HI0; clear HO234; clear HB; clear HK; clear HO_3; have HI0 := n0_; have HO234 := n1_; have HB := n2_; have HK := n3_; have HO237 := n4_; clear n0_ n1_ n2_ n3_ n4_; clear ho hb hg hat))
    go_roundg k2
    case measure => have := HK1.out; have := HK2.out; omega
    case rel => exact ⟨(y235), (wrap64 (x8_2 + 1)), (t230), (t231), (by first | rfl | (simp; done) | (simp [*]; done)), H', ⟨by have := HK1.out; have := HK2.out; omega⟩, ⟨by (with_reducible repeat (first | apply Kd.R_alloc | apply Kd.R_drewN | apply Kd.R_drew)); exact Kd.R_mono HO237.out (fun _ hk => trivial)⟩, ⟨zq4⟩, ⟨zq2⟩, ⟨zq3⟩⟩
  rw [if_pos c6] at H
  have c6b0 : decide (0 < x5_1) = true := decide_eq_true c6
  clear c6
  replace H := Option.bind_eq_some_iff.mp H
  obtain ⟨⟨t187, t188, t189, t190, t191, t192, t193, t194⟩, A70, H⟩ := H
  replace H : ((spec_l1Cur_pick.f s0_0 t193 t194 2).bind fun bt196 => ((some (([] : List (S31)) : List (S31))).bind fun y199 => (if y199.length + x3_1.length < 2932031007402 then ((some (y199 ++ x3_1 : List (S31))).bind fun y202 => ((some (([(⟨wrap64 ((wrap64 (x4_1 + 1)) + bt196.1), t188, t189, t190, t191, t192⟩ : S31)] : List (S31)) : List (S31))).bind fun y205 => (if y202.length + y205.length < 2932031007402 then ((some (y202 ++ y205 : List (S31))).bind fun y208 => ((spec_l14List.f k1 y208).bind fun t211 => (spec_l1Cur_warnings.j1 k1 x3_1 (wrap64 ((wrap64 (x4_1 + 1)) + bt196.1)) x5_1 y208 t211 s0_0 bt196.2.1 bt196.2.2))) else (none)))) else (none)))) = some (r1, r2, r3) := H
  have A7 := Aside0.mk A70
  clear A70
  replace H := Option.bind_eq_some_iff.mp H
  obtain ⟨⟨t196, t197, t198⟩, A80, H⟩ := H
  replace H : ((some (([] : List (S31)) : List (S31))).bind fun y199 => (if y199.length + x3_1.length < 2932031007402 then ((some (y199 ++ x3_1 : List (S31))).bind fun y202 => ((some (([(⟨wrap64 ((wrap64 (x4_1 + 1)) + t196), t188, t189, t190, t191, t192⟩ : S31)] : List (S31)) : List (S31))).bind fun y205 => (if y202.length + y205.length < 2932031007402 then ((some (y202 ++ y205 : List (S31))).bind fun y208 => ((spec_l14List.f k1 y208).bind fun t211 => (spec_l1Cur_warnings.j1 k1 x3_1 (wrap64 ((wrap64 (x4_1 + 1)) + t196)) x5_1 y208 t211 s0_0 t197 t198))) else (none)))) else (none))) = some (r1, r2, r3) := H
  have A8 := Aside0.mk A80
  clear A80
  obtain ⟨y199, hy199⟩ : ∃ y_ : List (S31), y_ = (([] : List (S31))) := ⟨_, rfl⟩
  replace H : (if y199.length + x3_1.length < 2932031007402 then ((some (y199 ++ x3_1 : List (S31))).bind fun y202 => ((some (([(⟨wrap64 ((wrap64 (x4_1 + 1)) + t196), t188, t189, t190, t191, t192⟩ : S31)] : List (S31)) : List (S31))).bind fun y205 => (if y202.length + y205.length < 2932031007402 then ((some (y202 ++ y205 : List (S31))).bind fun y208 => ((spec_l14List.f k1 y208).bind fun t211 => (spec_l1Cur_warnings.j1 k1 x3_1 (wrap64 ((wrap64 (x4_1 + 1)) + t196)) x5_1 y208 t211 s0_0 t197 t198))) else (none)))) else (none)) = some (r1, r2, r3) := zqH hy199 H
  have Ny199 := Aside0.mk hy199
  clear hy199
  by_cases c9 : y199.length + x3_1.length < 2932031007402
  case neg =>
   rw [if_neg c9] at H
   exact absurd H (by simp)
  rw [if_pos c9] at H
  have LMc9 := Aside0.mk c9
  clear c9
  obtain ⟨y202, hy202⟩ : ∃ y_ : List (S31), y_ = (y199 ++ x3_1) := ⟨_, rfl⟩
  replace H : ((some (([(⟨wrap64 ((wrap64 (x4_1 + 1)) + t196), t188, t189, t190, t191, t192⟩ : S31)] : List (S31)) : List (S31))).bind fun y205 => (if y202.length + y205.length < 2932031007402 then ((some (y202 ++ y205 : List (S31))).bind fun y208 => ((spec_l14List.f k1 y208).bind fun t211 => (spec_l1Cur_warnings.j1 k1 x3_1 (wrap64 ((wrap64 (x4_1 + 1)) + t196)) x5_1 y208 t211 s0_0 t197 t198))) else (none))) = some (r1, r2, r3) := zqH hy202 H
  have Ny202 := Aside0.mk hy202
  clear hy202
  obtain ⟨y205, hy205⟩ : ∃ y_ : List (S31), y_ = (([(⟨wrap64 ((wrap64 (x4_1 + 1)) + t196), t188, t189, t190, t191, t192⟩ : S31)] : List (S31))) := ⟨_, rfl⟩
  replace H : (if y202.length + y205.length < 2932031007402 then ((some (y202 ++ y205 : List (S31))).bind fun y208 => ((spec_l14List.f k1 y208).bind fun t211 => (spec_l1Cur_warnings.j1 k1 x3_1 (wrap64 ((wrap64 (x4_1 + 1)) + t196)) x5_1 y208 t211 s0_0 t197 t198))) else (none)) = some (r1, r2, r3) := zqH hy205 H
  have Ny205 := Aside0.mk hy205
  clear hy205
  by_cases c10 : y202.length + y205.length < 2932031007402
  case neg =>
   rw [if_neg c10] at H
   exact absurd H (by simp)
  rw [if_pos c10] at H
  have LMc10 := Aside0.mk c10
  clear c10
  obtain ⟨y208, hy208⟩ : ∃ y_ : List (S31), y_ = (y202 ++ y205) := ⟨_, rfl⟩
  replace H : ((spec_l14List.f k1 y208).bind fun t211 => (spec_l1Cur_warnings.j1 k1 x3_1 (wrap64 ((wrap64 (x4_1 + 1)) + t196)) x5_1 y208 t211 s0_0 t197 t198)) = some (r1, r2, r3) := zqH hy208 H
  have Ny208 := Aside0.mk hy208
  clear hy208
  have HC11 := Aside0.mk H
  clear H
  try go_wp2_with (first | ((with_reducible refine gate_callee (f := 90) rfl ?_); refine goesL_ (some 17) rfl rfl Try.func90 (by kernel_rfl) rfl #[.pointer (some ⟨g, 0, none⟩)] rfl zq1 ?_; (with_reducible refine (spec_l1Cur_warning.calls k1 g s0_0 x1001_1 x1002_1 t187 t188 t189 t190 t191 t192 t193 t194 w0 _ ?side1 ?side2 A7.out).mono ?_); (case side1 => exact zq4); (case side2 => exact zq3); rintro e w12 ⟨rfl, hi, hb, hk⟩; refine ⟨_, rfl, ?_⟩; have n0_ := Aside0.mk (Kd.R_mono (Kd.R_keep (IsS72.apart (show IsS72 w0 _ g s0_0 x1001_1 x1002_1 from by repeat (first | (with_reducible first | exact HI0.out | apply IsS72.alloc | apply IsS72.drewN | apply IsS72.drew | apply IsS72.set_1 | apply IsS72.set_2) | exact HI0.out)) (zqR HO_3.out) (by decide)) hk (fun _ h => h.2)) (fun _ h => h.1)); have n1_ := Aside0.mk (KeepBut.trans zq2 hk (.inl rfl)); have n2_ := Aside0.mk (hb); have n3_ := Aside0.mk (hi); clear HO_3; clear HK; clear HB; clear HI0; have HO_3 := n0_; have HK := n1_; have HB := n2_; have HI0 := n3_; clear n0_ n1_ n2_ n3_; (try clear hb); (try clear hb2); (try clear hk); (try clear hi)) | ((with_reducible refine gate_dst (N := 6) rfl ?_); refine box_event ?hg (N := 6) ?hd (cs := #[.int .i64 0, .int .i64 0, .int .i64 0, .int .i64 0, .int .i64 0, .int .i64 0]) (t := 31) ?hr ?_; (case hd => rfl); (case hg => rfl); (case hr => exact zqS); intro gb195 hg w13 hbox hb; have n0_ := Aside0.mk (Kd.R_below (Kd.R_elderB (zqR HO_3.out) gb195 (Nat.le_of_eq hg.symm)) hb); have n1_ := Aside0.mk (IsS72.below zq4 hb); have n2_ := Aside0.mk (KeepBut.trans zq2 (KeepBut.of_below hb g none) (.inl rfl)); have n3_ := Aside0.mk (below_step zq3 hb); have n4_ := Aside0.mk (hbox); have n5_ := Aside0.mk ((by rw [hg]; exact (keep_size (w := w) (g := g) (row := none) zq2) : w.heap.size ≤ gb195)); have n6_ := Aside0.mk ((Nat.le_trans HW0.out (by rw [hg]; exact (keep_size (w := w) (g := g) (row := none) zq2) : w.heap.size ≤ gb195) : w0.heap.size ≤ gb195)); have n7_ := Aside0.mk ((by rw [hg]; exact Nat.ne_of_lt (IsS72.lt (show IsS72 w0 _ g s0_0 t193 t194 from by repeat (first | (with_reducible first | exact HI0.out | apply IsS72.alloc | apply IsS72.drewN | apply IsS72.drew | apply IsS72.set_1 | apply IsS72.set_2) | exact HI0.out))) : g ≠ gb195)); have n8_ := Aside0.mk ((by rw [hg]; exact Nat.ne_of_gt (IsS72.lt (show IsS72 w0 _ g s0_0 t193 t194 from by repeat (first | (with_reducible first | exact HI0.out | apply IsS72.alloc | apply IsS72.drewN | apply IsS72.drew | apply IsS72.set_1 | apply IsS72.set_2) | exact HI0.out))) : gb195 ≠ g)); clear HO_3; clear HI0; clear HK; clear HB; have HO_3 := n0_; have HI0 := n1_; have HK := n2_; have HB := n3_; have BK195 := n4_; have GW195 := n5_; have GE195 := n6_; have NB0_195 := n7_; have NB195_0 := n8_; clear n0_ n1_ n2_ n3_ n4_ n5_ n6_ n7_ n8_; clear hb hbox hg; have hnb14 := NB195_0.out; have hnc14 := NB0_195.out; obtain ⟨hcz15_0, hcz15_1, hcz15_2, hcz15_3, hcz15_4, hcz15_5, hfz15_0, hfz15_1, hfz15_2, hfz15_3, hfz15_4, hfz15_5⟩ := bz6 BK195.out) | ((with_reducible refine gate_callee (f := 56) rfl ?_); refine goesL_ (some 21) rfl rfl Try.func56 (by kernel_rfl) rfl #[.pointer (some ⟨g, 0, none⟩), .int .i64 2] rfl zq1 ?_; (with_reducible refine (spec_l1Cur_pick.calls g s0_0 t193 t194 2 t196 t197 t198 w0 _ ?side1 ?side2 A8.out).mono ?_); (case side1 => repeat (first | (with_reducible first | exact HI0.out | apply IsS72.alloc | apply IsS72.drewN | apply IsS72.drew | apply IsS72.set_1 | apply IsS72.set_2 | refine IsS72.far ?_ NB0_195.out _) | exact HI0.out)); (case side2 => repeat (first | (with_reducible first | exact HB.out | apply below_alloc | apply pw_below_drewN | apply below_drew1 | refine below_set ?_ (IsS72.ge HI0.out) | refine below_set ?_ GE195.out) | exact HB.out)); rintro e w16 ⟨rfl, hi, hb, hk⟩; refine ⟨_, rfl, ?_⟩; have n0_ := Aside0.mk (Kd.R_mono (Kd.R_keep (IsS72.apart (show IsS72 w0 _ g s0_0 t193 t194 from by repeat (first | (with_reducible first | exact HI0.out | apply IsS72.alloc | apply IsS72.drewN | apply IsS72.drew | apply IsS72.set_1 | apply IsS72.set_2 | refine IsS72.far ?_ NB0_195.out _) | exact HI0.out)) (by (with_reducible repeat (first | apply Kd.R_alloc | apply Kd.R_drewN | apply Kd.R_drew)); exact (Kd.R_mono (Kd.R_far (p := ⟨gb195, 5, none⟩) (Kd.R_far (p := ⟨gb195, 4, none⟩) (Kd.R_far (p := ⟨gb195, 3, none⟩) (Kd.R_far (p := ⟨gb195, 2, none⟩) (Kd.R_far (p := ⟨gb195, 1, none⟩) (Kd.R_far (p := ⟨gb195, 0, none⟩) (Kd.R_mono HO_3.out (fun k_ hk => (⟨hk, hk.2⟩ : _ ∧ k_ ≠ gb195))) (fun _ hk => hk.2) (.int .i64 t187)) (fun _ hk => hk.2) (.int .i64 t188)) (fun _ hk => hk.2) (.int .i64 t189)) (fun _ hk => hk.2) (.int .i64 t190)) (fun _ hk => hk.2) (.int .i64 t191)) (fun _ hk => hk.2) (.int .i64 t192)) (fun _ h_ => h_.1))) (by decide)) hk (fun _ h => h.2)) (fun _ h => h.1)); have n1_ := Aside0.mk (KeepBut.blk hk (g' := gb195) (o := .cells #[.int .i64 t187, .int .i64 t188, .int .i64 t189, .int .i64 t190, .int .i64 t191, .int .i64 t192] 31 (0, 0)) (by (with_reducible repeat (first | refine blk_drewN ?_ _ | refine blk_drew ?_ | refine blk_alloc ?_ _)); refine blk_put (cs := #[.int .i64 t187, .int .i64 t188, .int .i64 t189, .int .i64 t190, .int .i64 t191, .int .i64 0]) ?_ 5 _ rfl; (with_reducible repeat (first | refine blk_drewN ?_ _ | refine blk_drew ?_ | refine blk_alloc ?_ _)); refine blk_put (cs := #[.int .i64 t187, .int .i64 t188, .int .i64 t189, .int .i64 t190, .int .i64 0, .int .i64 0]) ?_ 4 _ rfl; (with_reducible repeat (first | refine blk_drewN ?_ _ | refine blk_drew ?_ | refine blk_alloc ?_ _)); refine blk_put (cs := #[.int .i64 t187, .int .i64 t188, .int .i64 t189, .int .i64 0, .int .i64 0, .int .i64 0]) ?_ 3 _ rfl; (with_reducible repeat (first | refine blk_drewN ?_ _ | refine blk_drew ?_ | refine blk_alloc ?_ _)); refine blk_put (cs := #[.int .i64 t187, .int .i64 t188, .int .i64 0, .int .i64 0, .int .i64 0, .int .i64 0]) ?_ 2 _ rfl; (with_reducible repeat (first | refine blk_drewN ?_ _ | refine blk_drew ?_ | refine blk_alloc ?_ _)); refine blk_put (cs := #[.int .i64 t187, .int .i64 0, .int .i64 0, .int .i64 0, .int .i64 0, .int .i64 0]) ?_ 1 _ rfl; (with_reducible repeat (first | refine blk_drewN ?_ _ | refine blk_drew ?_ | refine blk_alloc ?_ _)); refine blk_put (cs := #[.int .i64 0, .int .i64 0, .int .i64 0, .int .i64 0, .int .i64 0, .int .i64 0]) ?_ 0 _ rfl; (with_reducible repeat (first | refine blk_drewN ?_ _ | refine blk_drew ?_ | refine blk_alloc ?_ _)); exact BK195.out) NB195_0.out (by simp)); have n2_ := Aside0.mk (KeepBut.trans zq9 hk (.inl rfl)); have n3_ := Aside0.mk (hb); have n4_ := Aside0.mk (hi); clear HO_3; clear BK195; clear HK; clear HB; clear HI0; have HO_3 := n0_; have BK195 := n1_; have HK := n2_; have HB := n3_; have HI0 := n4_; clear n0_ n1_ n2_ n3_ n4_; (try clear hb); (try clear hb2); (try clear hk); (try clear hi); obtain ⟨hcz17_0, hcz17_1, hcz17_2, hcz17_3, hcz17_4, hcz17_5, hfz17_0, hfz17_1, hfz17_2, hfz17_3, hfz17_4, hfz17_5⟩ := bz6 BK195.out; obtain ⟨Ao18, co18, eo18⟩ := Kd.R_slice HO_3.out; subst eo18))
  have n0_ : Aside0 (Kd.R k31 31 (w16.setCell ⟨gb195, 0, none⟩ (.int .i64 (wrap64 ((wrap64 (x4_1 + 1)) + t196)))) w.heap.size (fun k_ => k_ ≠ gb195) (.slice Ao18 x3_1.length co18) x3_1) := ⟨by (with_reducible repeat (first | apply Kd.R_alloc | apply Kd.R_drewN | apply Kd.R_drew)); exact Kd.R_mono (Kd.R_far (p := ⟨gb195, 0, none⟩) (Kd.R_mono HO_3.out (fun k_ hk => (⟨hk, hk.2⟩ : _ ∧ k_ ≠ gb195))) (fun _ hk => hk.2) (.int .i64 (wrap64 ((wrap64 (x4_1 + 1)) + t196)))) (fun _ hk => hk.1.2)⟩
  have n1_ : Aside0 ((w16.setCell ⟨gb195, 0, none⟩ (.int .i64 (wrap64 ((wrap64 (x4_1 + 1)) + t196)))).heap[gb195]? = some (.cells #[.int .i64 (wrap64 ((wrap64 (x4_1 + 1)) + t196)), .int .i64 t188, .int .i64 t189, .int .i64 t190, .int .i64 t191, .int .i64 t192] 31 (0, 0))) := ⟨by (with_reducible repeat (first | refine blk_drewN ?_ _ | refine blk_drew ?_ | refine blk_alloc ?_ _)); refine blk_put (cs := #[.int .i64 t187, .int .i64 t188, .int .i64 t189, .int .i64 t190, .int .i64 t191, .int .i64 t192]) ?_ 0 _ rfl; (with_reducible repeat (first | refine blk_drewN ?_ _ | refine blk_drew ?_ | refine blk_alloc ?_ _)); exact BK195.out⟩
  have n2_ : Aside0 (IsS72 w0 (w16.setCell ⟨gb195, 0, none⟩ (.int .i64 (wrap64 ((wrap64 (x4_1 + 1)) + t196)))) g s0_0 t197 t198) := ⟨zq12⟩
  have n3_ : Aside0 (KeepBut w (w16.setCell ⟨gb195, 0, none⟩ (.int .i64 (wrap64 ((wrap64 (x4_1 + 1)) + t196)))) g none) := ⟨zq9⟩
  have n4_ : Aside0 (Below w0.heap.size w0 (w16.setCell ⟨gb195, 0, none⟩ (.int .i64 (wrap64 ((wrap64 (x4_1 + 1)) + t196))))) := ⟨zq13⟩
  (try clear HO_3)
  (try clear BK195)
  (try clear HI0)
  (try clear HK)
  (try clear HB)
  generalize (w16.setCell ⟨gb195, 0, none⟩ (.int .i64 (wrap64 ((wrap64 (x4_1 + 1)) + t196)))) = w19 at n0_ n1_ n2_ n3_ n4_ ⊢
  have HO_3 := n0_
  have BK195 := n1_
  have HI0 := n2_
  have HK := n3_
  have HB := n4_
  clear n0_ n1_ n2_ n3_ n4_
  have n0_ := Aside0.mk (Kd.R_drew HO_3.out)
  have n1_ := Aside0.mk (blk_drew BK195.out)
  have n2_ := Aside0.mk (IsS72.drew HI0.out)
  have n3_ := Aside0.mk (keep_drew HK.out)
  have n4_ := Aside0.mk (below_drew1 HB.out)
  clear HO_3
  clear BK195
  clear HI0
  clear HK
  clear HB
  have HO_3 := n0_
  have BK195 := n1_
  have HI0 := n2_
  have HK := n3_
  have HB := n4_
  clear n0_ n1_ n2_ n3_ n4_
  refine start_ (n := 7) (S := fun w' => w'.cell? ⟨gb195, 0, none⟩ = some (.int .i64 (wrap64 ((wrap64 (x4_1 + 1)) + t196))) ∧ w'.cell? ⟨gb195, 1, none⟩ = some (.int .i64 t188) ∧ w'.cell? ⟨gb195, 2, none⟩ = some (.int .i64 t189) ∧ w'.cell? ⟨gb195, 3, none⟩ = some (.int .i64 t190) ∧ w'.cell? ⟨gb195, 4, none⟩ = some (.int .i64 t191) ∧ w'.cell? ⟨gb195, 5, none⟩ = some (.int .i64 t192)) (ds := []) #[false, false, false, false, false, false, false] (by kernel_rfl) rfl rfl (bc6 BK195.out) (fun hHeld => ?_)
  generalize w19.drew = w20 at HO_3 BK195 HI0 HK HB hHeld ⊢
  refine pure_ (i := 1) (N := some 26) (v := ?_) (a' := ?_) #[false, true, false, false, false, false, false] rfl rfl (by kernel_rfl) (fun _ _ _ h => h) (Or.inl ⟨by rfl, ?_⟩) ?_ ?_
  rotate_left; · exact zqB
  rotate_left; · exact zqA
  refine take_ (i := 3) (N := some 28) (v := ?_) (a' := ?_) #[false, true, false, true, false, false, false] rfl rfl (by kernel_rfl) (fun _ _ _ h => h) (Or.inl ⟨by rfl, ?_⟩) hHeld ?_ ?_
  rotate_left
  ·
   rintro w' ⟨s0, s1, s2, s3, s4, s5⟩
   go_simp
   with_reducible rfl
  rotate_left; · exact zqA
  refine join_ (σ := Value × Value × Value) 2 #[true, true, true, true, true, false, false] (fun s_ => [(25, s_.1), (27, s_.2.1), (29, s_.2.2)]) (fun s_ w' => (w'.cell? ⟨gb195, 0, none⟩ = some (.int .i64 (wrap64 ((wrap64 (x4_1 + 1)) + t196))) ∧ w'.cell? ⟨gb195, 1, none⟩ = some (.int .i64 t188) ∧ w'.cell? ⟨gb195, 2, none⟩ = some (.int .i64 t189) ∧ w'.cell? ⟨gb195, 3, none⟩ = some (.int .i64 t190) ∧ w'.cell? ⟨gb195, 4, none⟩ = some (.int .i64 t191) ∧ w'.cell? ⟨gb195, 5, none⟩ = some (.int .i64 t192)) ∧ (Kd.R k31 31 w' w.heap.size (fun k_ => some k_ ≠ (s_.2.2 : Value).ownBlock ∧ some k_ ≠ (.slice Ao18 x3_1.length co18 : Value).ownBlock ∧ k_ ≠ gb195) s_.2.1 y202) ∧ (Kd.R k31 31 w' w.heap.size (fun k_ => some k_ ≠ (s_.2.1 : Value).ownBlock ∧ some k_ ≠ (.slice Ao18 x3_1.length co18 : Value).ownBlock ∧ k_ ≠ gb195) s_.2.2 y205) ∧ (Kd.R k31 31 w' w.heap.size (fun k_ => some k_ ≠ (s_.2.1 : Value).ownBlock ∧ some k_ ≠ (s_.2.2 : Value).ownBlock ∧ k_ ≠ gb195) (.slice Ao18 x3_1.length co18) x3_1) ∧ (w'.heap[gb195]? = some (.cells #[.int .i64 (wrap64 ((wrap64 (x4_1 + 1)) + t196)), .int .i64 t188, .int .i64 t189, .int .i64 t190, .int .i64 t191, .int .i64 t192] 31 (0, 0))) ∧ (IsS72 w0 w' g s0_0 t197 t198) ∧ (KeepBut w w' g none) ∧ (Below w0.heap.size w0 w')) ?_ ?_
  rotate_left
  ·
   intro hCont
   refine two_ (i := 0) (j := 4) (Ni := some 25) (Nj := some 29) #[true, true, false, true, false, false, false] #[false, true, false, true, true, false, false] rfl rfl rfl rfl (by kernel_rfl) (by decide) (by decide) (fun K hK => ?_) (fun K hK => ?_)
   ·
    skip
    refine Kd.R_lit_step k31 _ 31 ?hg (N := 25) ?hd (xs := ([] : List (S31))) (inner := []) (ok := fun _ => True) (okp := fun _ => True) ?hr ?hp (fun _ hk => hk) trivial (Below.refl _ _) (Nat.le_refl _) (by simp) ?_; (case hd => rfl); (case hg => rfl); (case hr => exact zqS); (case hp => exact (Reps.none _ _))
    intro v200 w21 ho22 hb hg_ hnew_
    clear hg_ hnew_
    (first | rw [← Ny199.out] at ho22 | (simp only [Int.reduceToNat] at ho22; rw [← Ny199.out] at ho22))
    have n0_ := Aside0.mk (Kd.R_elder' (zqR HO_3.out) (Kd.R_base ho22) hb)
    have n1_ := Aside0.mk (Kd.R_lower (Kd.R_newB (Kd.R_new' ho22 (Kd.R_lt (zqR HO_3.out))) (g := gb195) (o := .cells #[.int .i64 (wrap64 ((wrap64 (x4_1 + 1)) + t196)), .int .i64 t188, .int .i64 t189, .int .i64 t190, .int .i64 t191, .int .i64 t192] 31 (0, 0)) (zqK BK195.out)) (keep_size (w := w) (g := g) (row := none) zq9))
    have n2_ := Aside0.mk (IsS72.below zq12 hb)
    have n3_ := Aside0.mk (blk_below (g := gb195) (o := .cells #[.int .i64 (wrap64 ((wrap64 (x4_1 + 1)) + t196)), .int .i64 t188, .int .i64 t189, .int .i64 t190, .int .i64 t191, .int .i64 t192] 31 (0, 0)) (zqK BK195.out) hb)
    have n4_ := Aside0.mk (KeepBut.trans zq9 (KeepBut.of_below hb g none) (.inl rfl))
    have n5_ := Aside0.mk (below_step zq13 hb)
    clear HO_3
    clear HI0
    clear BK195
    clear HK
    clear HB
    have HO_3 := n0_
    have HO201 := n1_
    have HI0 := n2_
    have BK195 := n3_
    have HK := n4_
    have HB := n5_
    clear n0_ n1_ n2_ n3_ n4_ n5_
    clear hb ho22
    refine hK.out _ _ (bc6 BK195.out) (fun hHeld => ?_)
    clear hK K
    refine norm_ (a' := ?_) ?_ ?_
    rotate_left
    ·
     show Act.put _ (some 25) _ = _
     simp only [Act.put, List.setIfInBounds_toArray, List.set_cons_zero, List.set_cons_succ, i64_w, i32_w]
     rfl
    refine two_ (i := 2) (j := 4) (Ni := some 27) (Nj := some 29) #[true, true, true, true, false, false, false] #[true, true, false, true, true, false, false] rfl rfl rfl rfl (by kernel_rfl) (by decide) (by decide) (fun K hK => ?_) (fun K hK => ?_)
    ·
     skip
     refine Kd.R_append_rows_step k31 w.heap.size (by rfl) (.tmp 25) (.tmp 26) 24 31 (.agg #[(.int .i64 0), (.int .i64 0), (.int .i64 0), (.int .i64 0), (.int .i64 0), (.int .i64 0)]) 48 rfl Try.underlying24 info31 rfl (by decide) (by omega) v200 y199 x3_1 _ _ _ (fun k_ => some k_ ≠ (.slice Ao18 x3_1.length co18 : Value).ownBlock ∧ k_ ≠ gb195) (fun _ => False) rfl rfl ?aO ?aR (fun _ _ h => h) (fun _ h => h.elim) ?aF (Below.refl _ _) ?aS ?aL ?_
     (case aR => exact zqC (Kd.R_reads' HO_3.out).2.2)
     (case aF => exact (fun k_ hk => ⟨Kd.fresh' (Kd.R_lt (zqR HO_3.out)) k_ hk, Kd.freshB (g := gb195) (o := .cells #[.int .i64 (wrap64 ((wrap64 (x4_1 + 1)) + t196)), .int .i64 t188, .int .i64 t189, .int .i64 t190, .int .i64 t191, .int .i64 t192] 31 (0, 0)) (zqK BK195.out) k_ hk⟩))
     (case aO => exact (by (with_reducible repeat (first | apply Kd.R_alloc | apply Kd.R_drewN | apply Kd.R_drew)); exact Kd.R_mono HO201.out (fun _ hk => ⟨hk.1.2, hk.2⟩)))
     (case aS => exact (keep_size (w := w) (g := g) (row := none) zq9))
     (case aL => have := LMc9.out; omega)
     intro v203 w23 ho hb hg hat
     rw [← Ny202.out] at ho
     have n0_ := Aside0.mk (Kd.R_after (ok := (fun k_ => k_ ≠ gb195)) (zqR HO_3.out) hg hat)
     have n1_ := Aside0.mk (IsS72.grown zq12 hg (IsS72.own_ne HI0.out HO201.out (by decide)))
     have n2_ := Aside0.mk (blk_grown (g := gb195) (o := .cells #[.int .i64 (wrap64 ((wrap64 (x4_1 + 1)) + t196)), .int .i64 t188, .int .i64 t189, .int .i64 t190, .int .i64 t191, .int .i64 t192] 31 (0, 0)) (zqK BK195.out) hg (Kd.R_away HO201.out (fun _ hk => hk.2)))
     have n3_ := Aside0.mk (below_weaken zq13 HL.out hb)
     have n4_ := Aside0.mk (KeepBut.trans zq9 (KeepBut.of_grown hg g) (Kd.R_base2 HO201.out))
     have n5_ := Aside0.mk (ho)
     clear HO_3
     clear HI0
     clear BK195
     clear HB
     clear HK
     clear HO201
     have HO_3 := n0_
     have HI0 := n1_
     have BK195 := n2_
     have HB := n3_
     have HK := n4_
     have HO204 := n5_
     clear n0_ n1_ n2_ n3_ n4_ n5_
     clear ho hb hg hat
     refine hK.out _ _ (bc6 BK195.out) (fun hHeld => ?_)
     clear hK K
     refine norm_ (a' := ?_) ?_ ?_
     rotate_left
     ·
      show Act.put _ (some 27) _ = _
      simp only [Act.put, List.setIfInBounds_toArray, List.set_cons_zero, List.set_cons_succ, i64_w, i32_w]
      rfl
     refine one_ (i := 4) (N := some 29) #[true, true, true, true, true, false, false] rfl rfl (by kernel_rfl) (by decide) (fun K hK => ?_)
     refine Kd.R_lit_step k31 _ 31 ?hg (N := 29) ?hd (xs := ([(⟨wrap64 ((wrap64 (x4_1 + 1)) + t196), t188, t189, t190, t191, t192⟩ : S31)] : List (S31))) (inner := [.int .i64 (wrap64 ((wrap64 (x4_1 + 1)) + t196)), .int .i64 t188, .int .i64 t189, .int .i64 t190, .int .i64 t191, .int .i64 t192]) (ok := fun _ => True) (okp := fun _ => True) ?hr ?hp (fun _ hk => hk) trivial (Below.refl _ _) (Nat.le_refl _) (by simp) ?_; (case hd => rfl); (case hg => rfl); (case hr => exact zqS); (case hp => exact (Reps.c6 (show Kd.M k31 _ _ _ (⟨wrap64 ((wrap64 (x4_1 + 1)) + t196), t188, t189, t190, t191, t192⟩ : S31) [.int .i64 (wrap64 ((wrap64 (x4_1 + 1)) + t196)), .int .i64 t188, .int .i64 t189, .int .i64 t190, .int .i64 t191, .int .i64 t192] from (k31_mkM _ _ _ (⟨wrap64 ((wrap64 (x4_1 + 1)) + t196), t188, t189, t190, t191, t192⟩ : S31) )) (Reps.none _ _)))
     intro v206 w24 ho25 hb hg_ hnew_
     clear hg_ hnew_
     (first | rw [← Ny205.out] at ho25 | (simp only [Int.reduceToNat] at ho25; rw [← Ny205.out] at ho25))
     have n0_ := Aside0.mk (Kd.R_elder' (zqR HO_3.out) (Kd.R_base ho25) hb)
     have n1_ := Aside0.mk (Kd.R_elder' (zqR HO204.out) (Kd.R_base ho25) hb)
     have n2_ := Aside0.mk (Kd.R_lower (Kd.R_newB (Kd.R_new' (Kd.R_new' ho25 (Kd.R_lt (zqR HO_3.out))) (Kd.R_lt (zqR HO204.out))) (g := gb195) (o := .cells #[.int .i64 (wrap64 ((wrap64 (x4_1 + 1)) + t196)), .int .i64 t188, .int .i64 t189, .int .i64 t190, .int .i64 t191, .int .i64 t192] 31 (0, 0)) (zqK BK195.out)) (keep_size (w := w) (g := g) (row := none) zq9))
     have n3_ := Aside0.mk (IsS72.below zq12 hb)
     have n4_ := Aside0.mk (blk_below (g := gb195) (o := .cells #[.int .i64 (wrap64 ((wrap64 (x4_1 + 1)) + t196)), .int .i64 t188, .int .i64 t189, .int .i64 t190, .int .i64 t191, .int .i64 t192] 31 (0, 0)) (zqK BK195.out) hb)
     have n5_ := Aside0.mk (KeepBut.trans zq9 (KeepBut.of_below hb g none) (.inl rfl))
     have n6_ := Aside0.mk (below_step zq13 hb)
     clear HO_3
     clear HO204
     clear HI0
     clear BK195
     clear HK
     clear HB
     have HO_3 := n0_
     have HO204 := n1_
     have HO207 := n2_
     have HI0 := n3_
     have BK195 := n4_
     have HK := n5_
     have HB := n6_
     clear n0_ n1_ n2_ n3_ n4_ n5_ n6_
     clear hb ho25
     refine hK.out _ _ (bc6 BK195.out) (fun hHeld => ?_)
     clear hK K
     refine norm_ (a' := ?_) ?_ ?_
     rotate_left
     ·
      show Act.put _ (some 29) _ = _
      simp only [Act.put, List.setIfInBounds_toArray, List.set_cons_zero, List.set_cons_succ, i64_w, i32_w]
      rfl
     exact norm_ (by simp only [putAll, Act.put, List.setIfInBounds_toArray, List.set_cons_zero, List.set_cons_succ]) (hCont (v200, v203, v206) _ ⟨hHeld, (by (with_reducible repeat (first | apply Kd.R_alloc | apply Kd.R_drewN | apply Kd.R_drew)); exact Kd.R_mono HO204.out (fun _ hk => ⟨hk.2, ⟨hk.1.1, hk.1.2⟩⟩)), (by (with_reducible repeat (first | apply Kd.R_alloc | apply Kd.R_drewN | apply Kd.R_drew)); exact Kd.R_mono HO207.out (fun _ hk => ⟨hk.1.2, ⟨hk.1.1.2, hk.2⟩⟩)), (by (with_reducible repeat (first | apply Kd.R_alloc | apply Kd.R_drewN | apply Kd.R_drew)); exact Kd.R_mono HO_3.out (fun _ hk => ⟨hk.1.2, ⟨hk.2, hk.1.1⟩⟩)), (zqK BK195.out), zq12, zq9, zq13⟩)
    ·
     skip
     refine Kd.R_lit_step k31 _ 31 ?hg (N := 29) ?hd (xs := ([(⟨wrap64 ((wrap64 (x4_1 + 1)) + t196), t188, t189, t190, t191, t192⟩ : S31)] : List (S31))) (inner := [.int .i64 (wrap64 ((wrap64 (x4_1 + 1)) + t196)), .int .i64 t188, .int .i64 t189, .int .i64 t190, .int .i64 t191, .int .i64 t192]) (ok := fun _ => True) (okp := fun _ => True) ?hr ?hp (fun _ hk => hk) trivial (Below.refl _ _) (Nat.le_refl _) (by simp) ?_; (case hd => rfl); (case hg => rfl); (case hr => exact zqS); (case hp => exact (Reps.c6 (show Kd.M k31 _ _ _ (⟨wrap64 ((wrap64 (x4_1 + 1)) + t196), t188, t189, t190, t191, t192⟩ : S31) [.int .i64 (wrap64 ((wrap64 (x4_1 + 1)) + t196)), .int .i64 t188, .int .i64 t189, .int .i64 t190, .int .i64 t191, .int .i64 t192] from (k31_mkM _ _ _ (⟨wrap64 ((wrap64 (x4_1 + 1)) + t196), t188, t189, t190, t191, t192⟩ : S31) )) (Reps.none _ _)))
     intro v206 w23 ho24 hb hg_ hnew_
     clear hg_ hnew_
     (first | rw [← Ny205.out] at ho24 | (simp only [Int.reduceToNat] at ho24; rw [← Ny205.out] at ho24))
     have n0_ := Aside0.mk (Kd.R_elder' (zqR HO_3.out) (Kd.R_base ho24) hb)
     have n1_ := Aside0.mk (Kd.R_elder' (zqR HO201.out) (Kd.R_base ho24) hb)
     have n2_ := Aside0.mk (Kd.R_lower (Kd.R_newB (Kd.R_new' (Kd.R_new' ho24 (Kd.R_lt (zqR HO_3.out))) (Kd.R_lt (zqR HO201.out))) (g := gb195) (o := .cells #[.int .i64 (wrap64 ((wrap64 (x4_1 + 1)) + t196)), .int .i64 t188, .int .i64 t189, .int .i64 t190, .int .i64 t191, .int .i64 t192] 31 (0, 0)) (zqK BK195.out)) (keep_size (w := w) (g := g) (row := none) zq9))
     have n3_ := Aside0.mk (IsS72.below zq12 hb)
     have n4_ := Aside0.mk (blk_below (g := gb195) (o := .cells #[.int .i64 (wrap64 ((wrap64 (x4_1 + 1)) + t196)), .int .i64 t188, .int .i64 t189, .int .i64 t190, .int .i64 t191, .int .i64 t192] 31 (0, 0)) (zqK BK195.out) hb)
     have n5_ := Aside0.mk (KeepBut.trans zq9 (KeepBut.of_below hb g none) (.inl rfl))
     have n6_ := Aside0.mk (below_step zq13 hb)
     clear HO_3
     clear HO201
     clear HI0
     clear BK195
     clear HK
     clear HB
     have HO_3 := n0_
     have HO201 := n1_
     have HO207 := n2_
     have HI0 := n3_
     have BK195 := n4_
     have HK := n5_
     have HB := n6_
     clear n0_ n1_ n2_ n3_ n4_ n5_ n6_
     clear hb ho24
     refine hK.out _ _ (bc6 BK195.out) (fun hHeld => ?_)
     clear hK K
     refine norm_ (a' := ?_) ?_ ?_
     rotate_left
     ·
      show Act.put _ (some 29) _ = _
      simp only [Act.put, List.setIfInBounds_toArray, List.set_cons_zero, List.set_cons_succ, i64_w, i32_w]
      rfl
     refine one_ (i := 2) (N := some 27) #[true, true, true, true, true, false, false] rfl rfl (by kernel_rfl) (by decide) (fun K hK => ?_)
     refine Kd.R_append_rows_step k31 w.heap.size (by rfl) (.tmp 25) (.tmp 26) 24 31 (.agg #[(.int .i64 0), (.int .i64 0), (.int .i64 0), (.int .i64 0), (.int .i64 0), (.int .i64 0)]) 48 rfl Try.underlying24 info31 rfl (by decide) (by omega) v200 y199 x3_1 _ _ _ (fun k_ => some k_ ≠ (.slice Ao18 x3_1.length co18 : Value).ownBlock ∧ some k_ ≠ (v206 : Value).ownBlock ∧ k_ ≠ gb195) (fun _ => False) rfl rfl ?aO ?aR (fun _ _ h => h) (fun _ h => h.elim) ?aF (Below.refl _ _) ?aS ?aL ?_
     (case aR => exact zqC (Kd.R_reads' HO_3.out).2.2)
     (case aF => exact (fun k_ hk => ⟨Kd.fresh' (Kd.R_lt (zqR HO_3.out)) k_ hk, Kd.fresh' (Kd.R_lt (zqR HO207.out)) k_ hk, Kd.freshB (g := gb195) (o := .cells #[.int .i64 (wrap64 ((wrap64 (x4_1 + 1)) + t196)), .int .i64 t188, .int .i64 t189, .int .i64 t190, .int .i64 t191, .int .i64 t192] 31 (0, 0)) (zqK BK195.out) k_ hk⟩))
     (case aO => exact (by (with_reducible repeat (first | apply Kd.R_alloc | apply Kd.R_drewN | apply Kd.R_drew)); exact Kd.R_mono HO201.out (fun _ hk => ⟨hk.1.1.2, ⟨hk.2, hk.1.2⟩⟩)))
     (case aS => exact (keep_size (w := w) (g := g) (row := none) zq9))
     (case aL => have := LMc9.out; omega)
     intro v203 w25 ho hb hg hat
     rw [← Ny202.out] at ho
     have n0_ := Aside0.mk (Kd.R_after (ok := (fun k_ => some k_ ≠ (v206 : Value).ownBlock ∧ k_ ≠ gb195)) (by (with_reducible repeat (first | apply Kd.R_alloc | apply Kd.R_drewN | apply Kd.R_drew)); exact Kd.R_mono HO_3.out (fun _ hk => ⟨⟨hk.2, hk.1.1⟩, hk.1.2⟩)) hg hat)
     have n1_ := Aside0.mk (IsS72.grown zq12 hg (IsS72.own_ne HI0.out HO201.out (by decide)))
     have n2_ := Aside0.mk (blk_grown (g := gb195) (o := .cells #[.int .i64 (wrap64 ((wrap64 (x4_1 + 1)) + t196)), .int .i64 t188, .int .i64 t189, .int .i64 t190, .int .i64 t191, .int .i64 t192] 31 (0, 0)) (zqK BK195.out) hg (Kd.R_away HO201.out (fun _ hk => hk.1.2)))
     have n3_ := Aside0.mk (Kd.R_after (ok := (fun k_ => some k_ ≠ (.slice Ao18 x3_1.length co18 : Value).ownBlock ∧ k_ ≠ gb195)) (by (with_reducible repeat (first | apply Kd.R_alloc | apply Kd.R_drewN | apply Kd.R_drew)); exact Kd.R_mono HO207.out (fun _ hk => ⟨⟨hk.1.1.2, hk.2⟩, hk.1.2⟩)) hg hat)
     have n4_ := Aside0.mk (below_weaken zq13 HL.out hb)
     have n5_ := Aside0.mk (KeepBut.trans zq9 (KeepBut.of_grown hg g) (Kd.R_base2 HO201.out))
     have n6_ := Aside0.mk (ho)
     clear HO_3
     clear HI0
     clear BK195
     clear HO207
     clear HB
     clear HK
     clear HO201
     have HO_3 := n0_
     have HI0 := n1_
     have BK195 := n2_
     have HO207 := n3_
     have HB := n4_
     have HK := n5_
     have HO204 := n6_
     clear n0_ n1_ n2_ n3_ n4_ n5_ n6_
     clear ho hb hg hat
     refine hK.out _ _ (bc6 BK195.out) (fun hHeld => ?_)
     clear hK K
     refine norm_ (a' := ?_) ?_ ?_
     rotate_left
     ·
      show Act.put _ (some 27) _ = _
      simp only [Act.put, List.setIfInBounds_toArray, List.set_cons_zero, List.set_cons_succ, i64_w, i32_w]
      rfl
     exact norm_ (by simp only [putAll, Act.put, List.setIfInBounds_toArray, List.set_cons_zero, List.set_cons_succ]) (hCont (v200, v203, v206) _ ⟨hHeld, zq41, (by (with_reducible repeat (first | apply Kd.R_alloc | apply Kd.R_drewN | apply Kd.R_drew)); exact Kd.R_mono HO207.out (fun _ hk => ⟨hk.2, ⟨hk.1.1, hk.1.2⟩⟩)), zq37, (zqK BK195.out), zq12, zq9, zq13⟩)
   ·
    skip
    refine Kd.R_lit_step k31 _ 31 ?hg (N := 29) ?hd (xs := ([(⟨wrap64 ((wrap64 (x4_1 + 1)) + t196), t188, t189, t190, t191, t192⟩ : S31)] : List (S31))) (inner := [.int .i64 (wrap64 ((wrap64 (x4_1 + 1)) + t196)), .int .i64 t188, .int .i64 t189, .int .i64 t190, .int .i64 t191, .int .i64 t192]) (ok := fun _ => True) (okp := fun _ => True) ?hr ?hp (fun _ hk => hk) trivial (Below.refl _ _) (Nat.le_refl _) (by simp) ?_; (case hd => rfl); (case hg => rfl); (case hr => exact zqS); (case hp => exact (Reps.c6 (show Kd.M k31 _ _ _ (⟨wrap64 ((wrap64 (x4_1 + 1)) + t196), t188, t189, t190, t191, t192⟩ : S31) [.int .i64 (wrap64 ((wrap64 (x4_1 + 1)) + t196)), .int .i64 t188, .int .i64 t189, .int .i64 t190, .int .i64 t191, .int .i64 t192] from (k31_mkM _ _ _ (⟨wrap64 ((wrap64 (x4_1 + 1)) + t196), t188, t189, t190, t191, t192⟩ : S31) )) (Reps.none _ _)))
    intro v206 w21 ho22 hb hg_ hnew_
    clear hg_ hnew_
    (first | rw [← Ny205.out] at ho22 | (simp only [Int.reduceToNat] at ho22; rw [← Ny205.out] at ho22))
    have n0_ := Aside0.mk (Kd.R_elder' (zqR HO_3.out) (Kd.R_base ho22) hb)
    have n1_ := Aside0.mk (Kd.R_lower (Kd.R_newB (Kd.R_new' ho22 (Kd.R_lt (zqR HO_3.out))) (g := gb195) (o := .cells #[.int .i64 (wrap64 ((wrap64 (x4_1 + 1)) + t196)), .int .i64 t188, .int .i64 t189, .int .i64 t190, .int .i64 t191, .int .i64 t192] 31 (0, 0)) (zqK BK195.out)) (keep_size (w := w) (g := g) (row := none) zq9))
    have n2_ := Aside0.mk (IsS72.below zq12 hb)
    have n3_ := Aside0.mk (blk_below (g := gb195) (o := .cells #[.int .i64 (wrap64 ((wrap64 (x4_1 + 1)) + t196)), .int .i64 t188, .int .i64 t189, .int .i64 t190, .int .i64 t191, .int .i64 t192] 31 (0, 0)) (zqK BK195.out) hb)
    have n4_ := Aside0.mk (KeepBut.trans zq9 (KeepBut.of_below hb g none) (.inl rfl))
    have n5_ := Aside0.mk (below_step zq13 hb)
    clear HO_3
    clear HI0
    clear BK195
    clear HK
    clear HB
    have HO_3 := n0_
    have HO207 := n1_
    have HI0 := n2_
    have BK195 := n3_
    have HK := n4_
    have HB := n5_
    clear n0_ n1_ n2_ n3_ n4_ n5_
    clear hb ho22
    refine hK.out _ _ (bc6 BK195.out) (fun hHeld => ?_)
    clear hK K
    refine norm_ (a' := ?_) ?_ ?_
    rotate_left
    ·
     show Act.put _ (some 29) _ = _
     simp only [Act.put, List.setIfInBounds_toArray, List.set_cons_zero, List.set_cons_succ, i64_w, i32_w]
     rfl
    refine one_ (i := 0) (N := some 25) #[true, true, false, true, true, false, false] rfl rfl (by kernel_rfl) (by decide) (fun K hK => ?_)
    refine Kd.R_lit_step k31 _ 31 ?hg (N := 25) ?hd (xs := ([] : List (S31))) (inner := []) (ok := fun _ => True) (okp := fun _ => True) ?hr ?hp (fun _ hk => hk) trivial (Below.refl _ _) (Nat.le_refl _) (by simp) ?_; (case hd => rfl); (case hg => rfl); (case hr => exact zqS); (case hp => exact (Reps.none _ _))
    intro v200 w23 ho24 hb hg_ hnew_
    clear hg_ hnew_
    (first | rw [← Ny199.out] at ho24 | (simp only [Int.reduceToNat] at ho24; rw [← Ny199.out] at ho24))
    have n0_ := Aside0.mk (Kd.R_elder' (zqR HO_3.out) (Kd.R_base ho24) hb)
    have n1_ := Aside0.mk (Kd.R_elder' (zqR HO207.out) (Kd.R_base ho24) hb)
    have n2_ := Aside0.mk (Kd.R_lower (Kd.R_newB (Kd.R_new' (Kd.R_new' ho24 (Kd.R_lt (zqR HO_3.out))) (Kd.R_lt (zqR HO207.out))) (g := gb195) (o := .cells #[.int .i64 (wrap64 ((wrap64 (x4_1 + 1)) + t196)), .int .i64 t188, .int .i64 t189, .int .i64 t190, .int .i64 t191, .int .i64 t192] 31 (0, 0)) (zqK BK195.out)) (keep_size (w := w) (g := g) (row := none) zq9))
    have n3_ := Aside0.mk (IsS72.below zq12 hb)
    have n4_ := Aside0.mk (blk_below (g := gb195) (o := .cells #[.int .i64 (wrap64 ((wrap64 (x4_1 + 1)) + t196)), .int .i64 t188, .int .i64 t189, .int .i64 t190, .int .i64 t191, .int .i64 t192] 31 (0, 0)) (zqK BK195.out) hb)
    have n5_ := Aside0.mk (KeepBut.trans zq9 (KeepBut.of_below hb g none) (.inl rfl))
    have n6_ := Aside0.mk (below_step zq13 hb)
    clear HO_3
    clear HO207
    clear HI0
    clear BK195
    clear HK
    clear HB
    have HO_3 := n0_
    have HO207 := n1_
    have HO201 := n2_
    have HI0 := n3_
    have BK195 := n4_
    have HK := n5_
    have HB := n6_
    clear n0_ n1_ n2_ n3_ n4_ n5_ n6_
    clear hb ho24
    refine hK.out _ _ (bc6 BK195.out) (fun hHeld => ?_)
    clear hK K
    refine norm_ (a' := ?_) ?_ ?_
    rotate_left
    ·
     show Act.put _ (some 25) _ = _
     simp only [Act.put, List.setIfInBounds_toArray, List.set_cons_zero, List.set_cons_succ, i64_w, i32_w]
     rfl
    refine one_ (i := 2) (N := some 27) #[true, true, true, true, true, false, false] rfl rfl (by kernel_rfl) (by decide) (fun K hK => ?_)
    refine Kd.R_append_rows_step k31 w.heap.size (by rfl) (.tmp 25) (.tmp 26) 24 31 (.agg #[(.int .i64 0), (.int .i64 0), (.int .i64 0), (.int .i64 0), (.int .i64 0), (.int .i64 0)]) 48 rfl Try.underlying24 info31 rfl (by decide) (by omega) v200 y199 x3_1 _ _ _ (fun k_ => some k_ ≠ (.slice Ao18 x3_1.length co18 : Value).ownBlock ∧ some k_ ≠ (v206 : Value).ownBlock ∧ k_ ≠ gb195) (fun _ => False) rfl rfl ?aO ?aR (fun _ _ h => h) (fun _ h => h.elim) ?aF (Below.refl _ _) ?aS ?aL ?_
    (case aR => exact zqC (Kd.R_reads' HO_3.out).2.2)
    (case aF => exact (fun k_ hk => ⟨Kd.fresh' (Kd.R_lt (zqR HO_3.out)) k_ hk, Kd.fresh' (Kd.R_lt (zqR HO207.out)) k_ hk, Kd.freshB (g := gb195) (o := .cells #[.int .i64 (wrap64 ((wrap64 (x4_1 + 1)) + t196)), .int .i64 t188, .int .i64 t189, .int .i64 t190, .int .i64 t191, .int .i64 t192] 31 (0, 0)) (zqK BK195.out) k_ hk⟩))
    (case aO => exact (by (with_reducible repeat (first | apply Kd.R_alloc | apply Kd.R_drewN | apply Kd.R_drew)); exact Kd.R_mono HO201.out (fun _ hk => ⟨hk.1.1.2, ⟨hk.1.2, hk.2⟩⟩)))
    (case aS => exact (keep_size (w := w) (g := g) (row := none) zq9))
    (case aL => have := LMc9.out; omega)
    intro v203 w25 ho hb hg hat
    rw [← Ny202.out] at ho
    have n0_ := Aside0.mk (Kd.R_after (ok := (fun k_ => some k_ ≠ (v206 : Value).ownBlock ∧ k_ ≠ gb195)) (by (with_reducible repeat (first | apply Kd.R_alloc | apply Kd.R_drewN | apply Kd.R_drew)); exact Kd.R_mono HO_3.out (fun _ hk => ⟨⟨hk.1.2, hk.1.1⟩, hk.2⟩)) hg hat)
    have n1_ := Aside0.mk (IsS72.grown zq12 hg (IsS72.own_ne HI0.out HO201.out (by decide)))
    have n2_ := Aside0.mk (blk_grown (g := gb195) (o := .cells #[.int .i64 (wrap64 ((wrap64 (x4_1 + 1)) + t196)), .int .i64 t188, .int .i64 t189, .int .i64 t190, .int .i64 t191, .int .i64 t192] 31 (0, 0)) (zqK BK195.out) hg (Kd.R_away HO201.out (fun _ hk => hk.2)))
    have n3_ := Aside0.mk (Kd.R_after (ok := (fun k_ => some k_ ≠ (.slice Ao18 x3_1.length co18 : Value).ownBlock ∧ k_ ≠ gb195)) (by (with_reducible repeat (first | apply Kd.R_alloc | apply Kd.R_drewN | apply Kd.R_drew)); exact Kd.R_mono HO207.out (fun _ hk => ⟨⟨hk.1.1.2, hk.1.2⟩, hk.2⟩)) hg hat)
    have n4_ := Aside0.mk (below_weaken zq13 HL.out hb)
    have n5_ := Aside0.mk (KeepBut.trans zq9 (KeepBut.of_grown hg g) (Kd.R_base2 HO201.out))
    have n6_ := Aside0.mk (ho)
    clear HO_3
    clear HI0
    clear BK195
    clear HO207
    clear HB
    clear HK
    clear HO201
    have HO_3 := n0_
    have HI0 := n1_
    have BK195 := n2_
    have HO207 := n3_
    have HB := n4_
    have HK := n5_
    have HO204 := n6_
    clear n0_ n1_ n2_ n3_ n4_ n5_ n6_
    clear ho hb hg hat
    refine hK.out _ _ (bc6 BK195.out) (fun hHeld => ?_)
    clear hK K
    refine norm_ (a' := ?_) ?_ ?_
    rotate_left
    ·
     show Act.put _ (some 27) _ = _
     simp only [Act.put, List.setIfInBounds_toArray, List.set_cons_zero, List.set_cons_succ, i64_w, i32_w]
     rfl
    exact norm_ (by simp only [putAll, Act.put, List.setIfInBounds_toArray, List.set_cons_zero, List.set_cons_succ]) (hCont (v200, v203, v206) _ ⟨hHeld, zq41, (by (with_reducible repeat (first | apply Kd.R_alloc | apply Kd.R_drewN | apply Kd.R_drew)); exact Kd.R_mono HO207.out (fun _ hk => ⟨hk.2, ⟨hk.1.1, hk.1.2⟩⟩)), zq37, (zqK BK195.out), zq12, zq9, zq13⟩)
  rintro ⟨v200, v203, v206⟩ w26 ⟨hS_, h0_, h1_, h2_, h3_, h4_, h5_, h6_⟩
  have n0_ : Aside0 (Kd.R k31 31 w26 w.heap.size (fun k_ => some k_ ≠ (v206 : Value).ownBlock ∧ some k_ ≠ (.slice Ao18 x3_1.length co18 : Value).ownBlock ∧ k_ ≠ gb195) v203 y202) := ⟨h0_⟩
  have n1_ : Aside0 (Kd.R k31 31 w26 w.heap.size (fun k_ => some k_ ≠ (v203 : Value).ownBlock ∧ some k_ ≠ (.slice Ao18 x3_1.length co18 : Value).ownBlock ∧ k_ ≠ gb195) v206 y205) := ⟨h1_⟩
  have n2_ : Aside0 (Kd.R k31 31 w26 w.heap.size (fun k_ => some k_ ≠ (v203 : Value).ownBlock ∧ some k_ ≠ (v206 : Value).ownBlock ∧ k_ ≠ gb195) (.slice Ao18 x3_1.length co18) x3_1) := ⟨h2_⟩
  have n3_ : Aside0 (w26.heap[gb195]? = some (.cells #[.int .i64 (wrap64 ((wrap64 (x4_1 + 1)) + t196)), .int .i64 t188, .int .i64 t189, .int .i64 t190, .int .i64 t191, .int .i64 t192] 31 (0, 0))) := ⟨h3_⟩
  have n4_ : Aside0 (IsS72 w0 w26 g s0_0 t197 t198) := ⟨h4_⟩
  have n5_ : Aside0 (KeepBut w w26 g none) := ⟨h5_⟩
  have n6_ : Aside0 (Below w0.heap.size w0 w26) := ⟨h6_⟩
  clear HO_3
  clear BK195
  clear HI0
  clear HK
  clear HB
  clear h0_ h1_ h2_ h3_ h4_ h5_ h6_
  have HO204 := n0_
  have HO207 := n1_
  have HO_3 := n2_
  have BK195 := n3_
  have HI0 := n4_
  have HK := n5_
  have HB := n6_
  clear n0_ n1_ n2_ n3_ n4_ n5_ n6_
  have hHeld : w26.cell? ⟨gb195, 0, none⟩ = some (.int .i64 (wrap64 ((wrap64 (x4_1 + 1)) + t196))) ∧ w26.cell? ⟨gb195, 1, none⟩ = some (.int .i64 t188) ∧ w26.cell? ⟨gb195, 2, none⟩ = some (.int .i64 t189) ∧ w26.cell? ⟨gb195, 3, none⟩ = some (.int .i64 t190) ∧ w26.cell? ⟨gb195, 4, none⟩ = some (.int .i64 t191) ∧ w26.cell? ⟨gb195, 5, none⟩ = some (.int .i64 t192) := hS_
  obtain ⟨Ao28, co28, eo28⟩ := Kd.R_slice HO207.out
  (first | subst eo28 | (injection eo28 with f1_ f2_ f3_; have f4_ := f1_.symm; have f5_ := f3_.symm; clear f1_ f2_ f3_; subst f4_; subst f5_))
  refine norm_ (a' := ?_) ?_ ?_
  rotate_left
  ·
   simp only [putAll, Act.put, List.setIfInBounds_toArray, List.set_cons_zero, List.set_cons_succ]
   rfl
  refine one_ (i := 5) (N := some 30) #[true, true, true, true, true, true, false] rfl rfl (by kernel_rfl) (by decide) (fun K hK => ?_)
  refine Kd.R_append_rows_step k31 w.heap.size (by rfl) (.tmp 27) (.tmp 29) 24 31 (.agg #[(.int .i64 0), (.int .i64 0), (.int .i64 0), (.int .i64 0), (.int .i64 0), (.int .i64 0)]) 48 rfl Try.underlying24 info31 rfl (by decide) (by omega) v203 y202 y205 _ _ _ (fun k_ => some k_ ≠ (.slice Ao18 x3_1.length co18 : Value).ownBlock ∧ some k_ ≠ (.slice Ao28 y205.length co28 : Value).ownBlock ∧ k_ ≠ gb195) (fun _ => False) rfl rfl ?aO ?aR (fun _ _ h => h) (fun _ h => h.elim) ?aF (Below.refl _ _) ?aS ?aL ?_
  (case aR => exact zqC (Kd.R_reads' HO207.out).2.2)
  (case aF => exact (fun k_ hk => ⟨Kd.fresh' (Kd.R_lt (zqR HO_3.out)) k_ hk, Kd.fresh' (Kd.R_lt (zqR HO207.out)) k_ hk, Kd.freshB (g := gb195) (o := .cells #[.int .i64 (wrap64 ((wrap64 (x4_1 + 1)) + t196)), .int .i64 t188, .int .i64 t189, .int .i64 t190, .int .i64 t191, .int .i64 t192] 31 (0, 0)) (zqK BK195.out) k_ hk⟩))
  (case aO => exact zq41)
  (case aS => exact (keep_size (w := w) (g := g) (row := none) zq9))
  (case aL => have := LMc10.out; omega)
  intro v209 w27 ho hb hg hat
  rw [← Ny208.out] at ho
  have n0_ := Aside0.mk (Kd.R_after (ok := (fun k_ => some k_ ≠ (.slice Ao28 y205.length co28 : Value).ownBlock ∧ k_ ≠ gb195)) (by (with_reducible repeat (first | apply Kd.R_alloc | apply Kd.R_drewN | apply Kd.R_drew)); exact Kd.R_mono HO_3.out (fun _ hk => ⟨⟨hk.2.1, hk.2.2⟩, hk.1⟩)) hg hat)
  have n1_ := Aside0.mk (IsS72.grown zq12 hg (IsS72.own_ne HI0.out HO204.out (by decide)))
  have n2_ := Aside0.mk (blk_grown (g := gb195) (o := .cells #[.int .i64 (wrap64 ((wrap64 (x4_1 + 1)) + t196)), .int .i64 t188, .int .i64 t189, .int .i64 t190, .int .i64 t191, .int .i64 t192] 31 (0, 0)) (zqK BK195.out) hg (Kd.R_away HO204.out (fun _ hk => hk.2.2)))
  have n3_ := Aside0.mk (Kd.R_after (ok := (fun k_ => some k_ ≠ (.slice Ao18 x3_1.length co18 : Value).ownBlock ∧ k_ ≠ gb195)) (by (with_reducible repeat (first | apply Kd.R_alloc | apply Kd.R_drewN | apply Kd.R_drew)); exact Kd.R_mono HO207.out (fun _ hk => ⟨⟨hk.2.1, hk.2.2⟩, hk.1⟩)) hg hat)
  have n4_ := Aside0.mk (below_weaken zq13 HL.out hb)
  have n5_ := Aside0.mk (KeepBut.trans zq9 (KeepBut.of_grown hg g) (Kd.R_base2 HO204.out))
  have n6_ := Aside0.mk (ho)
  clear HO_3
  clear HI0
  clear BK195
  clear HO207
  clear HB
  clear HK
  clear HO204
  have HO_3 := n0_
  have HI0 := n1_
  have BK195 := n2_
  have HO207 := n3_
  have HB := n4_
  have HK := n5_
  have HO210 := n6_
  clear n0_ n1_ n2_ n3_ n4_ n5_ n6_
  clear ho hb hg hat
  refine hK.out _ _ (bc6 BK195.out) (fun hHeld => ?_)
  clear hK K
  refine norm_ (a' := ?_) ?_ ?_
  rotate_left
  ·
   show Act.put _ (some 30) _ = _
   simp only [Act.put, List.setIfInBounds_toArray, List.set_cons_zero, List.set_cons_succ, i64_w, i32_w]
   rfl
  refine pure_ (i := 6) (N := some 7) (v := ?_) (a' := ?_) #[true, true, true, true, true, true, true] rfl rfl (by kernel_rfl) (fun _ _ _ h => h) (Or.inl ⟨by rfl, ?_⟩) ?_ ?_
  rotate_left; · exact zqB
  rotate_left; · exact zqA
  refine done_ (by kernel_rfl) ?_
  go_upto_region 10 with (fail)
  go_cut [32] (fun v32 wc => ∃ (kq : Nat) (x32_10 : Bool), v32 = .bool x32_10 ∧ Aside0 (spec_l1Cur_warnings.j1 kq x3_1 (wrap64 ((wrap64 (x4_1 + 1)) + t196)) x5_1 y208 x32_10 s0_0 t197 t198 = some (r1, r2, r3)) ∧ Aside0 (kq ≤ k1) ∧ Aside0 (Kd.R k31 31 wc w.heap.size (fun k_ => some k_ ≠ (v209 : Value).ownBlock ∧ k_ ≠ gb195) (.slice Ao18 x3_1.length co18) x3_1) ∧ Aside0 (Kd.R k31 31 wc w.heap.size (fun k_ => some k_ ≠ ((.slice Ao18 x3_1.length co18) : Value).ownBlock ∧ k_ ≠ gb195) v209 y208) ∧ Aside0 (wc.heap[gb195]? = some (.cells #[.int .i64 (wrap64 ((wrap64 (x4_1 + 1)) + t196)), .int .i64 t188, .int .i64 t189, .int .i64 t190, .int .i64 t191, .int .i64 t192] 31 (0, 0))) ∧ Aside0 (IsS72 w0 wc g s0_0 t197 t198) ∧ Aside0 (KeepBut w wc g none) ∧ Aside0 (Below w0.heap.size w0 wc))
  case first =>
   have H := HC11.out
   clear HC11
   replace H := Option.bind_eq_some_iff.mp H
   obtain ⟨t211, A290, H⟩ := H
   replace H : (spec_l1Cur_warnings.j1 k1 x3_1 (wrap64 ((wrap64 (x4_1 + 1)) + t196)) x5_1 y208 t211 s0_0 t197 t198) = some (r1, r2, r3) := H
   have A29 := Aside0.mk A290
   clear A290
   have H' := Aside0.mk H
   clear H
   obtain ⟨Ao30, co30, eo30⟩ := Kd.R_slice HO210.out
   subst eo30
   go_wp2_with (first | ((with_reducible refine gate_callee (f := 63) rfl ?_); refine goesL_ (some 32) rfl rfl Try.func63 (by kernel_rfl) rfl #[.slice Ao30 y208.length co30] rfl zq1 ?_; (with_reducible refine (spec_l14List.calls k1 _ _ y208 t211 _ ?side1 ?side2 A29.out).mono ?_); (case side1 => exact zqC (Kd.R_reads' HO210.out).2.2); (case side2 => exact (Kd.R_reads' HO210.out).2.1); rintro e w31 ⟨rfl, hb⟩; refine ⟨_, rfl, ?_⟩; have n0_ := Aside0.mk (Kd.R_below (zqR HO_3.out) hb); have n1_ := Aside0.mk (Kd.R_below (zqR HO207.out) hb); have n2_ := Aside0.mk (Kd.R_below (zqR HO210.out) hb); have n3_ := Aside0.mk (IsS72.below zq12 hb); have n4_ := Aside0.mk (blk_below (g := gb195) (o := .cells #[.int .i64 (wrap64 ((wrap64 (x4_1 + 1)) + t196)), .int .i64 t188, .int .i64 t189, .int .i64 t190, .int .i64 t191, .int .i64 t192] 31 (0, 0)) (zqK BK195.out) hb); have n5_ := Aside0.mk (KeepBut.trans zq9 (KeepBut.of_below hb g none) (.inl rfl)); have n6_ := Aside0.mk (below_step zq13 hb); clear HO_3; clear HO207; clear HO210; clear HI0; clear BK195; clear HK; clear HB; have HO_3 := n0_; have HO207 := n1_; have HO210 := n2_; have HI0 := n3_; have BK195 := n4_; have HK := n5_; have HB := n6_; clear n0_ n1_ n2_ n3_ n4_ n5_ n6_; (try clear hb); (try clear hb2); (try clear hk); (try clear hi)))
   go_meet
   case rel => exact ⟨_, (t211), (by first | rfl | (simp; done) | (simp [*]; done)), H', ⟨by have := HK1.out; first | omega | exact Nat.le_refl _⟩, ⟨by (with_reducible repeat (first | apply Kd.R_alloc | apply Kd.R_drewN | apply Kd.R_drew)); exact Kd.R_mono HO_3.out (fun _ hk => ⟨hk.2, hk.1.2⟩)⟩, ⟨by (with_reducible repeat (first | apply Kd.R_alloc | apply Kd.R_drewN | apply Kd.R_drew)); exact Kd.R_mono HO210.out (fun _ hk => ⟨hk.1, hk.2.2⟩)⟩, ⟨by (with_reducible repeat (first | refine blk_drewN ?_ _ | refine blk_drew ?_ | refine blk_alloc ?_ _)); exact BK195.out⟩, ⟨zq12⟩, ⟨zq9⟩, ⟨zq13⟩⟩
  clear HC11
  try clear c1
  try clear p2
  try clear c5
  try clear c6
  try clear c6b0
  try clear p6
  try clear c9
  try clear c10
  try clear c14
  try clear hcz15_0
  try clear hcz15_1
  try clear hcz15_2
  try clear hcz15_3
  try clear hcz15_4
  try clear hcz15_5
  try clear hcz17_0
  try clear hcz17_1
  try clear hcz17_2
  try clear hcz17_3
  try clear hcz17_4
  try clear hcz17_5
  try clear hfz15_0
  try clear hfz15_1
  try clear hfz15_2
  try clear hfz15_3
  try clear hfz15_4
  try clear hfz15_5
  try clear hfz17_0
  try clear hfz17_1
  try clear hfz17_2
  try clear hfz17_3
  try clear hfz17_4
  try clear hfz17_5
  try clear p2
  obtain ⟨kq, x32_10, rfl, HA, HJ10, HO_3, HO_7, BK195, HI0, HK, HB⟩ := hcut
  cases kq with
  | zero => exact absurd HA.out (by simp [spec_l1Cur_warnings.j1])
  | succ kj10 =>
   have H := HA.out
   clear HA
   simp only [spec_l1Cur_warnings.j1] at H
   by_cases c32 : x32_10 = true
   case pos =>
    subst c32
    have H1 : (spec_l1Cur_warnings.l0 kj10 y208 (wrap64 ((wrap64 (x4_1 + 1)) + t196)) (wrap64 (x5_1 - 1)) s0_0 t197 t198) = some (r1, r2, r3) := by rw [if_pos rfl] at H; exact H
    clear H
    have H := H1
    clear H1
    have H' := Aside0.mk H
    clear H
    go_wp2
    go_roundg kj10
    case measure => have := HK1.out; have := HJ10.out; omega
    case rel => exact ⟨(y208), ((wrap64 ((wrap64 (x4_1 + 1)) + t196))), (wrap64 (x5_1 - 1)), (t197), (t198), (by first | rfl | (simp; done) | (simp [*]; done)), (by first | rfl | (simp; done) | (simp [*]; done)), H', ⟨by have := HK1.out; have := HJ10.out; omega⟩, ⟨by (with_reducible repeat (first | apply Kd.R_alloc | apply Kd.R_drewN | apply Kd.R_drew)); exact Kd.R_mono HO_7.out (fun _ hk => trivial)⟩, ⟨zq12⟩, ⟨zq9⟩, ⟨zq13⟩⟩
   replace c32 := Bool.eq_false_iff.mpr c32
   subst c32
   have H1 : (spec_l1Cur_warnings.l0 kj10 x3_1 (wrap64 ((wrap64 (x4_1 + 1)) + t196)) (wrap64 (x5_1 - 1)) s0_0 t197 t198) = some (r1, r2, r3) := by rw [if_neg (show ¬ (false = true) by decide)] at H; exact H
   clear H
   have H := H1
   clear H1
   have H' := Aside0.mk H
   clear H
   go_wp2
   go_roundg kj10
   case measure => have := HK1.out; have := HJ10.out; omega
   case rel => exact ⟨(x3_1), ((wrap64 ((wrap64 (x4_1 + 1)) + t196))), (wrap64 (x5_1 - 1)), (t197), (t198), (by first | rfl | (simp; done) | (simp [*]; done)), (by first | rfl | (simp; done) | (simp [*]; done)), H', ⟨by have := HK1.out; have := HJ10.out; omega⟩, ⟨by (with_reducible repeat (first | apply Kd.R_alloc | apply Kd.R_drewN | apply Kd.R_drew)); exact Kd.R_mono HO_3.out (fun _ hk => trivial)⟩, ⟨zq12⟩, ⟨zq9⟩, ⟨zq13⟩⟩

/-! ### spec_l1Cur_one: function 99 -/
def spec_l1Cur_one.f (s0_0 : List Int) (s0_1 : Int) (s0_2 : Int) (a1 : Int) : Option (Bool × Int × Int) := (spec_l1Cur_pick.f s0_0 s0_1 s0_2 a1).bind fun bt238 => (some ((bt238.1 == 0), bt238.2.1, bt238.2.2))
set_option maxHeartbeats 8000000 in
set_option maxRecDepth 100000 in
theorem spec_l1Cur_one.calls (g : Nat) (s0_0 : List Int) (s0_1 : Int) (s0_2 : Int) (a1 : Int) (r1 : Bool) (r2 : Int) (r3 : Int) (w0 w : World) (hI : IsS72 w0 w g s0_0 s0_1 s0_2) (hB : Below w0.heap.size w0 w) (h : spec_l1Cur_one.f s0_0 s0_1 s0_2 a1 = some (r1, r2, r3)) :
  Calls Try.prog 99 #[.pointer (some ⟨g, 0, none⟩), .int .i64 a1] w fun e w' => e = .returned (.bool r1) ∧ IsS72 w0 w' g s0_0 r2 r3 ∧ Below w0.heap.size w0 w' ∧ KeepBut w w' g none := by
 have HI0 := Aside0.mk hI
 have HK := Aside0.mk (KeepBut.refl w g none)
 have HL := Aside0.mk hB.size
 clear hI
 have HW0 := Aside0.mk hB.size
 have HB := Aside0.mk hB
 clear hB
 have H : ((spec_l1Cur_pick.f s0_0 s0_1 s0_2 a1).bind fun bt238 => (some ((bt238.1 == 0), bt238.2.1, bt238.2.2))) = some (r1, r2, r3) := h
 clear h
 replace H := Option.bind_eq_some_iff.mp H
 obtain ⟨⟨t238, t239, t240⟩, A30, H⟩ := H
 replace H : (some ((t238 == 0), t239, t240)) = some (r1, r2, r3) := H
 have A3 := Aside0.mk A30
 clear A30
 simp only [Option.some.injEq, Prod.mk.injEq] at H
 obtain ⟨rfl, rfl, rfl⟩ := H
 go_enter Try.func99, Try.ntmps99
 go_wp2_with (first | ((with_reducible refine gate_callee (f := 56) rfl ?_); refine goesL_ (some 7) rfl rfl Try.func56 (by kernel_rfl) rfl #[.pointer (some ⟨g, 0, none⟩), .int .i64 a1] rfl zq1 ?_; (with_reducible refine (spec_l1Cur_pick.calls g s0_0 s0_1 s0_2 a1 t238 t239 t240 w0 _ ?side1 ?side2 A3.out).mono ?_); (case side1 => exact zq4); (case side2 => exact zq3); rintro e w4 ⟨rfl, hi, hb, hk⟩; refine ⟨_, rfl, ?_⟩; have n0_ := Aside0.mk (KeepBut.trans zq2 hk (.inl rfl)); have n1_ := Aside0.mk (hb); have n2_ := Aside0.mk (hi); clear HK; clear HB; clear HI0; have HK := n0_; have HB := n1_; have HI0 := n2_; clear n0_ n1_ n2_; (try clear hb); (try clear hb2); (try clear hk); (try clear hi)))
 go_ret
 exact ⟨zqE, zq4, zq3, zq2⟩
end Go.Proofs.Ytklepiechbnenaa.Q
