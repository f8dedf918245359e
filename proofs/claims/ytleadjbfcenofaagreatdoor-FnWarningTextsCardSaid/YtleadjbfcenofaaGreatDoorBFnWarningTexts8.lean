/- Texts of this claim, put together: walks of the program's functions, and plain facts. -/
import Derived.Test.YtleadjbfcenofaaGreatDoorZFnWarningTexts
import Derived.Test.YtleadjbfcenofaaGreatDoorBFnWarningTexts0
import Derived.Test.YtleadjbfcenofaaGreatDoorBFnWarningTexts1
import Derived.Test.YtleadjbfcenofaaGreatDoorBFnWarningTexts7
namespace Go.Proofs.YtleadjbfcenofaaGreatDoor.Q
open Go.RowKit Go.Proofs.YtleadjbfcenofaaGreatDoorW.PrintWords Go.Proofs.YtleadjbfcenofaaGreatDoorW.PrintLast Go.Proofs.YtleadjbfcenofaaGreatDoorW.PrintMore
attribute [local go_sem] max2_int min2_int max_two min_two max_three min_three max_four min_four
set_option linter.unusedVariables false
set_option linter.unusedSimpArgs false
mutual
def spec_l1Cur_warnings.l0 : Nat → List (S25) → Int → Int → List Int → Int → Int → Option ((List (S25)) × Int × Int)
 | 0, _, _, _, _, _, _ => none
 | k + 1, x3, x4, x5, x1000, x1001, x1002 => if x5 > 0 then ((spec_l1Cur_warning.f k x1000 x1001 x1002).bind fun bt359 => ((spec_l1Cur_pick.f x1000 bt359.2.2.2.2.2.2.1 bt359.2.2.2.2.2.2.2 2).bind fun bt368 => ((some (([] : List (S25)) : List (S25))).bind fun y371 => (if y371.length + x3.length < 2932031007402 then ((some (y371 ++ x3 : List (S25))).bind fun y374 => ((some (([(⟨wrap64 ((wrap64 (x4 + 1)) + bt368.1), bt359.2.1, bt359.2.2.1, bt359.2.2.2.1, bt359.2.2.2.2.1, bt359.2.2.2.2.2.1⟩ : S25)] : List (S25)) : List (S25))).bind fun y377 => (if y374.length + y377.length < 2932031007402 then ((some (y374 ++ y377 : List (S25))).bind fun y380 => ((spec_l14List.f k y380).bind fun t383 => (spec_l1Cur_warnings.j1 k x3 (wrap64 ((wrap64 (x4 + 1)) + bt368.1)) x5 y380 t383 x1000 bt368.2.1 bt368.2.2))) else (none)))) else (none))))) else ((spec_l1Cur_pick.f x1000 x1001 x1002 24).bind fun bt384 => (if bt384.1 = 0 then ((spec_l1Cur_warning.f k x1000 bt384.2.1 bt384.2.2).bind fun bt387 => ((some (([(⟨bt387.1, bt387.2.1, bt387.2.2.1, bt387.2.2.2.1, bt387.2.2.2.2.1, bt387.2.2.2.2.2.1⟩ : S25)] : List (S25)) : List (S25))).bind fun y395 => (if x3.length + y395.length < 2932031007402 then (some ((x3 ++ y395), bt387.2.2.2.2.2.2.1, bt387.2.2.2.2.2.2.2)) else (none)))) else (if bt384.1 = 1 then (spec_l1Cur_warnings.l1 k x3 0 x1000 bt384.2.1 bt384.2.2) else (some (x3, bt384.2.1, bt384.2.2)))))
def spec_l1Cur_warnings.j1 : Nat → List (S25) → Int → Int → List (S25) → Bool → List Int → Int → Int → Option ((List (S25)) × Int × Int)
 | 0, _, _, _, _, _, _, _, _ => none
 | k + 1, x3, x4, x5, x7, x32, x1000, x1001, x1002 => if x32 = true then (spec_l1Cur_warnings.l0 k x7 x4 (wrap64 (x5 - 1)) x1000 x1001 x1002) else (spec_l1Cur_warnings.l0 k x3 x4 (wrap64 (x5 - 1)) x1000 x1001 x1002)
def spec_l1Cur_warnings.l1 : Nat → List (S25) → Int → List Int → Int → Int → Option ((List (S25)) × Int × Int)
 | 0, _, _, _, _, _ => none
 | k + 1, x3, x8, x1000, x1001, x1002 => (spec_l1Cur_pick.f x1000 x1001 x1002 2).bind fun bt401 => (if (x3.length : Int) < (wrap64 (12 + bt401.1)) then (if x8 < 14 then ((some (([(⟨wrap64 (100 + x8), 5, 1, 9, wrap64 (10 * x8), wrap64 ((wrap64 (10 * x8)) + 5)⟩ : S25)] : List (S25)) : List (S25))).bind fun y404 => (if x3.length + y404.length < 2932031007402 then (spec_l1Cur_warnings.l1 k (x3 ++ y404) (wrap64 (x8 + 1)) x1000 bt401.2.1 bt401.2.2) else (none))) else (some (x3, bt401.2.1, bt401.2.2))) else (some (x3, bt401.2.1, bt401.2.2)))
end
def spec_l1Cur_warnings.f (k : Nat) (s0_0 : List Int) (s0_1 : Int) (s0_2 : Int) : Option ((List (S25)) × Int × Int) := (spec_l1Cur_pick.f s0_0 s0_1 s0_2 7).bind fun bt356 => (spec_l1Cur_warnings.l0 k (([] : List (S25))) 0 bt356.1 s0_0 bt356.2.1 bt356.2.2)
set_option maxHeartbeats 8000000 in
set_option maxRecDepth 100000 in
theorem spec_l1Cur_warnings.calls (k : Nat) (g : Nat) (s0_0 : List Int) (s0_1 : Int) (s0_2 : Int) (r1 : List (S25)) (r2 : Int) (r3 : Int) (w0 w : World) (hI : IsS45 w0 w g s0_0 s0_1 s0_2) (hB : Below w0.heap.size w0 w) (h : spec_l1Cur_warnings.f k s0_0 s0_1 s0_2 = some (r1, r2, r3)) :
  Calls Tryz.prog 38 #[.pointer (some ⟨g, 0, none⟩)] w fun e w' => ∃ v0_ : Value, e = .returned (v0_) ∧ Kd.R k25 25 w' w.heap.size (fun _ => True) v0_ r1 ∧ IsS45 w0 w' g s0_0 r2 r3 ∧ Below w0.heap.size w0 w' ∧ KeepBut w w' g none := by
 have hu25 := Tryz.underlying25
 have HI0 := zm hI
 have HK := zm (KeepBut.refl w g none)
 have HL := zm hB.size
 clear hI
 have HW0 := zm hB.size
 have HB := zm hB
 clear hB
 have H : ((spec_l1Cur_pick.f s0_0 s0_1 s0_2 7).bind fun bt356 => (spec_l1Cur_warnings.l0 k (([] : List (S25))) 0 bt356.1 s0_0 bt356.2.1 bt356.2.2)) = some (r1, r2, r3) := h
 clear h
 obtain ⟨y353, hy353⟩ : ∃ y_ : List (S25), y_ = (([] : List (S25))) := ⟨_, rfl⟩
 replace H : ((spec_l1Cur_pick.f s0_0 s0_1 s0_2 7).bind fun bt356 => (spec_l1Cur_warnings.l0 k y353 0 bt356.1 s0_0 bt356.2.1 bt356.2.2)) = some (r1, r2, r3) := zqH hy353 H
 have Ny353 := zm hy353
 clear hy353
 obtain ⟨⟨t356, t357, t358⟩, A20, H⟩ := zob H
 replace H : (spec_l1Cur_warnings.l0 k y353 0 t356 s0_0 t357 t358) = some (r1, r2, r3) := H
 have A2 := zm A20
 clear A20
 have H' := zm H
 clear H
 go_enter Tryz.func38, Tryz.ntmps38
 go_wp2_with (first | ((with_reducible refine gate_dst (N := 9) rfl ?_); refine Kd.R_lit k25 _ 25 ?hg (N := 9) ?hd (xs := ([] : List (S25))) (inner := []) (ok := fun _ => True) (okp := fun _ => True) ?hr ?hp (fun _ hk => hk) trivial (Below.refl _ _) (Nat.le_refl _) (by simp) ?_; (case hd => rfl); (case hg => rfl); (case hr => exact zqS); (case hp => exact (Reps.none _ _)); intro v354 w3 ho4 hb hg_ hnew_; clear hg_ hnew_; (first | rw [← Ny353.out] at ho4 | (simp only [Int.reduceToNat] at ho4; rw [← Ny353.out] at ho4)); have HO355 := zm (Kd.R_lower ho4 (keep_size (w := w) (g := g) (row := none) zq5)); replace HK := zm (KeepBut.trans zq5 (KeepBut.of_below hb g none) (.inl rfl)); replace HB := zm (below_step zq6 hb); replace HI0 := zm (IsS45.below zq7 hb); clear hb ho4) | ((with_reducible refine gate_callee (f := 48) rfl ?_); refine goesL_ (some 11) rfl rfl Tryz.func48 (by kernel_rfl) rfl #[.pointer (some ⟨g, 0, none⟩), .int .i64 7] rfl zq1 ?_; (with_reducible refine (spec_l1Cur_pick.calls g s0_0 s0_1 s0_2 7 t356 t357 t358 w0 _ ?side1 ?side2 A2.out).mono ?_); (case side1 => exact zq7); (case side2 => exact zq6); rintro e w5 ⟨rfl, hi, hb, hk⟩; refine ⟨_, rfl, ?_⟩; replace HO355 := zm (Kd.R_mono (Kd.R_keep (IsS45.apart (show IsS45 w0 _ g s0_0 s0_1 s0_2 from by repeat (first | (with_reducible first | exact HI0.out | apply IsS45.alloc | apply IsS45.drewN | apply IsS45.drew | apply IsS45.set_1 | apply IsS45.set_2) | exact HI0.out)) (zqR HO355.out) (by decide)) hk (fun _ h => h.2)) (fun _ h => h.1)); replace HK := zm (KeepBut.trans zq5 hk (.inl rfl)); replace HB := zm (hb); replace HI0 := zm (hi); (try clear hb); (try clear hb2); (try clear hk); (try clear hi)))
 go_loopg [3, 4, 5] k (fun kq v3 v4 v5 w' => ∃ (x3_1 : List (S25)) (x4_1 : Int) (x5_1 : Int) (x1001_1 : Int) (x1002_1 : Int), v4 = .int .i64 x4_1 ∧ v5 = .int .i64 x5_1 ∧ Aside0 (spec_l1Cur_warnings.l0 kq x3_1 x4_1 x5_1 s0_0 x1001_1 x1002_1 = some (r1, r2, r3)) ∧ Aside0 (kq ≤ k) ∧ Aside0 (Kd.R k25 25 w' w.heap.size (fun _ => True) v3 x3_1) ∧ Aside0 (IsS45 w0 w' g s0_0 x1001_1 x1002_1) ∧ Aside0 (KeepBut w w' g none) ∧ Aside0 (Below w0.heap.size w0 w'))
 case atStart => exact ⟨(y353), (0), (t356), (t357), (t358), (by first | rfl | (simp; done) | (simp [*]; done)), (by first | rfl | (simp; done) | (simp [*]; done)), H', ⟨Nat.le_refl _⟩, ⟨zqR HO355.out⟩, ⟨zq7⟩, ⟨zq5⟩, ⟨zq6⟩⟩
 clear H'
 try clear p2
 try clear c3
 try clear c4
 obtain ⟨x3_1, x4_1, x5_1, x1001_1, x1002_1, rfl, rfl, HA, HK1, HO_3, HI0, HK, HB⟩ := hrel
 cases gk with
 | zero => exact absurd HA.out (by simp [spec_l1Cur_warnings.l0])
 | succ k1 =>
  have H := HA.out
  clear HA
  simp only [spec_l1Cur_warnings.l0] at H
  by_cases c6 : x5_1 > 0
  case neg =>
   rw [if_neg c6] at H
   have c6b0 : decide (0 < x5_1) = false := decide_eq_false c6
   clear c6
   obtain ⟨⟨t384, t385, t386⟩, A330, H⟩ := zob H
   replace H : (if t384 = 0 then ((spec_l1Cur_warning.f k1 s0_0 t385 t386).bind fun bt387 => ((some (([(⟨bt387.1, bt387.2.1, bt387.2.2.1, bt387.2.2.2.1, bt387.2.2.2.2.1, bt387.2.2.2.2.2.1⟩ : S25)] : List (S25)) : List (S25))).bind fun y395 => (if x3_1.length + y395.length < 2932031007402 then (some ((x3_1 ++ y395), bt387.2.2.2.2.2.2.1, bt387.2.2.2.2.2.2.2)) else (none)))) else (if t384 = 1 then (spec_l1Cur_warnings.l1 k1 x3_1 0 s0_0 t385 t386) else (some (x3_1, t385, t386)))) = some (r1, r2, r3) := H
   have A33 := zm A330
   clear A330
   by_cases c34 : t384 = 0
   case pos =>
    rw [if_pos c34] at H
    have c34b0 : (t384 == 0) = true := beq_iff_eq.mpr c34
    have c34b1 : (t384 != 0) = false := bne_eq_false_iff_eq.mpr c34
    clear c34
    obtain ⟨⟨t387, t388, t389, t390, t391, t392, t393, t394⟩, A350, H⟩ := zob H
    replace H : ((some (([(⟨t387, t388, t389, t390, t391, t392⟩ : S25)] : List (S25)) : List (S25))).bind fun y395 => (if x3_1.length + y395.length < 2932031007402 then (some ((x3_1 ++ y395), t393, t394)) else (none))) = some (r1, r2, r3) := H
    have A35 := zm A350
    clear A350
    obtain ⟨y395, hy395⟩ : ∃ y_ : List (S25), y_ = (([(⟨t387, t388, t389, t390, t391, t392⟩ : S25)] : List (S25))) := ⟨_, rfl⟩
    replace H : (if x3_1.length + y395.length < 2932031007402 then (some ((x3_1 ++ y395), t393, t394)) else (none)) = some (r1, r2, r3) := zqH hy395 H
    have Ny395 := zm hy395
    clear hy395
    by_cases c36 : x3_1.length + y395.length < 2932031007402
    case neg =>
     rw [if_neg c36] at H
     exact absurd H (by simp)
    rw [if_pos c36] at H
    have LMc36 := zm c36
    clear c36
    obtain ⟨y398, hy398⟩ : ∃ y_ : List (S25), y_ = (x3_1 ++ y395) := ⟨_, rfl⟩
    replace H : (some (y398, t393, t394)) = some (r1, r2, r3) := zqH hy398 H
    have Ny398 := zm hy398
    clear hy398
    simp only [Option.some.injEq, Prod.mk.injEq] at H
    obtain ⟨rfl, rfl, rfl⟩ := H
    go_wp2_with (first | ((with_reducible refine gate_callee (f := 48) rfl ?_); refine goesL_ (some 35) rfl rfl Tryz.func48 (by kernel_rfl) rfl #[.pointer (some ⟨g, 0, none⟩), .int .i64 24] rfl zq1 ?_; (with_reducible refine (spec_l1Cur_pick.calls g s0_0 x1001_1 x1002_1 24 t384 t385 t386 w0 _ ?side1 ?side2 A33.out).mono ?_); (case side1 => exact zq7); (case side2 => exact zq6); rintro e w37 ⟨rfl, hi, hb, hk⟩; refine ⟨_, rfl, ?_⟩; replace HO_3 := zm (Kd.R_mono (Kd.R_keep (IsS45.apart (show IsS45 w0 _ g s0_0 x1001_1 x1002_1 from by repeat (first | (with_reducible first | exact HI0.out | apply IsS45.alloc | apply IsS45.drewN | apply IsS45.drew | apply IsS45.set_1 | apply IsS45.set_2) | exact HI0.out)) (zqR HO_3.out) (by decide)) hk (fun _ h => h.2)) (fun _ h => h.1)); replace HK := zm (KeepBut.trans zq5 hk (.inl rfl)); replace HB := zm (hb); replace HI0 := zm (hi); (try clear hb); (try clear hb2); (try clear hk); (try clear hi)) | ((with_reducible refine gate_callee (f := 22) rfl ?_); refine goesL_ (some 40) rfl rfl Tryz.func22 (by kernel_rfl) rfl #[.pointer (some ⟨g, 0, none⟩)] rfl zq1 ?_; (with_reducible refine (spec_l1Cur_warning.calls k1 g s0_0 t385 t386 t387 t388 t389 t390 t391 t392 t393 t394 w0 _ ?side1 ?side2 A35.out).mono ?_); (case side1 => exact zq7); (case side2 => exact zq6); rintro e w38 ⟨rfl, hi, hb, hk⟩; refine ⟨_, rfl, ?_⟩; replace HO_3 := zm (Kd.R_mono (Kd.R_keep (IsS45.apart (show IsS45 w0 _ g s0_0 t385 t386 from by repeat (first | (with_reducible first | exact HI0.out | apply IsS45.alloc | apply IsS45.drewN | apply IsS45.drew | apply IsS45.set_1 | apply IsS45.set_2) | exact HI0.out)) (zqR HO_3.out) (by decide)) hk (fun _ h => h.2)) (fun _ h => h.1)); replace HK := zm (KeepBut.trans zq5 hk (.inl rfl)); replace HB := zm (hb); replace HI0 := zm (hi); (try clear hb); (try clear hb2); (try clear hk); (try clear hi)) | ((with_reducible refine gate_dst (N := 41) rfl ?_); refine Kd.R_lit k25 _ 25 ?hg (N := 41) ?hd (xs := ([(⟨t387, t388, t389, t390, t391, t392⟩ : S25)] : List (S25))) (inner := [.int .i64 t387, .int .i64 t388, .int .i64 t389, .int .i64 t390, .int .i64 t391, .int .i64 t392]) (ok := fun _ => True) (okp := fun _ => True) ?hr ?hp (fun _ hk => hk) trivial (Below.refl _ _) (Nat.le_refl _) (by simp) ?_; (case hd => rfl); (case hg => rfl); (case hr => exact zqS); (case hp => exact (Reps.c6 (show Kd.M k25 _ _ _ (⟨t387, t388, t389, t390, t391, t392⟩ : S25) [.int .i64 t387, .int .i64 t388, .int .i64 t389, .int .i64 t390, .int .i64 t391, .int .i64 t392] from (k25_mkM _ _ _ (⟨t387, t388, t389, t390, t391, t392⟩ : S25) )) (Reps.none _ _))); intro v396 w39 ho40 hb hg_ hnew_; clear hg_ hnew_; (first | rw [← Ny395.out] at ho40 | (simp only [Int.reduceToNat] at ho40; rw [← Ny395.out] at ho40)); have HO397 := zm (Kd.R_lower (Kd.R_new' ho40 (Kd.R_lt (zqR HO_3.out))) (keep_size (w := w) (g := g) (row := none) zq5)); replace HO_3 := zm (Kd.R_elder' (zqR HO_3.out) (Kd.R_base ho40) hb); replace HK := zm (KeepBut.trans zq5 (KeepBut.of_below hb g none) (.inl rfl)); replace HB := zm (below_step zq6 hb); replace HI0 := zm (IsS45.below zq7 hb); clear hb ho40; obtain ⟨Ao42, co42, eo42⟩ := Kd.R_slice HO397.out; subst eo42) | ((with_reducible refine gate_builtin (b := .append) (xs := #[.tmp 38, .tmp 41]) rfl ?_); at_builtin; refine Kd.R_append_rows k25 w.heap.size rfl (.tmp 38) (.tmp 41) 32 25 (.agg #[(.int .i64 0), (.int .i64 0), (.int .i64 0), (.int .i64 0), (.int .i64 0), (.int .i64 0)]) 48 rfl Tryz.underlying32 info25 rfl (by decide) (by omega) u3 x3_1 y395 _ _ _ (fun k_ => some k_ ≠ (.slice Ao42 y395.length co42 : Value).ownBlock) (fun _ => False) rfl rfl ?aO ?aR (fun _ _ h => h) (fun _ h => h.elim) ?aF (Below.refl _ _) ?aS ?aL ?_; (case aR => exact zqC (Kd.R_reads' HO397.out).2.2); (case aF => exact (fun k_ hk => Kd.fresh' (Kd.R_lt (zqR HO397.out)) k_ hk)); (case aO => exact (by (with_reducible repeat (first | apply Kd.R_alloc | apply Kd.R_drewN | apply Kd.R_drew)); exact Kd.R_mono HO_3.out (fun _ hk => hk.2))); (case aS => exact (keep_size (w := w) (g := g) (row := none) zq5)); (case aL => have := LMc36.out; omega); intro v399 w41 ho hb hg hat; rw [← Ny398.out] at ho; replace HO397 := zm (Kd.R_after (ok := (fun _ => True)) (zqR HO397.out) hg hat); replace HB := zm (below_weaken zq6 HL.out hb); replace HI0 := zm (IsS45.grown zq7 hg (IsS45.own_ne HI0.out HO_3.out (by decide))); replace HK := zm (KeepBut.trans zq5 (KeepBut.of_grown hg g) (Kd.R_base2 HO_3.out)); have HO400 := zm (ho); clear HO_3; clear ho hb hg hat))
    go_ret
    exact ⟨_, by first | rfl | (simp [errW_none, errW_some] <;> rfl) | (simp [*, errW_none, errW_some] <;> rfl), by (with_reducible repeat (first | apply Kd.R_alloc | apply Kd.R_drewN | apply Kd.R_drew)); exact Kd.R_mono HO400.out (fun _ hk => trivial), zq7, zq6, zq5⟩
   rw [if_neg c34] at H
   have c34b0 : (t384 == 0) = false := beq_eq_false_iff_ne.mpr c34
   have c34b1 : (t384 != 0) = true := bne_iff_ne.mpr c34
   by_cases c43 : t384 = 1
   case neg =>
    rw [if_neg c43] at H
    have c43b0 : (t384 == 1) = false := beq_eq_false_iff_ne.mpr c43
    have c43b1 : (t384 != 1) = true := bne_iff_ne.mpr c43
    simp only [Option.some.injEq, Prod.mk.injEq] at H
    obtain ⟨rfl, rfl, rfl⟩ := H
    go_wp2_with (first | ((with_reducible refine gate_callee (f := 48) rfl ?_); refine goesL_ (some 35) rfl rfl Tryz.func48 (by kernel_rfl) rfl #[.pointer (some ⟨g, 0, none⟩), .int .i64 24] rfl zq1 ?_; (with_reducible refine (spec_l1Cur_pick.calls g s0_0 x1001_1 x1002_1 24 t384 t385 t386 w0 _ ?side1 ?side2 A33.out).mono ?_); (case side1 => exact zq7); (case side2 => exact zq6); rintro e w59 ⟨rfl, hi, hb, hk⟩; refine ⟨_, rfl, ?_⟩; replace HO_3 := zm (Kd.R_mono (Kd.R_keep (IsS45.apart (show IsS45 w0 _ g s0_0 x1001_1 x1002_1 from by repeat (first | (with_reducible first | exact HI0.out | apply IsS45.alloc | apply IsS45.drewN | apply IsS45.drew | apply IsS45.set_1 | apply IsS45.set_2) | exact HI0.out)) (zqR HO_3.out) (by decide)) hk (fun _ h => h.2)) (fun _ h => h.1)); replace HK := zm (KeepBut.trans zq5 hk (.inl rfl)); replace HB := zm (hb); replace HI0 := zm (hi); (try clear hb); (try clear hb2); (try clear hk); (try clear hi)))
    go_ret
    exact ⟨_, by first | rfl | (simp [errW_none, errW_some] <;> rfl) | (simp [*, errW_none, errW_some] <;> rfl), zqR HO_3.out, zq7, zq6, zq5⟩
   rw [if_pos c43] at H
   have c43b0 : (t384 == 1) = true := beq_iff_eq.mpr c43
   have c43b1 : (t384 != 1) = false := bne_eq_false_iff_eq.mpr c43
   clear c43
   have H' := zm H
   clear H
   go_wp2_with (first | ((with_reducible refine gate_callee (f := 48) rfl ?_); refine goesL_ (some 35) rfl rfl Tryz.func48 (by kernel_rfl) rfl #[.pointer (some ⟨g, 0, none⟩), .int .i64 24] rfl zq1 ?_; (with_reducible refine (spec_l1Cur_pick.calls g s0_0 x1001_1 x1002_1 24 t384 t385 t386 w0 _ ?side1 ?side2 A33.out).mono ?_); (case side1 => exact zq7); (case side2 => exact zq6); rintro e w44 ⟨rfl, hi, hb, hk⟩; refine ⟨_, rfl, ?_⟩; replace HO_3 := zm (Kd.R_mono (Kd.R_keep (IsS45.apart (show IsS45 w0 _ g s0_0 x1001_1 x1002_1 from by repeat (first | (with_reducible first | exact HI0.out | apply IsS45.alloc | apply IsS45.drewN | apply IsS45.drew | apply IsS45.set_1 | apply IsS45.set_2) | exact HI0.out)) (zqR HO_3.out) (by decide)) hk (fun _ h => h.2)) (fun _ h => h.1)); replace HK := zm (KeepBut.trans zq5 hk (.inl rfl)); replace HB := zm (hb); replace HI0 := zm (hi); (try clear hb); (try clear hb2); (try clear hk); (try clear hi)))
   go_loopg [3, 8] k1 (fun kq v3 v8 w' => ∃ (x3_2 : List (S25)) (x8_2 : Int) (x1001_2 : Int) (x1002_2 : Int), v8 = .int .i64 x8_2 ∧ Aside0 (spec_l1Cur_warnings.l1 kq x3_2 x8_2 s0_0 x1001_2 x1002_2 = some (r1, r2, r3)) ∧ Aside0 (kq ≤ k1) ∧ Aside0 (Kd.R k25 25 w' w.heap.size (fun _ => True) v3 x3_2) ∧ Aside0 (IsS45 w0 w' g s0_0 x1001_2 x1002_2) ∧ Aside0 (KeepBut w w' g none) ∧ Aside0 (Below w0.heap.size w0 w'))
   case atStart => exact ⟨(x3_1), (0), (t385), (t386), (by first | rfl | (simp; done) | (simp [*]; done)), H', ⟨Nat.le_refl _⟩, ⟨zqR HO_3.out⟩, ⟨zq7⟩, ⟨zq5⟩, ⟨zq6⟩⟩
   clear H'
   try clear c1
   try clear c2
   try clear p2
   try clear c3
   try clear c4
   try clear c5
   try clear c6
   try clear c6b0
   try clear p6
   try clear c9
   try clear c10
   try clear c14
   try clear c22
   try clear c32
   try clear c34
   try clear c34b0
   try clear c34b1
   try clear c36
   try clear c43
   try clear c43b0
   try clear c43b1
   try clear hcz15_0
   try clear hcz15_1
   try clear hcz15_2
   try clear hcz15_3
   try clear hcz15_4
   try clear hcz15_5
   try clear hcz17_0
   try clear hcz17_1
   try clear hcz17_2
   try clear hcz17_3
   try clear hcz17_4
   try clear hcz17_5
   try clear hfz15_0
   try clear hfz15_1
   try clear hfz15_2
   try clear hfz15_3
   try clear hfz15_4
   try clear hfz15_5
   try clear hfz17_0
   try clear hfz17_1
   try clear hfz17_2
   try clear hfz17_3
   try clear hfz17_4
   try clear hfz17_5
   try clear p2
   try clear p6
   obtain ⟨x3_2, x8_2, x1001_2, x1002_2, rfl, HA, HK2, HO_3, HI0, HK, HB⟩ := hrel
   cases gk with
   | zero => exact absurd HA.out (by simp [spec_l1Cur_warnings.l1])
   | succ k2 =>
    have H := HA.out
    clear HA
    simp only [spec_l1Cur_warnings.l1] at H
    obtain ⟨⟨t401, t402, t403⟩, A450, H⟩ := zob H
    replace H : (if (x3_2.length : Int) < (wrap64 (12 + t401)) then (if x8_2 < 14 then ((some (([(⟨wrap64 (100 + x8_2), 5, 1, 9, wrap64 (10 * x8_2), wrap64 ((wrap64 (10 * x8_2)) + 5)⟩ : S25)] : List (S25)) : List (S25))).bind fun y404 => (if x3_2.length + y404.length < 2932031007402 then (spec_l1Cur_warnings.l1 k2 (x3_2 ++ y404) (wrap64 (x8_2 + 1)) s0_0 t402 t403) else (none))) else (some (x3_2, t402, t403))) else (some (x3_2, t402, t403))) = some (r1, r2, r3) := H
    have A45 := zm A450
    clear A450
    by_cases c46 : (x3_2.length : Int) < (wrap64 (12 + t401))
    case neg =>
     rw [if_neg c46] at H
     have c46b0 : decide ((x3_2.length : Int) < (wrap64 (12 + t401))) = false := decide_eq_false c46
     clear c46
     simp only [Option.some.injEq, Prod.mk.injEq] at H
     obtain ⟨rfl, rfl, rfl⟩ := H
     obtain ⟨Ao57, co57, eo57⟩ := Kd.R_slice HO_3.out
     subst eo57
     go_wp2_with (first | ((with_reducible refine gate_callee (f := 48) rfl ?_); refine goesL_ (some 48) rfl rfl Tryz.func48 (by kernel_rfl) rfl #[.pointer (some ⟨g, 0, none⟩), .int .i64 2] rfl zq1 ?_; (with_reducible refine (spec_l1Cur_pick.calls g s0_0 x1001_2 x1002_2 2 t401 t402 t403 w0 _ ?side1 ?side2 A45.out).mono ?_); (case side1 => exact zq7); (case side2 => exact zq6); rintro e w58 ⟨rfl, hi, hb, hk⟩; refine ⟨_, rfl, ?_⟩; replace HO_3 := zm (Kd.R_mono (Kd.R_keep (IsS45.apart (show IsS45 w0 _ g s0_0 x1001_2 x1002_2 from by repeat (first | (with_reducible first | exact HI0.out | apply IsS45.alloc | apply IsS45.drewN | apply IsS45.drew | apply IsS45.set_1 | apply IsS45.set_2) | exact HI0.out)) (zqR HO_3.out) (by decide)) hk (fun _ h => h.2)) (fun _ h => h.1)); replace HK := zm (KeepBut.trans zq5 hk (.inl rfl)); replace HB := zm (hb); replace HI0 := zm (hi); (try clear hb); (try clear hb2); (try clear hk); (try clear hi)))
     go_ret
     exact ⟨_, by first | rfl | (simp [errW_none, errW_some] <;> rfl) | (simp [*, errW_none, errW_some] <;> rfl), zqR HO_3.out, zq7, zq6, zq5⟩
    rw [if_pos c46] at H
    have c46b0 : decide ((x3_2.length : Int) < (wrap64 (12 + t401))) = true := decide_eq_true c46
    clear c46
    by_cases c47 : x8_2 < 14
    case neg =>
     rw [if_neg c47] at H
     have c47b0 : decide (x8_2 < 14) = false := decide_eq_false c47
     clear c47
     simp only [Option.some.injEq, Prod.mk.injEq] at H
     obtain ⟨rfl, rfl, rfl⟩ := H
     obtain ⟨Ao55, co55, eo55⟩ := Kd.R_slice HO_3.out
     subst eo55
     go_wp2_with (first | ((with_reducible refine gate_callee (f := 48) rfl ?_); refine goesL_ (some 48) rfl rfl Tryz.func48 (by kernel_rfl) rfl #[.pointer (some ⟨g, 0, none⟩), .int .i64 2] rfl zq1 ?_; (with_reducible refine (spec_l1Cur_pick.calls g s0_0 x1001_2 x1002_2 2 t401 t402 t403 w0 _ ?side1 ?side2 A45.out).mono ?_); (case side1 => exact zq7); (case side2 => exact zq6); rintro e w56 ⟨rfl, hi, hb, hk⟩; refine ⟨_, rfl, ?_⟩; replace HO_3 := zm (Kd.R_mono (Kd.R_keep (IsS45.apart (show IsS45 w0 _ g s0_0 x1001_2 x1002_2 from by repeat (first | (with_reducible first | exact HI0.out | apply IsS45.alloc | apply IsS45.drewN | apply IsS45.drew | apply IsS45.set_1 | apply IsS45.set_2) | exact HI0.out)) (zqR HO_3.out) (by decide)) hk (fun _ h => h.2)) (fun _ h => h.1)); replace HK := zm (KeepBut.trans zq5 hk (.inl rfl)); replace HB := zm (hb); replace HI0 := zm (hi); (try clear hb); (try clear hb2); (try clear hk); (try clear hi)))
     go_ret
     exact ⟨_, by first | rfl | (simp [errW_none, errW_some] <;> rfl) | (simp [*, errW_none, errW_some] <;> rfl), zqR HO_3.out, zq7, zq6, zq5⟩
    rw [if_pos c47] at H
    have c47b0 : decide (x8_2 < 14) = true := decide_eq_true c47
    clear c47
    obtain ⟨y404, hy404⟩ : ∃ y_ : List (S25), y_ = (([(⟨wrap64 (100 + x8_2), 5, 1, 9, wrap64 (10 * x8_2), wrap64 ((wrap64 (10 * x8_2)) + 5)⟩ : S25)] : List (S25))) := ⟨_, rfl⟩
    replace H : (if x3_2.length + y404.length < 2932031007402 then (spec_l1Cur_warnings.l1 k2 (x3_2 ++ y404) (wrap64 (x8_2 + 1)) s0_0 t402 t403) else (none)) = some (r1, r2, r3) := zqH hy404 H
    have Ny404 := zm hy404
    clear hy404
    by_cases c48 : x3_2.length + y404.length < 2932031007402
    case neg =>
     rw [if_neg c48] at H
     exact absurd H (by simp)
    rw [if_pos c48] at H
    have LMc48 := zm c48
    clear c48
    obtain ⟨y407, hy407⟩ : ∃ y_ : List (S25), y_ = (x3_2 ++ y404) := ⟨_, rfl⟩
    replace H : (spec_l1Cur_warnings.l1 k2 y407 (wrap64 (x8_2 + 1)) s0_0 t402 t403) = some (r1, r2, r3) := zqH hy407 H
    have Ny407 := zm hy407
    clear hy407
    have H' := zm H
    clear H
    obtain ⟨Ao49, co49, eo49⟩ := Kd.R_slice HO_3.out
    subst eo49
    go_wp2_with (first | ((with_reducible refine gate_callee (f := 48) rfl ?_); refine goesL_ (some 48) rfl rfl Tryz.func48 (by kernel_rfl) rfl #[.pointer (some ⟨g, 0, none⟩), .int .i64 2] rfl zq1 ?_; (with_reducible refine (spec_l1Cur_pick.calls g s0_0 x1001_2 x1002_2 2 t401 t402 t403 w0 _ ?side1 ?side2 A45.out).mono ?_); (case side1 => exact zq7); (case side2 => exact zq6); rintro e w50 ⟨rfl, hi, hb, hk⟩; refine ⟨_, rfl, ?_⟩; replace HO_3 := zm (Kd.R_mono (Kd.R_keep (IsS45.apart (show IsS45 w0 _ g s0_0 x1001_2 x1002_2 from by repeat (first | (with_reducible first | exact HI0.out | apply IsS45.alloc | apply IsS45.drewN | apply IsS45.drew | apply IsS45.set_1 | apply IsS45.set_2) | exact HI0.out)) (zqR HO_3.out) (by decide)) hk (fun _ h => h.2)) (fun _ h => h.1)); replace HK := zm (KeepBut.trans zq5 hk (.inl rfl)); replace HB := zm (hb); replace HI0 := zm (hi); (try clear hb); (try clear hb2); (try clear hk); (try clear hi)) | ((with_reducible refine gate_dst (N := 66) rfl ?_); refine Kd.R_lit k25 _ 25 ?hg (N := 66) ?hd (xs := ([(⟨wrap64 (100 + x8_2), 5, 1, 9, wrap64 (10 * x8_2), wrap64 ((wrap64 (10 * x8_2)) + 5)⟩ : S25)] : List (S25))) (inner := [.int .i64 (wrap64 (100 + x8_2)), .int .i64 5, .int .i64 1, .int .i64 9, .int .i64 (wrap64 (10 * x8_2)), .int .i64 (wrap64 ((wrap64 (10 * x8_2)) + 5))]) (ok := fun _ => True) (okp := fun _ => True) ?hr ?hp (fun _ hk => hk) trivial (Below.refl _ _) (Nat.le_refl _) (by simp) ?_; (case hd => rfl); (case hg => rfl); (case hr => exact zqS); (case hp => exact (Reps.c6 (show Kd.M k25 _ _ _ (⟨wrap64 (100 + x8_2), 5, 1, 9, wrap64 (10 * x8_2), wrap64 ((wrap64 (10 * x8_2)) + 5)⟩ : S25) [.int .i64 (wrap64 (100 + x8_2)), .int .i64 5, .int .i64 1, .int .i64 9, .int .i64 (wrap64 (10 * x8_2)), .int .i64 (wrap64 ((wrap64 (10 * x8_2)) + 5))] from (k25_mkM _ _ _ (⟨wrap64 (100 + x8_2), 5, 1, 9, wrap64 (10 * x8_2), wrap64 ((wrap64 (10 * x8_2)) + 5)⟩ : S25) )) (Reps.none _ _))); intro v405 w51 ho52 hb hg_ hnew_; clear hg_ hnew_; (first | rw [← Ny404.out] at ho52 | (simp only [Int.reduceToNat] at ho52; rw [← Ny404.out] at ho52)); have HO406 := zm (Kd.R_lower (Kd.R_new' ho52 (Kd.R_lt (zqR HO_3.out))) (keep_size (w := w) (g := g) (row := none) zq5)); replace HO_3 := zm (Kd.R_elder' (zqR HO_3.out) (Kd.R_base ho52) hb); replace HK := zm (KeepBut.trans zq5 (KeepBut.of_below hb g none) (.inl rfl)); replace HB := zm (below_step zq6 hb); replace HI0 := zm (IsS45.below zq7 hb); clear hb ho52; obtain ⟨Ao54, co54, eo54⟩ := Kd.R_slice HO406.out; subst eo54) | ((with_reducible refine gate_builtin (b := .append) (xs := #[.tmp 57, .tmp 66]) rfl ?_); at_builtin; refine Kd.R_append_rows k25 w.heap.size rfl (.tmp 57) (.tmp 66) 32 25 (.agg #[(.int .i64 0), (.int .i64 0), (.int .i64 0), (.int .i64 0), (.int .i64 0), (.int .i64 0)]) 48 rfl Tryz.underlying32 info25 rfl (by decide) (by omega) (.slice Ao49 x3_2.length co49) x3_2 y404 _ _ _ (fun k_ => some k_ ≠ (.slice Ao54 y404.length co54 : Value).ownBlock) (fun _ => False) rfl rfl ?aO ?aR (fun _ _ h => h) (fun _ h => h.elim) ?aF (Below.refl _ _) ?aS ?aL ?_; (case aR => exact zqC (Kd.R_reads' HO406.out).2.2); (case aF => exact (fun k_ hk => Kd.fresh' (Kd.R_lt (zqR HO406.out)) k_ hk)); (case aO => exact (by (with_reducible repeat (first | apply Kd.R_alloc | apply Kd.R_drewN | apply Kd.R_drew)); exact Kd.R_mono HO_3.out (fun _ hk => hk.2))); (case aS => exact (keep_size (w := w) (g := g) (row := none) zq5)); (case aL => have := LMc48.out; omega); intro v408 w53 ho hb hg hat; rw [← Ny407.out] at ho; replace HO406 := zm (Kd.R_after (ok := (fun _ => True)) (zqR HO406.out) hg hat); replace HB := zm (below_weaken zq6 HL.out hb); replace HI0 := zm (IsS45.grown zq7 hg (IsS45.own_ne HI0.out HO_3.out (by decide))); replace HK := zm (KeepBut.trans zq5 (KeepBut.of_grown hg g) (Kd.R_base2 HO_3.out)); have HO409 := zm (ho); clear HO_3; clear ho hb hg hat))
    go_roundg k2
    case measure => have := HK1.out; have := HK2.out; omega
    case rel => exact ⟨(y407), (wrap64 (x8_2 + 1)), (t402), (t403), (by first | rfl | (simp; done) | (simp [*]; done)), H', ⟨by have := HK1.out; have := HK2.out; omega⟩, ⟨by (with_reducible repeat (first | apply Kd.R_alloc | apply Kd.R_drewN | apply Kd.R_drew)); exact Kd.R_mono HO409.out (fun _ hk => trivial)⟩, ⟨zq7⟩, ⟨zq5⟩, ⟨zq6⟩⟩
  rw [if_pos c6] at H
  have c6b0 : decide (0 < x5_1) = true := decide_eq_true c6
  clear c6
  obtain ⟨⟨t359, t360, t361, t362, t363, t364, t365, t366⟩, A70, H⟩ := zob H
  replace H : ((spec_l1Cur_pick.f s0_0 t365 t366 2).bind fun bt368 => ((some (([] : List (S25)) : List (S25))).bind fun y371 => (if y371.length + x3_1.length < 2932031007402 then ((some (y371 ++ x3_1 : List (S25))).bind fun y374 => ((some (([(⟨wrap64 ((wrap64 (x4_1 + 1)) + bt368.1), t360, t361, t362, t363, t364⟩ : S25)] : List (S25)) : List (S25))).bind fun y377 => (if y374.length + y377.length < 2932031007402 then ((some (y374 ++ y377 : List (S25))).bind fun y380 => ((spec_l14List.f k1 y380).bind fun t383 => (spec_l1Cur_warnings.j1 k1 x3_1 (wrap64 ((wrap64 (x4_1 + 1)) + bt368.1)) x5_1 y380 t383 s0_0 bt368.2.1 bt368.2.2))) else (none)))) else (none)))) = some (r1, r2, r3) := H
  have A7 := zm A70
  clear A70
  obtain ⟨⟨t368, t369, t370⟩, A80, H⟩ := zob H
  replace H : ((some (([] : List (S25)) : List (S25))).bind fun y371 => (if y371.length + x3_1.length < 2932031007402 then ((some (y371 ++ x3_1 : List (S25))).bind fun y374 => ((some (([(⟨wrap64 ((wrap64 (x4_1 + 1)) + t368), t360, t361, t362, t363, t364⟩ : S25)] : List (S25)) : List (S25))).bind fun y377 => (if y374.length + y377.length < 2932031007402 then ((some (y374 ++ y377 : List (S25))).bind fun y380 => ((spec_l14List.f k1 y380).bind fun t383 => (spec_l1Cur_warnings.j1 k1 x3_1 (wrap64 ((wrap64 (x4_1 + 1)) + t368)) x5_1 y380 t383 s0_0 t369 t370))) else (none)))) else (none))) = some (r1, r2, r3) := H
  have A8 := zm A80
  clear A80
  obtain ⟨y371, hy371⟩ : ∃ y_ : List (S25), y_ = (([] : List (S25))) := ⟨_, rfl⟩
  replace H : (if y371.length + x3_1.length < 2932031007402 then ((some (y371 ++ x3_1 : List (S25))).bind fun y374 => ((some (([(⟨wrap64 ((wrap64 (x4_1 + 1)) + t368), t360, t361, t362, t363, t364⟩ : S25)] : List (S25)) : List (S25))).bind fun y377 => (if y374.length + y377.length < 2932031007402 then ((some (y374 ++ y377 : List (S25))).bind fun y380 => ((spec_l14List.f k1 y380).bind fun t383 => (spec_l1Cur_warnings.j1 k1 x3_1 (wrap64 ((wrap64 (x4_1 + 1)) + t368)) x5_1 y380 t383 s0_0 t369 t370))) else (none)))) else (none)) = some (r1, r2, r3) := zqH hy371 H
  have Ny371 := zm hy371
  clear hy371
  by_cases c9 : y371.length + x3_1.length < 2932031007402
  case neg =>
   rw [if_neg c9] at H
   exact absurd H (by simp)
  rw [if_pos c9] at H
  have LMc9 := zm c9
  clear c9
  obtain ⟨y374, hy374⟩ : ∃ y_ : List (S25), y_ = (y371 ++ x3_1) := ⟨_, rfl⟩
  replace H : ((some (([(⟨wrap64 ((wrap64 (x4_1 + 1)) + t368), t360, t361, t362, t363, t364⟩ : S25)] : List (S25)) : List (S25))).bind fun y377 => (if y374.length + y377.length < 2932031007402 then ((some (y374 ++ y377 : List (S25))).bind fun y380 => ((spec_l14List.f k1 y380).bind fun t383 => (spec_l1Cur_warnings.j1 k1 x3_1 (wrap64 ((wrap64 (x4_1 + 1)) + t368)) x5_1 y380 t383 s0_0 t369 t370))) else (none))) = some (r1, r2, r3) := zqH hy374 H
  have Ny374 := zm hy374
  clear hy374
  obtain ⟨y377, hy377⟩ : ∃ y_ : List (S25), y_ = (([(⟨wrap64 ((wrap64 (x4_1 + 1)) + t368), t360, t361, t362, t363, t364⟩ : S25)] : List (S25))) := ⟨_, rfl⟩
  replace H : (if y374.length + y377.length < 2932031007402 then ((some (y374 ++ y377 : List (S25))).bind fun y380 => ((spec_l14List.f k1 y380).bind fun t383 => (spec_l1Cur_warnings.j1 k1 x3_1 (wrap64 ((wrap64 (x4_1 + 1)) + t368)) x5_1 y380 t383 s0_0 t369 t370))) else (none)) = some (r1, r2, r3) := zqH hy377 H
  have Ny377 := zm hy377
  clear hy377
  by_cases c10 : y374.length + y377.length < 2932031007402
  case neg =>
   rw [if_neg c10] at H
   exact absurd H (by simp)
  rw [if_pos c10] at H
  have LMc10 := zm c10
  clear c10
  obtain ⟨y380, hy380⟩ : ∃ y_ : List (S25), y_ = (y374 ++ y377) := ⟨_, rfl⟩
  replace H : ((spec_l14List.f k1 y380).bind fun t383 => (spec_l1Cur_warnings.j1 k1 x3_1 (wrap64 ((wrap64 (x4_1 + 1)) + t368)) x5_1 y380 t383 s0_0 t369 t370)) = some (r1, r2, r3) := zqH hy380 H
  have Ny380 := zm hy380
  clear hy380
  have HC11 := zm H
  clear H
  try go_wp2_with (first | ((with_reducible refine gate_callee (f := 22) rfl ?_); refine goesL_ (some 17) rfl rfl Tryz.func22 (by kernel_rfl) rfl #[.pointer (some ⟨g, 0, none⟩)] rfl zq1 ?_; (with_reducible refine (spec_l1Cur_warning.calls k1 g s0_0 x1001_1 x1002_1 t359 t360 t361 t362 t363 t364 t365 t366 w0 _ ?side1 ?side2 A7.out).mono ?_); (case side1 => exact zq7); (case side2 => exact zq6); rintro e w12 ⟨rfl, hi, hb, hk⟩; refine ⟨_, rfl, ?_⟩; replace HO_3 := zm (Kd.R_mono (Kd.R_keep (IsS45.apart (show IsS45 w0 _ g s0_0 x1001_1 x1002_1 from by repeat (first | (with_reducible first | exact HI0.out | apply IsS45.alloc | apply IsS45.drewN | apply IsS45.drew | apply IsS45.set_1 | apply IsS45.set_2) | exact HI0.out)) (zqR HO_3.out) (by decide)) hk (fun _ h => h.2)) (fun _ h => h.1)); replace HK := zm (KeepBut.trans zq5 hk (.inl rfl)); replace HB := zm (hb); replace HI0 := zm (hi); (try clear hb); (try clear hb2); (try clear hk); (try clear hi)) | ((with_reducible refine gate_dst (N := 6) rfl ?_); refine box_event ?hg (N := 6) ?hd (cs := #[.int .i64 0, .int .i64 0, .int .i64 0, .int .i64 0, .int .i64 0, .int .i64 0]) (t := 25) ?hr ?_; (case hd => rfl); (case hg => rfl); (case hr => exact zqS); intro gb367 hg w13 hbox hb; replace HO_3 := zm (Kd.R_below (Kd.R_elderB (zqR HO_3.out) gb367 (Nat.le_of_eq hg.symm)) hb); replace HB := zm (below_step zq6 hb); have BK367 := zm (hbox); have GW367 := zm ((by rw [hg]; exact (keep_size (w := w) (g := g) (row := none) zq5) : w.heap.size ≤ gb367)); have GE367 := zm ((Nat.le_trans HW0.out (by rw [hg]; exact (keep_size (w := w) (g := g) (row := none) zq5) : w.heap.size ≤ gb367) : w0.heap.size ≤ gb367)); replace HK := zm (KeepBut.trans zq5 (KeepBut.of_below hb g none) (.inl rfl)); have NB0_367 := zm ((by rw [hg]; exact Nat.ne_of_lt (IsS45.lt (show IsS45 w0 _ g s0_0 t365 t366 from by repeat (first | (with_reducible first | exact HI0.out | apply IsS45.alloc | apply IsS45.drewN | apply IsS45.drew | apply IsS45.set_1 | apply IsS45.set_2) | exact HI0.out))) : g ≠ gb367)); have NB367_0 := zm ((by rw [hg]; exact Nat.ne_of_gt (IsS45.lt (show IsS45 w0 _ g s0_0 t365 t366 from by repeat (first | (with_reducible first | exact HI0.out | apply IsS45.alloc | apply IsS45.drewN | apply IsS45.drew | apply IsS45.set_1 | apply IsS45.set_2) | exact HI0.out))) : gb367 ≠ g)); replace HI0 := zm (IsS45.below zq7 hb); clear hb hbox hg; have hnb14 := NB367_0.out; have hnc14 := NB0_367.out; obtain ⟨hcz15_0, hcz15_1, hcz15_2, hcz15_3, hcz15_4, hcz15_5, hfz15_0, hfz15_1, hfz15_2, hfz15_3, hfz15_4, hfz15_5⟩ := bz6 BK367.out) | ((with_reducible refine gate_callee (f := 48) rfl ?_); refine goesL_ (some 21) rfl rfl Tryz.func48 (by kernel_rfl) rfl #[.pointer (some ⟨g, 0, none⟩), .int .i64 2] rfl zq1 ?_; (with_reducible refine (spec_l1Cur_pick.calls g s0_0 t365 t366 2 t368 t369 t370 w0 _ ?side1 ?side2 A8.out).mono ?_); (case side1 => repeat (first | (with_reducible first | exact HI0.out | apply IsS45.alloc | apply IsS45.drewN | apply IsS45.drew | apply IsS45.set_1 | apply IsS45.set_2 | refine IsS45.far ?_ NB0_367.out _) | exact HI0.out)); (case side2 => repeat (first | (with_reducible first | exact HB.out | apply below_alloc | apply pw_below_drewN | apply below_drew1 | refine below_set ?_ (IsS45.ge HI0.out) | refine below_set ?_ GE367.out) | exact HB.out)); rintro e w16 ⟨rfl, hi, hb, hk⟩; refine ⟨_, rfl, ?_⟩; replace HO_3 := zm (Kd.R_mono (Kd.R_keep (IsS45.apart (show IsS45 w0 _ g s0_0 t365 t366 from by repeat (first | (with_reducible first | exact HI0.out | apply IsS45.alloc | apply IsS45.drewN | apply IsS45.drew | apply IsS45.set_1 | apply IsS45.set_2 | refine IsS45.far ?_ NB0_367.out _) | exact HI0.out)) (by (with_reducible repeat (first | apply Kd.R_alloc | apply Kd.R_drewN | apply Kd.R_drew)); exact (Kd.R_mono (Kd.R_far (p := ⟨gb367, 5, none⟩) (Kd.R_far (p := ⟨gb367, 4, none⟩) (Kd.R_far (p := ⟨gb367, 3, none⟩) (Kd.R_far (p := ⟨gb367, 2, none⟩) (Kd.R_far (p := ⟨gb367, 1, none⟩) (Kd.R_far (p := ⟨gb367, 0, none⟩) (Kd.R_mono HO_3.out (fun k_ hk => (⟨hk, hk.2⟩ : _ ∧ k_ ≠ gb367))) (fun _ hk => hk.2) (.int .i64 t359)) (fun _ hk => hk.2) (.int .i64 t360)) (fun _ hk => hk.2) (.int .i64 t361)) (fun _ hk => hk.2) (.int .i64 t362)) (fun _ hk => hk.2) (.int .i64 t363)) (fun _ hk => hk.2) (.int .i64 t364)) (fun _ h_ => h_.1))) (by decide)) hk (fun _ h => h.2)) (fun _ h => h.1)); replace BK367 := zm (KeepBut.blk hk (g' := gb367) (o := .cells #[.int .i64 t359, .int .i64 t360, .int .i64 t361, .int .i64 t362, .int .i64 t363, .int .i64 t364] 25 (0, 0)) (by (with_reducible repeat (first | refine zN ?_ _ | refine zD ?_ | refine zL ?_ _)); refine blk_put (cs := #[.int .i64 t359, .int .i64 t360, .int .i64 t361, .int .i64 t362, .int .i64 t363, .int .i64 0]) ?_ 5 _ rfl; (with_reducible repeat (first | refine zN ?_ _ | refine zD ?_ | refine zL ?_ _)); refine blk_put (cs := #[.int .i64 t359, .int .i64 t360, .int .i64 t361, .int .i64 t362, .int .i64 0, .int .i64 0]) ?_ 4 _ rfl; (with_reducible repeat (first | refine zN ?_ _ | refine zD ?_ | refine zL ?_ _)); refine blk_put (cs := #[.int .i64 t359, .int .i64 t360, .int .i64 t361, .int .i64 0, .int .i64 0, .int .i64 0]) ?_ 3 _ rfl; (with_reducible repeat (first | refine zN ?_ _ | refine zD ?_ | refine zL ?_ _)); refine blk_put (cs := #[.int .i64 t359, .int .i64 t360, .int .i64 0, .int .i64 0, .int .i64 0, .int .i64 0]) ?_ 2 _ rfl; (with_reducible repeat (first | refine zN ?_ _ | refine zD ?_ | refine zL ?_ _)); refine blk_put (cs := #[.int .i64 t359, .int .i64 0, .int .i64 0, .int .i64 0, .int .i64 0, .int .i64 0]) ?_ 1 _ rfl; (with_reducible repeat (first | refine zN ?_ _ | refine zD ?_ | refine zL ?_ _)); refine blk_put (cs := #[.int .i64 0, .int .i64 0, .int .i64 0, .int .i64 0, .int .i64 0, .int .i64 0]) ?_ 0 _ rfl; (with_reducible repeat (first | refine zN ?_ _ | refine zD ?_ | refine zL ?_ _)); exact BK367.out) NB367_0.out (by simp)); replace HK := zm (KeepBut.trans zq11 hk (.inl rfl)); replace HB := zm (hb); replace HI0 := zm (hi); (try clear hb); (try clear hb2); (try clear hk); (try clear hi); obtain ⟨hcz17_0, hcz17_1, hcz17_2, hcz17_3, hcz17_4, hcz17_5, hfz17_0, hfz17_1, hfz17_2, hfz17_3, hfz17_4, hfz17_5⟩ := bz6 BK367.out; obtain ⟨Ao18, co18, eo18⟩ := Kd.R_slice HO_3.out; subst eo18))
  have n0_ : Aside0 (Kd.R k25 25 (w16.setCell ⟨gb367, 0, none⟩ (.int .i64 (wrap64 ((wrap64 (x4_1 + 1)) + t368)))) w.heap.size (fun k_ => k_ ≠ gb367) (.slice Ao18 x3_1.length co18) x3_1) := ⟨by (with_reducible repeat (first | apply Kd.R_alloc | apply Kd.R_drewN | apply Kd.R_drew)); exact Kd.R_mono (Kd.R_far (p := ⟨gb367, 0, none⟩) (Kd.R_mono HO_3.out (fun k_ hk => (⟨hk, hk.2⟩ : _ ∧ k_ ≠ gb367))) (fun _ hk => hk.2) (.int .i64 (wrap64 ((wrap64 (x4_1 + 1)) + t368)))) (fun _ hk => hk.1.2)⟩
  have n1_ : Aside0 ((w16.setCell ⟨gb367, 0, none⟩ (.int .i64 (wrap64 ((wrap64 (x4_1 + 1)) + t368)))).heap[gb367]? = some (.cells #[.int .i64 (wrap64 ((wrap64 (x4_1 + 1)) + t368)), .int .i64 t360, .int .i64 t361, .int .i64 t362, .int .i64 t363, .int .i64 t364] 25 (0, 0))) := ⟨by (with_reducible repeat (first | refine zN ?_ _ | refine zD ?_ | refine zL ?_ _)); refine blk_put (cs := #[.int .i64 t359, .int .i64 t360, .int .i64 t361, .int .i64 t362, .int .i64 t363, .int .i64 t364]) ?_ 0 _ rfl; (with_reducible repeat (first | refine zN ?_ _ | refine zD ?_ | refine zL ?_ _)); exact BK367.out⟩
  have n2_ : Aside0 (IsS45 w0 (w16.setCell ⟨gb367, 0, none⟩ (.int .i64 (wrap64 ((wrap64 (x4_1 + 1)) + t368)))) g s0_0 t369 t370) := ⟨zq14⟩
  have n3_ : Aside0 (KeepBut w (w16.setCell ⟨gb367, 0, none⟩ (.int .i64 (wrap64 ((wrap64 (x4_1 + 1)) + t368)))) g none) := ⟨zq11⟩
  have n4_ : Aside0 (Below w0.heap.size w0 (w16.setCell ⟨gb367, 0, none⟩ (.int .i64 (wrap64 ((wrap64 (x4_1 + 1)) + t368))))) := ⟨zq15⟩
  (try clear HO_3)
  (try clear BK367)
  (try clear HI0)
  (try clear HK)
  (try clear HB)
  generalize (w16.setCell ⟨gb367, 0, none⟩ (.int .i64 (wrap64 ((wrap64 (x4_1 + 1)) + t368)))) = w19 at n0_ n1_ n2_ n3_ n4_ ⊢
  have HO_3 := n0_
  have BK367 := n1_
  have HI0 := n2_
  have HK := n3_
  have HB := n4_
  clear n0_ n1_ n2_ n3_ n4_
  have n0_ := zm (Kd.R_drew HO_3.out)
  have n1_ := zm (zD BK367.out)
  have n2_ := zm (IsS45.drew HI0.out)
  have n3_ := zm (keep_drew HK.out)
  have n4_ := zm (below_drew1 HB.out)
  clear HO_3
  clear BK367
  clear HI0
  clear HK
  clear HB
  have HO_3 := n0_
  have BK367 := n1_
  have HI0 := n2_
  have HK := n3_
  have HB := n4_
  clear n0_ n1_ n2_ n3_ n4_
  refine start_ (n := 7) (S := fun w' => w'.cell? ⟨gb367, 0, none⟩ = some (.int .i64 (wrap64 ((wrap64 (x4_1 + 1)) + t368))) ∧ w'.cell? ⟨gb367, 1, none⟩ = some (.int .i64 t360) ∧ w'.cell? ⟨gb367, 2, none⟩ = some (.int .i64 t361) ∧ w'.cell? ⟨gb367, 3, none⟩ = some (.int .i64 t362) ∧ w'.cell? ⟨gb367, 4, none⟩ = some (.int .i64 t363) ∧ w'.cell? ⟨gb367, 5, none⟩ = some (.int .i64 t364)) (ds := []) #[zf, zf, zf, zf, zf, zf, zf] (by kernel_rfl) rfl rfl (bc6 BK367.out) (fun hHeld => ?_)
  generalize w19.drew = w20 at HO_3 BK367 HI0 HK HB hHeld ⊢
  refine pure_ (i := 1) (N := some 26) (v := ?_) (a' := ?_) #[zf, zt, zf, zf, zf, zf, zf] rfl rfl (by kernel_rfl) (fun _ _ _ h => h) (Or.inl ⟨by rfl, ?_⟩) ?_ ?_
  rotate_left; · exact zqB
  rotate_left; · exact zqA
  refine take_ (i := 3) (N := some 28) (v := ?_) (a' := ?_) #[zf, zt, zf, zt, zf, zf, zf] rfl rfl (by kernel_rfl) (fun _ _ _ h => h) (Or.inl ⟨by rfl, ?_⟩) hHeld ?_ ?_
  rotate_left
  ·
   rintro w' ⟨s0, s1, s2, s3, s4, s5⟩
   go_simp
   with_reducible rfl
  rotate_left; · exact zqA
  refine join_ (σ := Value × Value × Value) 2 #[zt, zt, zt, zt, zt, zf, zf] (fun s_ => [(25, s_.1), (27, s_.2.1), (29, s_.2.2)]) (fun s_ w' => (w'.cell? ⟨gb367, 0, none⟩ = some (.int .i64 (wrap64 ((wrap64 (x4_1 + 1)) + t368))) ∧ w'.cell? ⟨gb367, 1, none⟩ = some (.int .i64 t360) ∧ w'.cell? ⟨gb367, 2, none⟩ = some (.int .i64 t361) ∧ w'.cell? ⟨gb367, 3, none⟩ = some (.int .i64 t362) ∧ w'.cell? ⟨gb367, 4, none⟩ = some (.int .i64 t363) ∧ w'.cell? ⟨gb367, 5, none⟩ = some (.int .i64 t364)) ∧ (Kd.R k25 25 w' w.heap.size (fun k_ => some k_ ≠ (s_.2.2 : Value).ownBlock ∧ some k_ ≠ (.slice Ao18 x3_1.length co18 : Value).ownBlock ∧ k_ ≠ gb367) s_.2.1 y374) ∧ (Kd.R k25 25 w' w.heap.size (fun k_ => some k_ ≠ (s_.2.1 : Value).ownBlock ∧ some k_ ≠ (.slice Ao18 x3_1.length co18 : Value).ownBlock ∧ k_ ≠ gb367) s_.2.2 y377) ∧ (Kd.R k25 25 w' w.heap.size (fun k_ => some k_ ≠ (s_.2.1 : Value).ownBlock ∧ some k_ ≠ (s_.2.2 : Value).ownBlock ∧ k_ ≠ gb367) (.slice Ao18 x3_1.length co18) x3_1) ∧ (w'.heap[gb367]? = some (.cells #[.int .i64 (wrap64 ((wrap64 (x4_1 + 1)) + t368)), .int .i64 t360, .int .i64 t361, .int .i64 t362, .int .i64 t363, .int .i64 t364] 25 (0, 0))) ∧ (IsS45 w0 w' g s0_0 t369 t370) ∧ (KeepBut w w' g none) ∧ (Below w0.heap.size w0 w')) ?_ ?_
  rotate_left
  ·
   intro hCont
   refine two_ (i := 0) (j := 4) (Ni := some 25) (Nj := some 29) #[zt, zt, zf, zt, zf, zf, zf] #[zf, zt, zf, zt, zt, zf, zf] rfl rfl rfl rfl (by kernel_rfl) (by decide) (by decide) (fun K hK => ?_) (fun K hK => ?_)
   ·
    skip
    refine Kd.R_lit_step k25 _ 25 ?hg (N := 25) ?hd (xs := ([] : List (S25))) (inner := []) (ok := fun _ => True) (okp := fun _ => True) ?hr ?hp (fun _ hk => hk) trivial (Below.refl _ _) (Nat.le_refl _) (by simp) ?_; (case hd => rfl); (case hg => rfl); (case hr => exact zqS); (case hp => exact (Reps.none _ _))
    intro v372 w21 ho22 hb hg_ hnew_
    clear hg_ hnew_
    (first | rw [← Ny371.out] at ho22 | (simp only [Int.reduceToNat] at ho22; rw [← Ny371.out] at ho22))
    have n0_ := zm (Kd.R_elder' (zqR HO_3.out) (Kd.R_base ho22) hb)
    have n1_ := zm (Kd.R_lower (Kd.R_newB (Kd.R_new' ho22 (Kd.R_lt (zqR HO_3.out))) (g := gb367) (o := .cells #[.int .i64 (wrap64 ((wrap64 (x4_1 + 1)) + t368)), .int .i64 t360, .int .i64 t361, .int .i64 t362, .int .i64 t363, .int .i64 t364] 25 (0, 0)) (zqK BK367.out)) (keep_size (w := w) (g := g) (row := none) zq11))
    have n2_ := zm (IsS45.below zq14 hb)
    have n3_ := zm (blk_below (g := gb367) (o := .cells #[.int .i64 (wrap64 ((wrap64 (x4_1 + 1)) + t368)), .int .i64 t360, .int .i64 t361, .int .i64 t362, .int .i64 t363, .int .i64 t364] 25 (0, 0)) (zqK BK367.out) hb)
    have n4_ := zm (KeepBut.trans zq11 (KeepBut.of_below hb g none) (.inl rfl))
    have n5_ := zm (below_step zq15 hb)
    clear HO_3
    clear HI0
    clear BK367
    clear HK
    clear HB
    have HO_3 := n0_
    have HO373 := n1_
    have HI0 := n2_
    have BK367 := n3_
    have HK := n4_
    have HB := n5_
    clear n0_ n1_ n2_ n3_ n4_ n5_
    clear hb ho22
    refine hK.out _ _ (bc6 BK367.out) (fun hHeld => ?_)
    clear hK K
    refine norm_ (a' := ?_) ?_ ?_
    rotate_left
    ·
     show Act.put _ (some 25) _ = _
     simp only [Act.put, List.setIfInBounds_toArray, List.set_cons_zero, List.set_cons_succ, i64_w, i32_w]
     rfl
    refine two_ (i := 2) (j := 4) (Ni := some 27) (Nj := some 29) #[zt, zt, zt, zt, zf, zf, zf] #[zt, zt, zf, zt, zt, zf, zf] rfl rfl rfl rfl (by kernel_rfl) (by decide) (by decide) (fun K hK => ?_) (fun K hK => ?_)
    ·
     skip
     refine Kd.R_append_rows_step k25 w.heap.size (by rfl) (.tmp 25) (.tmp 26) 32 25 (.agg #[(.int .i64 0), (.int .i64 0), (.int .i64 0), (.int .i64 0), (.int .i64 0), (.int .i64 0)]) 48 rfl Tryz.underlying32 info25 rfl (by decide) (by omega) v372 y371 x3_1 _ _ _ (fun k_ => some k_ ≠ (.slice Ao18 x3_1.length co18 : Value).ownBlock ∧ k_ ≠ gb367) (fun _ => False) rfl rfl ?aO ?aR (fun _ _ h => h) (fun _ h => h.elim) ?aF (Below.refl _ _) ?aS ?aL ?_
     (case aR => exact zqC (Kd.R_reads' HO_3.out).2.2)
     (case aF => exact (fun k_ hk => ⟨Kd.fresh' (Kd.R_lt (zqR HO_3.out)) k_ hk, Kd.freshB (g := gb367) (o := .cells #[.int .i64 (wrap64 ((wrap64 (x4_1 + 1)) + t368)), .int .i64 t360, .int .i64 t361, .int .i64 t362, .int .i64 t363, .int .i64 t364] 25 (0, 0)) (zqK BK367.out) k_ hk⟩))
     (case aO => exact (by (with_reducible repeat (first | apply Kd.R_alloc | apply Kd.R_drewN | apply Kd.R_drew)); exact Kd.R_mono HO373.out (fun _ hk => ⟨hk.1.2, hk.2⟩)))
     (case aS => exact (keep_size (w := w) (g := g) (row := none) zq11))
     (case aL => have := LMc9.out; omega)
     intro v375 w23 ho hb hg hat
     rw [← Ny374.out] at ho
     have n0_ := zm (Kd.R_after (ok := (fun k_ => k_ ≠ gb367)) (zqR HO_3.out) hg hat)
     have n1_ := zm (IsS45.grown zq14 hg (IsS45.own_ne HI0.out HO373.out (by decide)))
     have n2_ := zm (blk_grown (g := gb367) (o := .cells #[.int .i64 (wrap64 ((wrap64 (x4_1 + 1)) + t368)), .int .i64 t360, .int .i64 t361, .int .i64 t362, .int .i64 t363, .int .i64 t364] 25 (0, 0)) (zqK BK367.out) hg (Kd.R_away HO373.out (fun _ hk => hk.2)))
     have n3_ := zm (below_weaken zq15 HL.out hb)
     have n4_ := zm (KeepBut.trans zq11 (KeepBut.of_grown hg g) (Kd.R_base2 HO373.out))
     have n5_ := zm (ho)
     clear HO_3
     clear HI0
     clear BK367
     clear HB
     clear HK
     clear HO373
     have HO_3 := n0_
     have HI0 := n1_
     have BK367 := n2_
     have HB := n3_
     have HK := n4_
     have HO376 := n5_
     clear n0_ n1_ n2_ n3_ n4_ n5_
     clear ho hb hg hat
     refine hK.out _ _ (bc6 BK367.out) (fun hHeld => ?_)
     clear hK K
     refine norm_ (a' := ?_) ?_ ?_
     rotate_left
     ·
      show Act.put _ (some 27) _ = _
      simp only [Act.put, List.setIfInBounds_toArray, List.set_cons_zero, List.set_cons_succ, i64_w, i32_w]
      rfl
     refine one_ (i := 4) (N := some 29) #[zt, zt, zt, zt, zt, zf, zf] rfl rfl (by kernel_rfl) (by decide) (fun K hK => ?_)
     refine Kd.R_lit_step k25 _ 25 ?hg (N := 29) ?hd (xs := ([(⟨wrap64 ((wrap64 (x4_1 + 1)) + t368), t360, t361, t362, t363, t364⟩ : S25)] : List (S25))) (inner := [.int .i64 (wrap64 ((wrap64 (x4_1 + 1)) + t368)), .int .i64 t360, .int .i64 t361, .int .i64 t362, .int .i64 t363, .int .i64 t364]) (ok := fun _ => True) (okp := fun _ => True) ?hr ?hp (fun _ hk => hk) trivial (Below.refl _ _) (Nat.le_refl _) (by simp) ?_; (case hd => rfl); (case hg => rfl); (case hr => exact zqS); (case hp => exact (Reps.c6 (show Kd.M k25 _ _ _ (⟨wrap64 ((wrap64 (x4_1 + 1)) + t368), t360, t361, t362, t363, t364⟩ : S25) [.int .i64 (wrap64 ((wrap64 (x4_1 + 1)) + t368)), .int .i64 t360, .int .i64 t361, .int .i64 t362, .int .i64 t363, .int .i64 t364] from (k25_mkM _ _ _ (⟨wrap64 ((wrap64 (x4_1 + 1)) + t368), t360, t361, t362, t363, t364⟩ : S25) )) (Reps.none _ _)))
     intro v378 w24 ho25 hb hg_ hnew_
     clear hg_ hnew_
     (first | rw [← Ny377.out] at ho25 | (simp only [Int.reduceToNat] at ho25; rw [← Ny377.out] at ho25))
     have n0_ := zm (Kd.R_elder' (zqR HO_3.out) (Kd.R_base ho25) hb)
     have n1_ := zm (Kd.R_elder' (zqR HO376.out) (Kd.R_base ho25) hb)
     have n2_ := zm (Kd.R_lower (Kd.R_newB (Kd.R_new' (Kd.R_new' ho25 (Kd.R_lt (zqR HO_3.out))) (Kd.R_lt (zqR HO376.out))) (g := gb367) (o := .cells #[.int .i64 (wrap64 ((wrap64 (x4_1 + 1)) + t368)), .int .i64 t360, .int .i64 t361, .int .i64 t362, .int .i64 t363, .int .i64 t364] 25 (0, 0)) (zqK BK367.out)) (keep_size (w := w) (g := g) (row := none) zq11))
     have n3_ := zm (IsS45.below zq14 hb)
     have n4_ := zm (blk_below (g := gb367) (o := .cells #[.int .i64 (wrap64 ((wrap64 (x4_1 + 1)) + t368)), .int .i64 t360, .int .i64 t361, .int .i64 t362, .int .i64 t363, .int .i64 t364] 25 (0, 0)) (zqK BK367.out) hb)
     have n5_ := zm (KeepBut.trans zq11 (KeepBut.of_below hb g none) (.inl rfl))
     have n6_ := zm (below_step zq15 hb)
     clear HO_3
     clear HO376
     clear HI0
     clear BK367
     clear HK
     clear HB
     have HO_3 := n0_
     have HO376 := n1_
     have HO379 := n2_
     have HI0 := n3_
     have BK367 := n4_
     have HK := n5_
     have HB := n6_
     clear n0_ n1_ n2_ n3_ n4_ n5_ n6_
     clear hb ho25
     refine hK.out _ _ (bc6 BK367.out) (fun hHeld => ?_)
     clear hK K
     refine norm_ (a' := ?_) ?_ ?_
     rotate_left
     ·
      show Act.put _ (some 29) _ = _
      simp only [Act.put, List.setIfInBounds_toArray, List.set_cons_zero, List.set_cons_succ, i64_w, i32_w]
      rfl
     exact norm_ (by simp only [putAll, Act.put, List.setIfInBounds_toArray, List.set_cons_zero, List.set_cons_succ]) (hCont (v372, v375, v378) _ ⟨hHeld, (by (with_reducible repeat (first | apply Kd.R_alloc | apply Kd.R_drewN | apply Kd.R_drew)); exact Kd.R_mono HO376.out (fun _ hk => ⟨hk.2, ⟨hk.1.1, hk.1.2⟩⟩)), (by (with_reducible repeat (first | apply Kd.R_alloc | apply Kd.R_drewN | apply Kd.R_drew)); exact Kd.R_mono HO379.out (fun _ hk => ⟨hk.1.2, ⟨hk.1.1.2, hk.2⟩⟩)), (by (with_reducible repeat (first | apply Kd.R_alloc | apply Kd.R_drewN | apply Kd.R_drew)); exact Kd.R_mono HO_3.out (fun _ hk => ⟨hk.1.2, ⟨hk.2, hk.1.1⟩⟩)), (zqK BK367.out), zq14, zq11, zq15⟩)
    ·
     skip
     refine Kd.R_lit_step k25 _ 25 ?hg (N := 29) ?hd (xs := ([(⟨wrap64 ((wrap64 (x4_1 + 1)) + t368), t360, t361, t362, t363, t364⟩ : S25)] : List (S25))) (inner := [.int .i64 (wrap64 ((wrap64 (x4_1 + 1)) + t368)), .int .i64 t360, .int .i64 t361, .int .i64 t362, .int .i64 t363, .int .i64 t364]) (ok := fun _ => True) (okp := fun _ => True) ?hr ?hp (fun _ hk => hk) trivial (Below.refl _ _) (Nat.le_refl _) (by simp) ?_; (case hd => rfl); (case hg => rfl); (case hr => exact zqS); (case hp => exact (Reps.c6 (show Kd.M k25 _ _ _ (⟨wrap64 ((wrap64 (x4_1 + 1)) + t368), t360, t361, t362, t363, t364⟩ : S25) [.int .i64 (wrap64 ((wrap64 (x4_1 + 1)) + t368)), .int .i64 t360, .int .i64 t361, .int .i64 t362, .int .i64 t363, .int .i64 t364] from (k25_mkM _ _ _ (⟨wrap64 ((wrap64 (x4_1 + 1)) + t368), t360, t361, t362, t363, t364⟩ : S25) )) (Reps.none _ _)))
     intro v378 w23 ho24 hb hg_ hnew_
     clear hg_ hnew_
     (first | rw [← Ny377.out] at ho24 | (simp only [Int.reduceToNat] at ho24; rw [← Ny377.out] at ho24))
     have n0_ := zm (Kd.R_elder' (zqR HO_3.out) (Kd.R_base ho24) hb)
     have n1_ := zm (Kd.R_elder' (zqR HO373.out) (Kd.R_base ho24) hb)
     have n2_ := zm (Kd.R_lower (Kd.R_newB (Kd.R_new' (Kd.R_new' ho24 (Kd.R_lt (zqR HO_3.out))) (Kd.R_lt (zqR HO373.out))) (g := gb367) (o := .cells #[.int .i64 (wrap64 ((wrap64 (x4_1 + 1)) + t368)), .int .i64 t360, .int .i64 t361, .int .i64 t362, .int .i64 t363, .int .i64 t364] 25 (0, 0)) (zqK BK367.out)) (keep_size (w := w) (g := g) (row := none) zq11))
     have n3_ := zm (IsS45.below zq14 hb)
     have n4_ := zm (blk_below (g := gb367) (o := .cells #[.int .i64 (wrap64 ((wrap64 (x4_1 + 1)) + t368)), .int .i64 t360, .int .i64 t361, .int .i64 t362, .int .i64 t363, .int .i64 t364] 25 (0, 0)) (zqK BK367.out) hb)
     have n5_ := zm (KeepBut.trans zq11 (KeepBut.of_below hb g none) (.inl rfl))
     have n6_ := zm (below_step zq15 hb)
     clear HO_3
     clear HO373
     clear HI0
     clear BK367
     clear HK
     clear HB
     have HO_3 := n0_
     have HO373 := n1_
     have HO379 := n2_
     have HI0 := n3_
     have BK367 := n4_
     have HK := n5_
     have HB := n6_
     clear n0_ n1_ n2_ n3_ n4_ n5_ n6_
     clear hb ho24
     refine hK.out _ _ (bc6 BK367.out) (fun hHeld => ?_)
     clear hK K
     refine norm_ (a' := ?_) ?_ ?_
     rotate_left
     ·
      show Act.put _ (some 29) _ = _
      simp only [Act.put, List.setIfInBounds_toArray, List.set_cons_zero, List.set_cons_succ, i64_w, i32_w]
      rfl
     refine one_ (i := 2) (N := some 27) #[zt, zt, zt, zt, zt, zf, zf] rfl rfl (by kernel_rfl) (by decide) (fun K hK => ?_)
     refine Kd.R_append_rows_step k25 w.heap.size (by rfl) (.tmp 25) (.tmp 26) 32 25 (.agg #[(.int .i64 0), (.int .i64 0), (.int .i64 0), (.int .i64 0), (.int .i64 0), (.int .i64 0)]) 48 rfl Tryz.underlying32 info25 rfl (by decide) (by omega) v372 y371 x3_1 _ _ _ (fun k_ => some k_ ≠ (.slice Ao18 x3_1.length co18 : Value).ownBlock ∧ some k_ ≠ (v378 : Value).ownBlock ∧ k_ ≠ gb367) (fun _ => False) rfl rfl ?aO ?aR (fun _ _ h => h) (fun _ h => h.elim) ?aF (Below.refl _ _) ?aS ?aL ?_
     (case aR => exact zqC (Kd.R_reads' HO_3.out).2.2)
     (case aF => exact (fun k_ hk => ⟨Kd.fresh' (Kd.R_lt (zqR HO_3.out)) k_ hk, Kd.fresh' (Kd.R_lt (zqR HO379.out)) k_ hk, Kd.freshB (g := gb367) (o := .cells #[.int .i64 (wrap64 ((wrap64 (x4_1 + 1)) + t368)), .int .i64 t360, .int .i64 t361, .int .i64 t362, .int .i64 t363, .int .i64 t364] 25 (0, 0)) (zqK BK367.out) k_ hk⟩))
     (case aO => exact (by (with_reducible repeat (first | apply Kd.R_alloc | apply Kd.R_drewN | apply Kd.R_drew)); exact Kd.R_mono HO373.out (fun _ hk => ⟨hk.1.1.2, ⟨hk.2, hk.1.2⟩⟩)))
     (case aS => exact (keep_size (w := w) (g := g) (row := none) zq11))
     (case aL => have := LMc9.out; omega)
     intro v375 w25 ho hb hg hat
     rw [← Ny374.out] at ho
     have n0_ := zm (Kd.R_after (ok := (fun k_ => some k_ ≠ (v378 : Value).ownBlock ∧ k_ ≠ gb367)) (by (with_reducible repeat (first | apply Kd.R_alloc | apply Kd.R_drewN | apply Kd.R_drew)); exact Kd.R_mono HO_3.out (fun _ hk => ⟨⟨hk.2, hk.1.1⟩, hk.1.2⟩)) hg hat)
     have n1_ := zm (IsS45.grown zq14 hg (IsS45.own_ne HI0.out HO373.out (by decide)))
     have n2_ := zm (blk_grown (g := gb367) (o := .cells #[.int .i64 (wrap64 ((wrap64 (x4_1 + 1)) + t368)), .int .i64 t360, .int .i64 t361, .int .i64 t362, .int .i64 t363, .int .i64 t364] 25 (0, 0)) (zqK BK367.out) hg (Kd.R_away HO373.out (fun _ hk => hk.1.2)))
     have n3_ := zm (Kd.R_after (ok := (fun k_ => some k_ ≠ (.slice Ao18 x3_1.length co18 : Value).ownBlock ∧ k_ ≠ gb367)) (by (with_reducible repeat (first | apply Kd.R_alloc | apply Kd.R_drewN | apply Kd.R_drew)); exact Kd.R_mono HO379.out (fun _ hk => ⟨⟨hk.1.1.2, hk.2⟩, hk.1.2⟩)) hg hat)
     have n4_ := zm (below_weaken zq15 HL.out hb)
     have n5_ := zm (KeepBut.trans zq11 (KeepBut.of_grown hg g) (Kd.R_base2 HO373.out))
     have n6_ := zm (ho)
     clear HO_3
     clear HI0
     clear BK367
     clear HO379
     clear HB
     clear HK
     clear HO373
     have HO_3 := n0_
     have HI0 := n1_
     have BK367 := n2_
     have HO379 := n3_
     have HB := n4_
     have HK := n5_
     have HO376 := n6_
     clear n0_ n1_ n2_ n3_ n4_ n5_ n6_
     clear ho hb hg hat
     refine hK.out _ _ (bc6 BK367.out) (fun hHeld => ?_)
     clear hK K
     refine norm_ (a' := ?_) ?_ ?_
     rotate_left
     ·
      show Act.put _ (some 27) _ = _
      simp only [Act.put, List.setIfInBounds_toArray, List.set_cons_zero, List.set_cons_succ, i64_w, i32_w]
      rfl
     exact norm_ (by simp only [putAll, Act.put, List.setIfInBounds_toArray, List.set_cons_zero, List.set_cons_succ]) (hCont (v372, v375, v378) _ ⟨hHeld, zq70, (by (with_reducible repeat (first | apply Kd.R_alloc | apply Kd.R_drewN | apply Kd.R_drew)); exact Kd.R_mono HO379.out (fun _ hk => ⟨hk.2, ⟨hk.1.1, hk.1.2⟩⟩)), (by (with_reducible repeat (first | apply Kd.R_alloc | apply Kd.R_drewN | apply Kd.R_drew)); exact Kd.R_mono HO_3.out (fun _ hk => ⟨hk.2, ⟨hk.1.1, hk.1.2⟩⟩)), (zqK BK367.out), zq14, zq11, zq15⟩)
   ·
    skip
    refine Kd.R_lit_step k25 _ 25 ?hg (N := 29) ?hd (xs := ([(⟨wrap64 ((wrap64 (x4_1 + 1)) + t368), t360, t361, t362, t363, t364⟩ : S25)] : List (S25))) (inner := [.int .i64 (wrap64 ((wrap64 (x4_1 + 1)) + t368)), .int .i64 t360, .int .i64 t361, .int .i64 t362, .int .i64 t363, .int .i64 t364]) (ok := fun _ => True) (okp := fun _ => True) ?hr ?hp (fun _ hk => hk) trivial (Below.refl _ _) (Nat.le_refl _) (by simp) ?_; (case hd => rfl); (case hg => rfl); (case hr => exact zqS); (case hp => exact (Reps.c6 (show Kd.M k25 _ _ _ (⟨wrap64 ((wrap64 (x4_1 + 1)) + t368), t360, t361, t362, t363, t364⟩ : S25) [.int .i64 (wrap64 ((wrap64 (x4_1 + 1)) + t368)), .int .i64 t360, .int .i64 t361, .int .i64 t362, .int .i64 t363, .int .i64 t364] from (k25_mkM _ _ _ (⟨wrap64 ((wrap64 (x4_1 + 1)) + t368), t360, t361, t362, t363, t364⟩ : S25) )) (Reps.none _ _)))
    intro v378 w21 ho22 hb hg_ hnew_
    clear hg_ hnew_
    (first | rw [← Ny377.out] at ho22 | (simp only [Int.reduceToNat] at ho22; rw [← Ny377.out] at ho22))
    have n0_ := zm (Kd.R_elder' (zqR HO_3.out) (Kd.R_base ho22) hb)
    have n1_ := zm (Kd.R_lower (Kd.R_newB (Kd.R_new' ho22 (Kd.R_lt (zqR HO_3.out))) (g := gb367) (o := .cells #[.int .i64 (wrap64 ((wrap64 (x4_1 + 1)) + t368)), .int .i64 t360, .int .i64 t361, .int .i64 t362, .int .i64 t363, .int .i64 t364] 25 (0, 0)) (zqK BK367.out)) (keep_size (w := w) (g := g) (row := none) zq11))
    have n2_ := zm (IsS45.below zq14 hb)
    have n3_ := zm (blk_below (g := gb367) (o := .cells #[.int .i64 (wrap64 ((wrap64 (x4_1 + 1)) + t368)), .int .i64 t360, .int .i64 t361, .int .i64 t362, .int .i64 t363, .int .i64 t364] 25 (0, 0)) (zqK BK367.out) hb)
    have n4_ := zm (KeepBut.trans zq11 (KeepBut.of_below hb g none) (.inl rfl))
    have n5_ := zm (below_step zq15 hb)
    clear HO_3
    clear HI0
    clear BK367
    clear HK
    clear HB
    have HO_3 := n0_
    have HO379 := n1_
    have HI0 := n2_
    have BK367 := n3_
    have HK := n4_
    have HB := n5_
    clear n0_ n1_ n2_ n3_ n4_ n5_
    clear hb ho22
    refine hK.out _ _ (bc6 BK367.out) (fun hHeld => ?_)
    clear hK K
    refine norm_ (a' := ?_) ?_ ?_
    rotate_left
    ·
     show Act.put _ (some 29) _ = _
     simp only [Act.put, List.setIfInBounds_toArray, List.set_cons_zero, List.set_cons_succ, i64_w, i32_w]
     rfl
    refine one_ (i := 0) (N := some 25) #[zt, zt, zf, zt, zt, zf, zf] rfl rfl (by kernel_rfl) (by decide) (fun K hK => ?_)
    refine Kd.R_lit_step k25 _ 25 ?hg (N := 25) ?hd (xs := ([] : List (S25))) (inner := []) (ok := fun _ => True) (okp := fun _ => True) ?hr ?hp (fun _ hk => hk) trivial (Below.refl _ _) (Nat.le_refl _) (by simp) ?_; (case hd => rfl); (case hg => rfl); (case hr => exact zqS); (case hp => exact (Reps.none _ _))
    intro v372 w23 ho24 hb hg_ hnew_
    clear hg_ hnew_
    (first | rw [← Ny371.out] at ho24 | (simp only [Int.reduceToNat] at ho24; rw [← Ny371.out] at ho24))
    have n0_ := zm (Kd.R_elder' (zqR HO_3.out) (Kd.R_base ho24) hb)
    have n1_ := zm (Kd.R_elder' (zqR HO379.out) (Kd.R_base ho24) hb)
    have n2_ := zm (Kd.R_lower (Kd.R_newB (Kd.R_new' (Kd.R_new' ho24 (Kd.R_lt (zqR HO_3.out))) (Kd.R_lt (zqR HO379.out))) (g := gb367) (o := .cells #[.int .i64 (wrap64 ((wrap64 (x4_1 + 1)) + t368)), .int .i64 t360, .int .i64 t361, .int .i64 t362, .int .i64 t363, .int .i64 t364] 25 (0, 0)) (zqK BK367.out)) (keep_size (w := w) (g := g) (row := none) zq11))
    have n3_ := zm (IsS45.below zq14 hb)
    have n4_ := zm (blk_below (g := gb367) (o := .cells #[.int .i64 (wrap64 ((wrap64 (x4_1 + 1)) + t368)), .int .i64 t360, .int .i64 t361, .int .i64 t362, .int .i64 t363, .int .i64 t364] 25 (0, 0)) (zqK BK367.out) hb)
    have n5_ := zm (KeepBut.trans zq11 (KeepBut.of_below hb g none) (.inl rfl))
    have n6_ := zm (below_step zq15 hb)
    clear HO_3
    clear HO379
    clear HI0
    clear BK367
    clear HK
    clear HB
    have HO_3 := n0_
    have HO379 := n1_
    have HO373 := n2_
    have HI0 := n3_
    have BK367 := n4_
    have HK := n5_
    have HB := n6_
    clear n0_ n1_ n2_ n3_ n4_ n5_ n6_
    clear hb ho24
    refine hK.out _ _ (bc6 BK367.out) (fun hHeld => ?_)
    clear hK K
    refine norm_ (a' := ?_) ?_ ?_
    rotate_left
    ·
     show Act.put _ (some 25) _ = _
     simp only [Act.put, List.setIfInBounds_toArray, List.set_cons_zero, List.set_cons_succ, i64_w, i32_w]
     rfl
    refine one_ (i := 2) (N := some 27) #[zt, zt, zt, zt, zt, zf, zf] rfl rfl (by kernel_rfl) (by decide) (fun K hK => ?_)
    refine Kd.R_append_rows_step k25 w.heap.size (by rfl) (.tmp 25) (.tmp 26) 32 25 (.agg #[(.int .i64 0), (.int .i64 0), (.int .i64 0), (.int .i64 0), (.int .i64 0), (.int .i64 0)]) 48 rfl Tryz.underlying32 info25 rfl (by decide) (by omega) v372 y371 x3_1 _ _ _ (fun k_ => some k_ ≠ (.slice Ao18 x3_1.length co18 : Value).ownBlock ∧ some k_ ≠ (v378 : Value).ownBlock ∧ k_ ≠ gb367) (fun _ => False) rfl rfl ?aO ?aR (fun _ _ h => h) (fun _ h => h.elim) ?aF (Below.refl _ _) ?aS ?aL ?_
    (case aR => exact zqC (Kd.R_reads' HO_3.out).2.2)
    (case aF => exact (fun k_ hk => ⟨Kd.fresh' (Kd.R_lt (zqR HO_3.out)) k_ hk, Kd.fresh' (Kd.R_lt (zqR HO379.out)) k_ hk, Kd.freshB (g := gb367) (o := .cells #[.int .i64 (wrap64 ((wrap64 (x4_1 + 1)) + t368)), .int .i64 t360, .int .i64 t361, .int .i64 t362, .int .i64 t363, .int .i64 t364] 25 (0, 0)) (zqK BK367.out) k_ hk⟩))
    (case aO => exact (by (with_reducible repeat (first | apply Kd.R_alloc | apply Kd.R_drewN | apply Kd.R_drew)); exact Kd.R_mono HO373.out (fun _ hk => ⟨hk.1.1.2, ⟨hk.1.2, hk.2⟩⟩)))
    (case aS => exact (keep_size (w := w) (g := g) (row := none) zq11))
    (case aL => have := LMc9.out; omega)
    intro v375 w25 ho hb hg hat
    rw [← Ny374.out] at ho
    have n0_ := zm (Kd.R_after (ok := (fun k_ => some k_ ≠ (v378 : Value).ownBlock ∧ k_ ≠ gb367)) (by (with_reducible repeat (first | apply Kd.R_alloc | apply Kd.R_drewN | apply Kd.R_drew)); exact Kd.R_mono HO_3.out (fun _ hk => ⟨⟨hk.1.2, hk.1.1⟩, hk.2⟩)) hg hat)
    have n1_ := zm (IsS45.grown zq14 hg (IsS45.own_ne HI0.out HO373.out (by decide)))
    have n2_ := zm (blk_grown (g := gb367) (o := .cells #[.int .i64 (wrap64 ((wrap64 (x4_1 + 1)) + t368)), .int .i64 t360, .int .i64 t361, .int .i64 t362, .int .i64 t363, .int .i64 t364] 25 (0, 0)) (zqK BK367.out) hg (Kd.R_away HO373.out (fun _ hk => hk.2)))
    have n3_ := zm (Kd.R_after (ok := (fun k_ => some k_ ≠ (.slice Ao18 x3_1.length co18 : Value).ownBlock ∧ k_ ≠ gb367)) (by (with_reducible repeat (first | apply Kd.R_alloc | apply Kd.R_drewN | apply Kd.R_drew)); exact Kd.R_mono HO379.out (fun _ hk => ⟨⟨hk.1.1.2, hk.1.2⟩, hk.2⟩)) hg hat)
    have n4_ := zm (below_weaken zq15 HL.out hb)
    have n5_ := zm (KeepBut.trans zq11 (KeepBut.of_grown hg g) (Kd.R_base2 HO373.out))
    have n6_ := zm (ho)
    clear HO_3
    clear HI0
    clear BK367
    clear HO379
    clear HB
    clear HK
    clear HO373
    have HO_3 := n0_
    have HI0 := n1_
    have BK367 := n2_
    have HO379 := n3_
    have HB := n4_
    have HK := n5_
    have HO376 := n6_
    clear n0_ n1_ n2_ n3_ n4_ n5_ n6_
    clear ho hb hg hat
    refine hK.out _ _ (bc6 BK367.out) (fun hHeld => ?_)
    clear hK K
    refine norm_ (a' := ?_) ?_ ?_
    rotate_left
    ·
     show Act.put _ (some 27) _ = _
     simp only [Act.put, List.setIfInBounds_toArray, List.set_cons_zero, List.set_cons_succ, i64_w, i32_w]
     rfl
    exact norm_ (by simp only [putAll, Act.put, List.setIfInBounds_toArray, List.set_cons_zero, List.set_cons_succ]) (hCont (v372, v375, v378) _ ⟨hHeld, zq70, (by (with_reducible repeat (first | apply Kd.R_alloc | apply Kd.R_drewN | apply Kd.R_drew)); exact Kd.R_mono HO379.out (fun _ hk => ⟨hk.2, ⟨hk.1.1, hk.1.2⟩⟩)), (by (with_reducible repeat (first | apply Kd.R_alloc | apply Kd.R_drewN | apply Kd.R_drew)); exact Kd.R_mono HO_3.out (fun _ hk => ⟨hk.2, ⟨hk.1.1, hk.1.2⟩⟩)), (zqK BK367.out), zq14, zq11, zq15⟩)
  rintro ⟨v372, v375, v378⟩ w26 ⟨hS_, h0_, h1_, h2_, h3_, h4_, h5_, h6_⟩
  have n0_ : Aside0 (Kd.R k25 25 w26 w.heap.size (fun k_ => some k_ ≠ (v378 : Value).ownBlock ∧ some k_ ≠ (.slice Ao18 x3_1.length co18 : Value).ownBlock ∧ k_ ≠ gb367) v375 y374) := ⟨h0_⟩
  have n1_ : Aside0 (Kd.R k25 25 w26 w.heap.size (fun k_ => some k_ ≠ (v375 : Value).ownBlock ∧ some k_ ≠ (.slice Ao18 x3_1.length co18 : Value).ownBlock ∧ k_ ≠ gb367) v378 y377) := ⟨h1_⟩
  have n2_ : Aside0 (Kd.R k25 25 w26 w.heap.size (fun k_ => some k_ ≠ (v375 : Value).ownBlock ∧ some k_ ≠ (v378 : Value).ownBlock ∧ k_ ≠ gb367) (.slice Ao18 x3_1.length co18) x3_1) := ⟨h2_⟩
  have n3_ : Aside0 (w26.heap[gb367]? = some (.cells #[.int .i64 (wrap64 ((wrap64 (x4_1 + 1)) + t368)), .int .i64 t360, .int .i64 t361, .int .i64 t362, .int .i64 t363, .int .i64 t364] 25 (0, 0))) := ⟨h3_⟩
  have n4_ : Aside0 (IsS45 w0 w26 g s0_0 t369 t370) := ⟨h4_⟩
  have n5_ : Aside0 (KeepBut w w26 g none) := ⟨h5_⟩
  have n6_ : Aside0 (Below w0.heap.size w0 w26) := ⟨h6_⟩
  clear HO_3
  clear BK367
  clear HI0
  clear HK
  clear HB
  clear h0_ h1_ h2_ h3_ h4_ h5_ h6_
  have HO376 := n0_
  have HO379 := n1_
  have HO_3 := n2_
  have BK367 := n3_
  have HI0 := n4_
  have HK := n5_
  have HB := n6_
  clear n0_ n1_ n2_ n3_ n4_ n5_ n6_
  have hHeld : w26.cell? ⟨gb367, 0, none⟩ = some (.int .i64 (wrap64 ((wrap64 (x4_1 + 1)) + t368))) ∧ w26.cell? ⟨gb367, 1, none⟩ = some (.int .i64 t360) ∧ w26.cell? ⟨gb367, 2, none⟩ = some (.int .i64 t361) ∧ w26.cell? ⟨gb367, 3, none⟩ = some (.int .i64 t362) ∧ w26.cell? ⟨gb367, 4, none⟩ = some (.int .i64 t363) ∧ w26.cell? ⟨gb367, 5, none⟩ = some (.int .i64 t364) := hS_
  obtain ⟨Ao28, co28, eo28⟩ := Kd.R_slice HO379.out
  (first | subst eo28 | (injection eo28 with f1_ f2_ f3_; have f4_ := f1_.symm; have f5_ := f3_.symm; clear f1_ f2_ f3_; subst f4_; subst f5_))
  refine norm_ (a' := ?_) ?_ ?_
  rotate_left
  ·
   simp only [putAll, Act.put, List.setIfInBounds_toArray, List.set_cons_zero, List.set_cons_succ]
   rfl
  refine one_ (i := 5) (N := some 30) #[zt, zt, zt, zt, zt, zt, zf] rfl rfl (by kernel_rfl) (by decide) (fun K hK => ?_)
  refine Kd.R_append_rows_step k25 w.heap.size (by rfl) (.tmp 27) (.tmp 29) 32 25 (.agg #[(.int .i64 0), (.int .i64 0), (.int .i64 0), (.int .i64 0), (.int .i64 0), (.int .i64 0)]) 48 rfl Tryz.underlying32 info25 rfl (by decide) (by omega) v375 y374 y377 _ _ _ (fun k_ => some k_ ≠ (.slice Ao18 x3_1.length co18 : Value).ownBlock ∧ some k_ ≠ (.slice Ao28 y377.length co28 : Value).ownBlock ∧ k_ ≠ gb367) (fun _ => False) rfl rfl ?aO ?aR (fun _ _ h => h) (fun _ h => h.elim) ?aF (Below.refl _ _) ?aS ?aL ?_
  (case aR => exact zqC (Kd.R_reads' HO379.out).2.2)
  (case aF => exact (fun k_ hk => ⟨Kd.fresh' (Kd.R_lt (zqR HO_3.out)) k_ hk, Kd.fresh' (Kd.R_lt (zqR HO379.out)) k_ hk, Kd.freshB (g := gb367) (o := .cells #[.int .i64 (wrap64 ((wrap64 (x4_1 + 1)) + t368)), .int .i64 t360, .int .i64 t361, .int .i64 t362, .int .i64 t363, .int .i64 t364] 25 (0, 0)) (zqK BK367.out) k_ hk⟩))
  (case aO => exact zq70)
  (case aS => exact (keep_size (w := w) (g := g) (row := none) zq11))
  (case aL => have := LMc10.out; omega)
  intro v381 w27 ho hb hg hat
  rw [← Ny380.out] at ho
  have n0_ := zm (Kd.R_after (ok := (fun k_ => some k_ ≠ (.slice Ao28 y377.length co28 : Value).ownBlock ∧ k_ ≠ gb367)) (by (with_reducible repeat (first | apply Kd.R_alloc | apply Kd.R_drewN | apply Kd.R_drew)); exact Kd.R_mono HO_3.out (fun _ hk => ⟨⟨hk.2.1, hk.2.2⟩, hk.1⟩)) hg hat)
  have n1_ := zm (IsS45.grown zq14 hg (IsS45.own_ne HI0.out HO376.out (by decide)))
  have n2_ := zm (blk_grown (g := gb367) (o := .cells #[.int .i64 (wrap64 ((wrap64 (x4_1 + 1)) + t368)), .int .i64 t360, .int .i64 t361, .int .i64 t362, .int .i64 t363, .int .i64 t364] 25 (0, 0)) (zqK BK367.out) hg (Kd.R_away HO376.out (fun _ hk => hk.2.2)))
  have n3_ := zm (Kd.R_after (ok := (fun k_ => some k_ ≠ (.slice Ao18 x3_1.length co18 : Value).ownBlock ∧ k_ ≠ gb367)) (by (with_reducible repeat (first | apply Kd.R_alloc | apply Kd.R_drewN | apply Kd.R_drew)); exact Kd.R_mono HO379.out (fun _ hk => ⟨⟨hk.2.1, hk.2.2⟩, hk.1⟩)) hg hat)
  have n4_ := zm (below_weaken zq15 HL.out hb)
  have n5_ := zm (KeepBut.trans zq11 (KeepBut.of_grown hg g) (Kd.R_base2 HO376.out))
  have n6_ := zm (ho)
  clear HO_3
  clear HI0
  clear BK367
  clear HO379
  clear HB
  clear HK
  clear HO376
  have HO_3 := n0_
  have HI0 := n1_
  have BK367 := n2_
  have HO379 := n3_
  have HB := n4_
  have HK := n5_
  have HO382 := n6_
  clear n0_ n1_ n2_ n3_ n4_ n5_ n6_
  clear ho hb hg hat
  refine hK.out _ _ (bc6 BK367.out) (fun hHeld => ?_)
  clear hK K
  refine norm_ (a' := ?_) ?_ ?_
  rotate_left
  ·
   show Act.put _ (some 30) _ = _
   simp only [Act.put, List.setIfInBounds_toArray, List.set_cons_zero, List.set_cons_succ, i64_w, i32_w]
   rfl
  refine pure_ (i := 6) (N := some 7) (v := ?_) (a' := ?_) #[zt, zt, zt, zt, zt, zt, zt] rfl rfl (by kernel_rfl) (fun _ _ _ h => h) (Or.inl ⟨by rfl, ?_⟩) ?_ ?_
  rotate_left; · exact zqB
  rotate_left; · exact zqA
  refine done_ (by kernel_rfl) ?_
  go_upto_region 10 with (fail)
  go_cut [32] (fun v32 wc => ∃ (kq : Nat) (x32_10 : Bool), v32 = .bool x32_10 ∧ Aside0 (spec_l1Cur_warnings.j1 kq x3_1 (wrap64 ((wrap64 (x4_1 + 1)) + t368)) x5_1 y380 x32_10 s0_0 t369 t370 = some (r1, r2, r3)) ∧ Aside0 (kq ≤ k1) ∧ Aside0 (Kd.R k25 25 wc w.heap.size (fun k_ => some k_ ≠ (v381 : Value).ownBlock ∧ k_ ≠ gb367) (.slice Ao18 x3_1.length co18) x3_1) ∧ Aside0 (Kd.R k25 25 wc w.heap.size (fun k_ => some k_ ≠ ((.slice Ao18 x3_1.length co18) : Value).ownBlock ∧ k_ ≠ gb367) v381 y380) ∧ Aside0 (wc.heap[gb367]? = some (.cells #[.int .i64 (wrap64 ((wrap64 (x4_1 + 1)) + t368)), .int .i64 t360, .int .i64 t361, .int .i64 t362, .int .i64 t363, .int .i64 t364] 25 (0, 0))) ∧ Aside0 (IsS45 w0 wc g s0_0 t369 t370) ∧ Aside0 (KeepBut w wc g none) ∧ Aside0 (Below w0.heap.size w0 wc))
  case first =>
   have H := HC11.out
   clear HC11
   obtain ⟨t383, A290, H⟩ := zob H
   replace H : (spec_l1Cur_warnings.j1 k1 x3_1 (wrap64 ((wrap64 (x4_1 + 1)) + t368)) x5_1 y380 t383 s0_0 t369 t370) = some (r1, r2, r3) := H
   have A29 := zm A290
   clear A290
   have H' := zm H
   clear H
   obtain ⟨Ao30, co30, eo30⟩ := Kd.R_slice HO382.out
   subst eo30
   go_wp2_with (first | ((with_reducible refine gate_callee (f := 57) rfl ?_); refine goesL_ (some 32) rfl rfl Tryz.func57 (by kernel_rfl) rfl #[.slice Ao30 y380.length co30] rfl zq1 ?_; (with_reducible refine (spec_l14List.calls k1 _ _ y380 t383 _ ?side1 ?side2 A29.out).mono ?_); (case side1 => exact zqC (Kd.R_reads' HO382.out).2.2); (case side2 => exact (Kd.R_reads' HO382.out).2.1); rintro e w31 ⟨rfl, hb⟩; refine ⟨_, rfl, ?_⟩; replace HO_3 := zm (Kd.R_below (zqR HO_3.out) hb); replace HO379 := zm (Kd.R_below (zqR HO379.out) hb); replace HO382 := zm (Kd.R_below (zqR HO382.out) hb); replace BK367 := zm (blk_below (g := gb367) (o := .cells #[.int .i64 (wrap64 ((wrap64 (x4_1 + 1)) + t368)), .int .i64 t360, .int .i64 t361, .int .i64 t362, .int .i64 t363, .int .i64 t364] 25 (0, 0)) (zqK BK367.out) hb); replace HK := zm (KeepBut.trans zq11 (KeepBut.of_below hb g none) (.inl rfl)); replace HB := zm (below_step zq15 hb); replace HI0 := zm (IsS45.below zq14 hb); (try clear hb); (try clear hb2); (try clear hk); (try clear hi)))
   go_meet
   case rel => exact ⟨_, (t383), (by first | rfl | (simp; done) | (simp [*]; done)), H', ⟨by have := HK1.out; first | omega | exact Nat.le_refl _⟩, ⟨by (with_reducible repeat (first | apply Kd.R_alloc | apply Kd.R_drewN | apply Kd.R_drew)); exact Kd.R_mono HO_3.out (fun _ hk => ⟨hk.2, hk.1.2⟩)⟩, ⟨by (with_reducible repeat (first | apply Kd.R_alloc | apply Kd.R_drewN | apply Kd.R_drew)); exact Kd.R_mono HO382.out (fun _ hk => ⟨hk.1, hk.2.2⟩)⟩, ⟨by (with_reducible repeat (first | refine zN ?_ _ | refine zD ?_ | refine zL ?_ _)); exact BK367.out⟩, ⟨zq14⟩, ⟨zq11⟩, ⟨zq15⟩⟩
  clear HC11
  try clear c1
  try clear c2
  try clear p2
  try clear c3
  try clear c4
  try clear c5
  try clear c6
  try clear c6b0
  try clear p6
  try clear c9
  try clear c10
  try clear c14
  try clear c22
  try clear hcz15_0
  try clear hcz15_1
  try clear hcz15_2
  try clear hcz15_3
  try clear hcz15_4
  try clear hcz15_5
  try clear hcz17_0
  try clear hcz17_1
  try clear hcz17_2
  try clear hcz17_3
  try clear hcz17_4
  try clear hcz17_5
  try clear hfz15_0
  try clear hfz15_1
  try clear hfz15_2
  try clear hfz15_3
  try clear hfz15_4
  try clear hfz15_5
  try clear hfz17_0
  try clear hfz17_1
  try clear hfz17_2
  try clear hfz17_3
  try clear hfz17_4
  try clear hfz17_5
  try clear p2
  obtain ⟨kq, x32_10, rfl, HA, HJ10, HO_3, HO_7, BK367, HI0, HK, HB⟩ := hcut
  cases kq with
  | zero => exact absurd HA.out (by simp [spec_l1Cur_warnings.j1])
  | succ kj10 =>
   have H := HA.out
   clear HA
   simp only [spec_l1Cur_warnings.j1] at H
   by_cases c32 : x32_10 = true
   case pos =>
    subst c32
    have H1 : (spec_l1Cur_warnings.l0 kj10 y380 (wrap64 ((wrap64 (x4_1 + 1)) + t368)) (wrap64 (x5_1 - 1)) s0_0 t369 t370) = some (r1, r2, r3) := by rw [if_pos rfl] at H; exact H
    clear H
    have H := H1
    clear H1
    have H' := zm H
    clear H
    go_wp2
    go_roundg kj10
    case measure => have := HK1.out; have := HJ10.out; omega
    case rel => exact ⟨(y380), ((wrap64 ((wrap64 (x4_1 + 1)) + t368))), (wrap64 (x5_1 - 1)), (t369), (t370), (by first | rfl | (simp; done) | (simp [*]; done)), (by first | rfl | (simp; done) | (simp [*]; done)), H', ⟨by have := HK1.out; have := HJ10.out; omega⟩, ⟨by (with_reducible repeat (first | apply Kd.R_alloc | apply Kd.R_drewN | apply Kd.R_drew)); exact Kd.R_mono HO_7.out (fun _ hk => trivial)⟩, ⟨zq14⟩, ⟨zq11⟩, ⟨zq15⟩⟩
   replace c32 := Bool.eq_false_iff.mpr c32
   subst c32
   have H1 : (spec_l1Cur_warnings.l0 kj10 x3_1 (wrap64 ((wrap64 (x4_1 + 1)) + t368)) (wrap64 (x5_1 - 1)) s0_0 t369 t370) = some (r1, r2, r3) := by rw [if_neg (show ¬ (false = true) by decide)] at H; exact H
   clear H
   have H := H1
   clear H1
   have H' := zm H
   clear H
   go_wp2
   go_roundg kj10
   case measure => have := HK1.out; have := HJ10.out; omega
   case rel => exact ⟨(x3_1), ((wrap64 ((wrap64 (x4_1 + 1)) + t368))), (wrap64 (x5_1 - 1)), (t369), (t370), (by first | rfl | (simp; done) | (simp [*]; done)), (by first | rfl | (simp; done) | (simp [*]; done)), H', ⟨by have := HK1.out; have := HJ10.out; omega⟩, ⟨by (with_reducible repeat (first | apply Kd.R_alloc | apply Kd.R_drewN | apply Kd.R_drew)); exact Kd.R_mono HO_3.out (fun _ hk => trivial)⟩, ⟨zq14⟩, ⟨zq11⟩, ⟨zq15⟩⟩
def spec_DrawOverviewText.f (k : Nat) (l0 : List Int) : Option ((List (S25))) := (spec_l1Cur_warnings.f k l0 0 0).bind fun bt411 => (some bt411.1)
set_option maxHeartbeats 8000000 in
set_option maxRecDepth 100000 in
theorem spec_DrawOverviewText.calls (k : Nat) (A0 : Option Addr) (c0 : Nat) (l0 : List Int) (r : List (S25)) (w : World) (hr0 : Kd.C (Kd.int .u8) w A0 l0.length l0) (hc0 : l0.length ≤ c0) (h : spec_DrawOverviewText.f k l0 = some r) :
  Calls Tryz.prog 11 #[.slice A0 l0.length c0] w fun e w' => ∃ v0_ : Value, e = .returned (v0_) ∧ Kd.R k25 25 w' w.heap.size (fun _ => True) v0_ r ∧ Below w.heap.size w w' := by
 have hu45 := Tryz.underlying45
 have HR0 := zm hr0
 have HC0 := zm hc0
 clear hr0 hc0
 have HB := zm (Below.refl w.heap.size w)
 have H : ((spec_l1Cur_warnings.f k l0 0 0).bind fun bt411 => (some bt411.1)) = some r := h
 clear h
 obtain ⟨⟨t411, t414, t415⟩, A20, H⟩ := zob H
 replace H : (some t411) = some r := H
 have A2 := zm A20
 clear A20
 obtain rfl := Option.some.inj H
 go_enter Tryz.func11, Tryz.ntmps11
 go_wp2_with (first | ((with_reducible refine gate_dst (N := 6) rfl ?_); refine box_event ?hg (N := 6) ?hd (cs := #[.slice A0 l0.length c0, .int .i64 0, .int .u64 0]) (t := 45) ?hr ?_; (case hd => rfl); (case hg => rfl); (case hr => exact zqS); intro gb410 hg w3 hbox hb; have HI410 := zm ((show IsS45 w w3 gb410 l0 0 0 from ⟨_, _, hbox, (by rw [hg]; exact (below_size zq0) : w.heap.size ≤ gb410), HR0.out⟩)); have GW410 := zm ((by rw [hg]; exact (below_size zq0) : w.heap.size ≤ gb410)); replace HB := zm (below_step zq0 hb); have GE410 := GW410; clear hb hbox hg) | ((with_reducible refine gate_callee (f := 38) rfl ?_); refine goesL_ (some 8) rfl rfl Tryz.func38 (by kernel_rfl) rfl #[.pointer (some ⟨gb410, 0, none⟩)] rfl zq1 ?_; (with_reducible refine (spec_l1Cur_warnings.calls k gb410 l0 0 0 t411 t414 t415 w _ ?side1 ?side2 A2.out).mono ?_); (case side1 => exact (by repeat (first | (with_reducible first | exact HI410.out | apply IsS45.alloc | apply IsS45.drewN | apply IsS45.drew | apply IsS45.set_1 | apply IsS45.set_2) | exact HI410.out))); (case side2 => exact zq68); rintro e w4 ⟨v412, rfl, ho0, hi, hb, hk⟩; refine ⟨_, rfl, ?_⟩; have HO413 := zm (Kd.R_lower ho0 (below_size zq68)); replace HB := zm (hb); replace HI410 := zm (hi); (try clear hb); (try clear hb2); (try clear hk); (try clear hi); (try clear ho0)))
 go_ret
 exact ⟨_, by first | rfl | (simp [errW_none, errW_some] <;> rfl) | (simp [*, errW_none, errW_some] <;> rfl), zqR HO413.out, zq68⟩
end Go.Proofs.YtleadjbfcenofaaGreatDoor.Q
