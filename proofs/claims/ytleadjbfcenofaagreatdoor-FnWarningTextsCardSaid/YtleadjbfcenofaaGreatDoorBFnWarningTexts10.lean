/- Texts of this claim, put together: walks of the program's functions, and plain facts. -/
import Derived.Test.YtleadjbfcenofaaGreatDoorZFnWarningTexts
import Derived.Test.YtleadjbfcenofaaGreatDoorBFnWarningTexts0
import Derived.Test.YtleadjbfcenofaaGreatDoorBFnWarningTexts2
import Derived.Test.YtleadjbfcenofaaGreatDoorBFnWarningTexts3
namespace Go.Proofs.YtleadjbfcenofaaGreatDoor.Q
open Go.RowKit Go.Proofs.YtleadjbfcenofaaGreatDoorW.PrintWords Go.Proofs.YtleadjbfcenofaaGreatDoorW.PrintLast Go.Proofs.YtleadjbfcenofaaGreatDoorW.PrintMore
attribute [local go_sem] max2_int min2_int max_two min_two max_three min_three max_four min_four
set_option linter.unusedVariables false
set_option linter.unusedSimpArgs false
def spec_l16Overview.l0 : Nat → List (S25) → Int → Option (Bool)
 | 0, _, _ => none
 | k + 1, x0, x3 => if x3 < (x0.length : Int) then (if 0 ≤ x3 then ((spec_l14Good.f ((rd_T25 x0 x3).f0) ((rd_T25 x0 x3).f1) ((rd_T25 x0 x3).f2) ((rd_T25 x0 x3).f3) ((rd_T25 x0 x3).f4) ((rd_T25 x0 x3).f5)).bind fun t422 => (if t422 = true then (if x3 > 0 then (if 0 ≤ (wrap64 (x3 - 1)) then (if (wrap64 (x3 - 1)) < (x0.length : Int) then (if ((rd_T25 x0 (wrap64 (x3 - 1))).f0) ≥ ((rd_T25 x0 x3).f0) then (some false) else (spec_l16Overview.l0 k x0 (wrap64 (x3 + 1)))) else (none)) else (none)) else (spec_l16Overview.l0 k x0 (wrap64 (x3 + 1)))) else (some false))) else (none)) else (some (decide ((x0.length : Int) ≤ 12)))
def spec_l16Overview.f (k : Nat) (l0 : List (S25)) : Option (Bool) := spec_l16Overview.l0 k l0 0
def spec_l16Overview.T4 : Bool × List (List Nat × List Nat) := (true, [([], []), ([], []), ([0, 1], [0, 1]), ([2], [2]), ([3], [3]), ([4], [4]), ([5, 4], [5]), ([6], [6]), ([7, 6], [6, 7]), ([8, 6, 6], [6, 8]), ([9], [9]), ([9], [9]), ([11, 9], [9, 11]), ([10, 12, 9], [9, 10, 12]), ([13, 9], [9, 13]), ([14, 9], [9, 14]), ([9], [9]), ([9], [9]), ([16, 17, 9], [9, 16, 17]), ([18, 9], [9, 18]), ([19, 9], [9, 19]), ([15, 20, 9], [9, 15, 20]), ([9, 21, 6], [6, 9, 21]), ([6, 22], [6, 22])])
def spec_l16Overview.B4 : List Nat := [0, 0, 3, 7, 15, 31, 63, 127, 255, 511, 1023, 1023, 3071, 8191, 16383, 32767, 1023, 1023, 197631, 459775, 984063, 2097151, 4194303, 8388607]
theorem spec_l16Overview.tab4 : rtab .any (opsOf Tryz.f42 4) = spec_l16Overview.T4 := by kernel_rfl
theorem spec_l16Overview.bits4 : waitsOk spec_l16Overview.T4.2 spec_l16Overview.B4 = true := by kernel_rfl
set_option maxHeartbeats 8000000 in
set_option maxRecDepth 100000 in
theorem spec_l16Overview.calls (k : Nat) (A0 : Option Addr) (c0 : Nat) (l0 : List (S25)) (r : Bool) (w : World) (hr0 : Kd.C k25 w A0 l0.length l0) (hc0 : l0.length ≤ c0) (h : spec_l16Overview.f k l0 = some r) :
  Calls Tryz.prog 42 #[.slice A0 l0.length c0] w fun e w' => e = .returned (.bool r) ∧ Below w.heap.size w w' := by
 have hu25 := Tryz.underlying25
 have HR0 := zm hr0
 have HC0 := zm hc0
 clear hr0 hc0
 have HB := zm (Below.refl w.heap.size w)
 have H : (spec_l16Overview.l0 k l0 0) = some r := h
 clear h
 have H' := zm H
 clear H
 go_enter Tryz.func42, Tryz.ntmps42
 go_wp2
 go_loopg [3] k (fun kq v3 w' => ∃ (x3_1 : Int), v3 = .int .i64 x3_1 ∧ Aside0 (spec_l16Overview.l0 kq l0 x3_1 = some r) ∧ Aside0 (kq ≤ k) ∧ Aside0 (Below w.heap.size w w'))
 case atStart => exact ⟨(0), (by first | rfl | (simp; done) | (simp [*]; done)), H', ⟨Nat.le_refl _⟩, ⟨zq0⟩⟩
 clear H'
 obtain ⟨x3_1, rfl, HA, HK1, HB⟩ := hrel
 cases gk with
 | zero => exact absurd HA.out (by simp [spec_l16Overview.l0])
 | succ k1 =>
  have H := HA.out
  clear HA
  simp only [spec_l16Overview.l0] at H
  by_cases c2 : x3_1 < (l0.length : Int)
  case neg =>
   rw [if_neg c2] at H
   have c2b0 : decide (x3_1 < (l0.length : Int)) = false := decide_eq_false c2
   clear c2
   obtain rfl := Option.some.inj H
   go_wp2
   go_ret
   exact ⟨zqE, zq0⟩
  rw [if_pos c2] at H
  have c2b0 : decide (x3_1 < (l0.length : Int)) = true := decide_eq_true c2
  clear c2
  by_cases c3 : 0 ≤ x3_1
  case neg =>
   rw [if_neg c3] at H
   exact absurd H (by simp)
  rw [if_pos c3] at H
  have c3b0 : decide (0 ≤ x3_1) = true := decide_eq_true c3
  clear c3
  obtain ⟨t422, A40, H⟩ := zob H
  replace H : (if t422 = true then (if x3_1 > 0 then (if 0 ≤ (wrap64 (x3_1 - 1)) then (if (wrap64 (x3_1 - 1)) < (l0.length : Int) then (if ((rd_T25 l0 (wrap64 (x3_1 - 1))).f0) ≥ ((rd_T25 l0 x3_1).f0) then (some false) else (spec_l16Overview.l0 k1 l0 (wrap64 (x3_1 + 1)))) else (none)) else (none)) else (spec_l16Overview.l0 k1 l0 (wrap64 (x3_1 + 1)))) else (some false)) = some r := H
  have A4 := zm A40
  clear A40
  by_cases c5 : t422 = true
  case neg =>
   replace c5 := Bool.eq_false_iff.mpr c5
   subst c5
   have H1 : (some false) = some r := by rw [if_neg (show ¬ (false = true) by decide)] at H; exact H
   clear H
   have H := H1
   clear H1
   obtain rfl := Option.some.inj H
   try go_wp2
   have n0_ := zm (below_drew1 HB.out)
   clear HB
   have HB := n0_
   clear n0_
   have p421 : 0 ≤ (x3_1 : Int) := of_decide_eq_true zq8
   have q421 : x3_1 < (l0.length : Int) := of_decide_eq_true zq8
   obtain ⟨ad421, e421, hx421_0, hx421_1, hx421_2, hx421_3, hx421_4, hx421_5⟩ := at_T25 HR0.out x3_1 p421 q421
   have hw421_5 := hx421_5
   have hw421_4 := hx421_4
   have hw421_3 := hx421_3
   have hw421_2 := hx421_2
   have hw421_1 := hx421_1
   have hw421_0 := hx421_0
   cases e421
   replace hx421_0 := bx HB.out hx421_0
   replace hx421_1 := bx HB.out hx421_1
   replace hx421_2 := bx HB.out hx421_2
   replace hx421_3 := bx HB.out hx421_3
   replace hx421_4 := bx HB.out hx421_4
   replace hx421_5 := bx HB.out hx421_5
   replace p421 := eq_true p421
   replace q421 := eq_true q421
   refine start_ (n := 24) (S := fun w' => w'.cell? (ad421.add ((x3_1).toNat * 6)) = some (.int .i64 ((rd_T25 l0 x3_1).f0)) ∧ w'.cell? ⟨(ad421.add ((x3_1).toNat * 6)).block, (ad421.add ((x3_1).toNat * 6)).off + 1, none⟩ = some (.int .i64 ((rd_T25 l0 x3_1).f1)) ∧ w'.cell? ⟨(ad421.add ((x3_1).toNat * 6)).block, (ad421.add ((x3_1).toNat * 6)).off + 2, none⟩ = some (.int .i64 ((rd_T25 l0 x3_1).f2)) ∧ w'.cell? ⟨(ad421.add ((x3_1).toNat * 6)).block, (ad421.add ((x3_1).toNat * 6)).off + 3, none⟩ = some (.int .i64 ((rd_T25 l0 x3_1).f3)) ∧ w'.cell? ⟨(ad421.add ((x3_1).toNat * 6)).block, (ad421.add ((x3_1).toNat * 6)).off + 4, none⟩ = some (.int .i64 ((rd_T25 l0 x3_1).f4)) ∧ w'.cell? ⟨(ad421.add ((x3_1).toNat * 6)).block, (ad421.add ((x3_1).toNat * 6)).off + 5, none⟩ = some (.int .i64 ((rd_T25 l0 x3_1).f5))) (ds := []) #[zf, zf, zf, zf, zf, zf, zf, zf, zf, zf, zf, zf, zf, zf, zf, zf, zf, zf, zf, zf, zf, zf, zf, zf] (by kernel_rfl) rfl rfl ⟨(zx HB.out hw421_0), (zx HB.out hw421_1), (zx HB.out hw421_2), (zx HB.out hw421_3), (zx HB.out hw421_4), (zx HB.out hw421_5)⟩ (fun hHeld => ?_); refine with_tabW spec_l16Overview.tab4 spec_l16Overview.bits4 (fun HT_ HW_ => ?_)
   generalize wr.drew = w17 at HB hx421_0 hx421_1 hx421_2 hx421_3 hx421_4 hx421_5 hHeld ⊢
   refine zP 0 (some 10) #[zt, zf, zf, zf, zf, zf, zf, zf, zf, zf, zf, zf, zf, zf, zf, zf, zf, zf, zf, zf, zf, zf, zf, zf] ?_ rfl rfl HT_ (Or.inl ⟨by rfl, ?_⟩) ?_ ?_ ?_
   rotate_left; · exact zqB
   rotate_left; · exact zqA
   refine zP 1 (some 11) #[zt, zt, zf, zf, zf, zf, zf, zf, zf, zf, zf, zf, zf, zf, zf, zf, zf, zf, zf, zf, zf, zf, zf, zf] ?_ rfl rfl HT_ (Or.inl ⟨by rfl, ?_⟩) ?_ ?_ ?_
   rotate_left; · exact zqB
   rotate_left; · exact zqA
   refine zP 2 (some 12) #[zt, zt, zt, zf, zf, zf, zf, zf, zf, zf, zf, zf, zf, zf, zf, zf, zf, zf, zf, zf, zf, zf, zf, zf] ?_ rfl rfl HT_ (Or.inl ⟨by rfl, ?_⟩) ?_ ?_ ?_
   rotate_left; · exact zqB
   rotate_left; · exact zqA
   refine zT 3 (some 13) #[zt, zt, zt, zt, zf, zf, zf, zf, zf, zf, zf, zf, zf, zf, zf, zf, zf, zf, zf, zf, zf, zf, zf, zf] ?_ rfl rfl HT_ HW_ (Or.inl ⟨by rfl, ?_⟩) hHeld ?_ ?_ ?_
   rotate_left
   ·
    rintro w' ⟨s0, s1, s2, s3, s4, s5⟩
    go_simp
    with_reducible rfl
   rotate_left; · exact zqA
   refine one_ (i := 4) (N := some 14) #[zt, zt, zt, zt, zt, zf, zf, zf, zf, zf, zf, zf, zf, zf, zf, zf, zf, zf, zf, zf, zf, zf, zf, zf] rfl rfl (one_of HT_.out (by kernel_rfl)) (by decide) (fun K hK => ?_)
   refine goes_ Tryz.func25 (by kernel_rfl) rfl #[.agg #[.int .i64 ((rd_T25 l0 x3_1).f0), .int .i64 ((rd_T25 l0 x3_1).f1), .int .i64 ((rd_T25 l0 x3_1).f2), .int .i64 ((rd_T25 l0 x3_1).f3), .int .i64 ((rd_T25 l0 x3_1).f4), .int .i64 ((rd_T25 l0 x3_1).f5)]] (by rfl) rfl rfl zq1 ?_
   with_reducible refine (spec_l14Good.calls ((rd_T25 l0 x3_1).f0) ((rd_T25 l0 x3_1).f1) ((rd_T25 l0 x3_1).f2) ((rd_T25 l0 x3_1).f3) ((rd_T25 l0 x3_1).f4) ((rd_T25 l0 x3_1).f5) false _ A4.out).mono ?_
   rintro e w18 ⟨rfl, hb⟩
   refine ⟨_, rfl, ?_⟩
   have n0_ := zm (below_step zq0 hb)
   clear HB
   have HB := n0_
   clear n0_
   (try clear hb)
   (try clear hb2)
   (try clear hk)
   (try clear hi)
   refine hK.out _ _ ⟨(zx HB.out hw421_0), (zx HB.out hw421_1), (zx HB.out hw421_2), (zx HB.out hw421_3), (zx HB.out hw421_4), (zx HB.out hw421_5)⟩ (fun hHeld => ?_)
   clear hK K
   refine norm_ (a' := ?_) ?_ ?_
   rotate_left
   ·
    show Act.put _ (some 14) _ = _
    simp only [Act.put, List.setIfInBounds_toArray, List.set_cons_zero, List.set_cons_succ, i64_w, i32_w]
    rfl
   refine zP 5 (some 15) #[zt, zt, zt, zt, zt, zt, zf, zf, zf, zf, zf, zf, zf, zf, zf, zf, zf, zf, zf, zf, zf, zf, zf, zf] ?_ rfl rfl HT_ (Or.inl ⟨by rfl, ?_⟩) ?_ ?_ ?_
   rotate_left; · exact zqB
   rotate_left; · exact zqA
   refine zP 6 (some 16) #[zt, zt, zt, zt, zt, zt, zt, zf, zf, zf, zf, zf, zf, zf, zf, zf, zf, zf, zf, zf, zf, zf, zf, zf] ?_ rfl rfl HT_ (Or.inl ⟨by rfl, ?_⟩) ?_ ?_ ?_
   rotate_left; · exact zqB
   rotate_left; · exact zqA
   refine pure_ (i := 7) (N := some 17) (v := undef) (a' := ?_) #[zt, zt, zt, zt, zt, zt, zt, zt, zf, zf, zf, zf, zf, zf, zf, zf, zf, zf, zf, zf, zf, zf, zf, zf] rfl rfl (any_of HT_.out (by kernel_rfl)) (fun _ _ _ h => h) (Or.inr ⟨by rfl, rfl⟩) ?_ ?_
   rotate_left; · exact zqA
   refine pure_ (i := 8) (N := some 18) (v := undef) (a' := ?_) #[zt, zt, zt, zt, zt, zt, zt, zt, zt, zf, zf, zf, zf, zf, zf, zf, zf, zf, zf, zf, zf, zf, zf, zf] rfl rfl (any_of HT_.out (by kernel_rfl)) (fun _ _ _ h => h) (Or.inr ⟨by rfl, rfl⟩) ?_ ?_
   rotate_left; · exact zqA
   refine pure_ (i := 9) (N := some 19) (v := undef) (a' := ?_) #[zt, zt, zt, zt, zt, zt, zt, zt, zt, zt, zf, zf, zf, zf, zf, zf, zf, zf, zf, zf, zf, zf, zf, zf] rfl rfl (any_of HT_.out (by kernel_rfl)) (fun _ _ _ h => h) (Or.inr ⟨by rfl, rfl⟩) ?_ ?_
   rotate_left; · exact zqA
   refine pure_ (i := 10) (N := some 20) (v := undef) (a' := ?_) #[zt, zt, zt, zt, zt, zt, zt, zt, zt, zt, zt, zf, zf, zf, zf, zf, zf, zf, zf, zf, zf, zf, zf, zf] rfl rfl (any_of HT_.out (by kernel_rfl)) (fun _ _ _ h => h) (Or.inr ⟨by rfl, rfl⟩) ?_ ?_
   rotate_left; · exact zqA
   refine pure_ (i := 11) (N := some 21) (v := undef) (a' := ?_) #[zt, zt, zt, zt, zt, zt, zt, zt, zt, zt, zt, zt, zf, zf, zf, zf, zf, zf, zf, zf, zf, zf, zf, zf] rfl rfl (any_of HT_.out (by kernel_rfl)) (fun _ _ _ h => h) (Or.inr ⟨by rfl, rfl⟩) ?_ ?_
   rotate_left; · exact zqA
   refine pure_ (i := 12) (N := some 22) (v := undef) (a' := ?_) #[zt, zt, zt, zt, zt, zt, zt, zt, zt, zt, zt, zt, zt, zf, zf, zf, zf, zf, zf, zf, zf, zf, zf, zf] rfl rfl (any_of HT_.out (by kernel_rfl)) (fun _ _ _ h => h) (Or.inr ⟨by rfl, rfl⟩) ?_ ?_
   rotate_left; · exact zqA
   refine pure_ (i := 13) (N := some 23) (v := undef) (a' := ?_) #[zt, zt, zt, zt, zt, zt, zt, zt, zt, zt, zt, zt, zt, zt, zf, zf, zf, zf, zf, zf, zf, zf, zf, zf] rfl rfl (any_of HT_.out (by kernel_rfl)) (fun _ _ _ h => h) (Or.inr ⟨by rfl, rfl⟩) ?_ ?_
   rotate_left; · exact zqA
   refine pure_ (i := 14) (N := some 24) (v := undef) (a' := ?_) #[zt, zt, zt, zt, zt, zt, zt, zt, zt, zt, zt, zt, zt, zt, zt, zf, zf, zf, zf, zf, zf, zf, zf, zf] rfl rfl (any_of HT_.out (by kernel_rfl)) (fun _ _ _ h => h) (Or.inr ⟨by rfl, rfl⟩) ?_ ?_
   rotate_left; · exact zqA
   refine pure_ (i := 15) (N := some 25) (v := undef) (a' := ?_) #[zt, zt, zt, zt, zt, zt, zt, zt, zt, zt, zt, zt, zt, zt, zt, zt, zf, zf, zf, zf, zf, zf, zf, zf] rfl rfl (any_of HT_.out (by kernel_rfl)) (fun _ _ _ h => h) (Or.inr ⟨by rfl, rfl⟩) ?_ ?_
   rotate_left; · exact zqA
   refine pure_ (i := 16) (N := some 26) (v := undef) (a' := ?_) #[zt, zt, zt, zt, zt, zt, zt, zt, zt, zt, zt, zt, zt, zt, zt, zt, zt, zf, zf, zf, zf, zf, zf, zf] rfl rfl (any_of HT_.out (by kernel_rfl)) (fun _ _ _ h => h) (Or.inr ⟨by rfl, rfl⟩) ?_ ?_
   rotate_left; · exact zqA
   refine pure_ (i := 17) (N := some 27) (v := undef) (a' := ?_) #[zt, zt, zt, zt, zt, zt, zt, zt, zt, zt, zt, zt, zt, zt, zt, zt, zt, zt, zf, zf, zf, zf, zf, zf] rfl rfl (any_of HT_.out (by kernel_rfl)) (fun _ _ _ h => h) (Or.inr ⟨by rfl, rfl⟩) ?_ ?_
   rotate_left; · exact zqA
   refine pure_ (i := 18) (N := some 28) (v := undef) (a' := ?_) #[zt, zt, zt, zt, zt, zt, zt, zt, zt, zt, zt, zt, zt, zt, zt, zt, zt, zt, zt, zf, zf, zf, zf, zf] rfl rfl (any_of HT_.out (by kernel_rfl)) (fun _ _ _ h => h) (Or.inr ⟨by rfl, rfl⟩) ?_ ?_
   rotate_left; · exact zqA
   refine pure_ (i := 19) (N := some 29) (v := undef) (a' := ?_) #[zt, zt, zt, zt, zt, zt, zt, zt, zt, zt, zt, zt, zt, zt, zt, zt, zt, zt, zt, zt, zf, zf, zf, zf] rfl rfl (any_of HT_.out (by kernel_rfl)) (fun _ _ _ h => h) (Or.inr ⟨by rfl, rfl⟩) ?_ ?_
   rotate_left; · exact zqA
   refine pure_ (i := 20) (N := some 30) (v := undef) (a' := ?_) #[zt, zt, zt, zt, zt, zt, zt, zt, zt, zt, zt, zt, zt, zt, zt, zt, zt, zt, zt, zt, zt, zf, zf, zf] rfl rfl (any_of HT_.out (by kernel_rfl)) (fun _ _ _ h => h) (Or.inr ⟨by rfl, rfl⟩) ?_ ?_
   rotate_left; · exact zqA
   refine pure_ (i := 21) (N := some 31) (v := undef) (a' := ?_) #[zt, zt, zt, zt, zt, zt, zt, zt, zt, zt, zt, zt, zt, zt, zt, zt, zt, zt, zt, zt, zt, zt, zf, zf] rfl rfl (any_of HT_.out (by kernel_rfl)) (fun _ _ _ h => h) (Or.inr ⟨by rfl, rfl⟩) ?_ ?_
   rotate_left; · exact zqA
   refine pure_ (i := 22) (N := some 32) (v := undef) (a' := ?_) #[zt, zt, zt, zt, zt, zt, zt, zt, zt, zt, zt, zt, zt, zt, zt, zt, zt, zt, zt, zt, zt, zt, zt, zf] rfl rfl (any_of HT_.out (by kernel_rfl)) (fun _ _ _ h => h) (Or.inr ⟨by rfl, rfl⟩) ?_ ?_
   rotate_left; · exact zqA
   refine zP 23 (some 33) #[zt, zt, zt, zt, zt, zt, zt, zt, zt, zt, zt, zt, zt, zt, zt, zt, zt, zt, zt, zt, zt, zt, zt, zt] ?_ rfl rfl HT_ (Or.inl ⟨by rfl, ?_⟩) ?_ ?_ ?_
   rotate_left; · exact zqB
   rotate_left; · exact zqA
   refine done_ (done_of HT_.out (by kernel_rfl)) ?_
   try go_wp2
   go_ret
   exact ⟨zqE, zq0⟩
  subst c5
  have H1 : (if x3_1 > 0 then (if 0 ≤ (wrap64 (x3_1 - 1)) then (if (wrap64 (x3_1 - 1)) < (l0.length : Int) then (if ((rd_T25 l0 (wrap64 (x3_1 - 1))).f0) ≥ ((rd_T25 l0 x3_1).f0) then (some false) else (spec_l16Overview.l0 k1 l0 (wrap64 (x3_1 + 1)))) else (none)) else (none)) else (spec_l16Overview.l0 k1 l0 (wrap64 (x3_1 + 1)))) = some r := by rw [if_pos rfl] at H; exact H
  clear H
  have H := H1
  clear H1
  by_cases c6 : x3_1 > 0
  case neg =>
   rw [if_neg c6] at H
   have c6b0 : decide (0 < x3_1) = false := decide_eq_false c6
   clear c6
   have H' := zm H
   clear H
   try go_wp2
   have n0_ := zm (below_drew1 HB.out)
   clear HB
   have HB := n0_
   clear n0_
   have p421 : 0 ≤ (x3_1 : Int) := of_decide_eq_true zq8
   have q421 : x3_1 < (l0.length : Int) := of_decide_eq_true zq8
   obtain ⟨ad421, e421, hx421_0, hx421_1, hx421_2, hx421_3, hx421_4, hx421_5⟩ := at_T25 HR0.out x3_1 p421 q421
   have hw421_5 := hx421_5
   have hw421_4 := hx421_4
   have hw421_3 := hx421_3
   have hw421_2 := hx421_2
   have hw421_1 := hx421_1
   have hw421_0 := hx421_0
   cases e421
   replace hx421_0 := bx HB.out hx421_0
   replace hx421_1 := bx HB.out hx421_1
   replace hx421_2 := bx HB.out hx421_2
   replace hx421_3 := bx HB.out hx421_3
   replace hx421_4 := bx HB.out hx421_4
   replace hx421_5 := bx HB.out hx421_5
   replace p421 := eq_true p421
   replace q421 := eq_true q421
   refine start_ (n := 24) (S := fun w' => w'.cell? (ad421.add ((x3_1).toNat * 6)) = some (.int .i64 ((rd_T25 l0 x3_1).f0)) ∧ w'.cell? ⟨(ad421.add ((x3_1).toNat * 6)).block, (ad421.add ((x3_1).toNat * 6)).off + 1, none⟩ = some (.int .i64 ((rd_T25 l0 x3_1).f1)) ∧ w'.cell? ⟨(ad421.add ((x3_1).toNat * 6)).block, (ad421.add ((x3_1).toNat * 6)).off + 2, none⟩ = some (.int .i64 ((rd_T25 l0 x3_1).f2)) ∧ w'.cell? ⟨(ad421.add ((x3_1).toNat * 6)).block, (ad421.add ((x3_1).toNat * 6)).off + 3, none⟩ = some (.int .i64 ((rd_T25 l0 x3_1).f3)) ∧ w'.cell? ⟨(ad421.add ((x3_1).toNat * 6)).block, (ad421.add ((x3_1).toNat * 6)).off + 4, none⟩ = some (.int .i64 ((rd_T25 l0 x3_1).f4)) ∧ w'.cell? ⟨(ad421.add ((x3_1).toNat * 6)).block, (ad421.add ((x3_1).toNat * 6)).off + 5, none⟩ = some (.int .i64 ((rd_T25 l0 x3_1).f5))) (ds := []) #[zf, zf, zf, zf, zf, zf, zf, zf, zf, zf, zf, zf, zf, zf, zf, zf, zf, zf, zf, zf, zf, zf, zf, zf] (by kernel_rfl) rfl rfl ⟨(zx HB.out hw421_0), (zx HB.out hw421_1), (zx HB.out hw421_2), (zx HB.out hw421_3), (zx HB.out hw421_4), (zx HB.out hw421_5)⟩ (fun hHeld => ?_); refine with_tabW spec_l16Overview.tab4 spec_l16Overview.bits4 (fun HT_ HW_ => ?_)
   generalize wr.drew = w15 at HB hx421_0 hx421_1 hx421_2 hx421_3 hx421_4 hx421_5 hHeld ⊢
   refine zP 0 (some 10) #[zt, zf, zf, zf, zf, zf, zf, zf, zf, zf, zf, zf, zf, zf, zf, zf, zf, zf, zf, zf, zf, zf, zf, zf] ?_ rfl rfl HT_ (Or.inl ⟨by rfl, ?_⟩) ?_ ?_ ?_
   rotate_left; · exact zqB
   rotate_left; · exact zqA
   refine zP 1 (some 11) #[zt, zt, zf, zf, zf, zf, zf, zf, zf, zf, zf, zf, zf, zf, zf, zf, zf, zf, zf, zf, zf, zf, zf, zf] ?_ rfl rfl HT_ (Or.inl ⟨by rfl, ?_⟩) ?_ ?_ ?_
   rotate_left; · exact zqB
   rotate_left; · exact zqA
   refine zP 2 (some 12) #[zt, zt, zt, zf, zf, zf, zf, zf, zf, zf, zf, zf, zf, zf, zf, zf, zf, zf, zf, zf, zf, zf, zf, zf] ?_ rfl rfl HT_ (Or.inl ⟨by rfl, ?_⟩) ?_ ?_ ?_
   rotate_left; · exact zqB
   rotate_left; · exact zqA
   refine zT 3 (some 13) #[zt, zt, zt, zt, zf, zf, zf, zf, zf, zf, zf, zf, zf, zf, zf, zf, zf, zf, zf, zf, zf, zf, zf, zf] ?_ rfl rfl HT_ HW_ (Or.inl ⟨by rfl, ?_⟩) hHeld ?_ ?_ ?_
   rotate_left
   ·
    rintro w' ⟨s0, s1, s2, s3, s4, s5⟩
    go_simp
    with_reducible rfl
   rotate_left; · exact zqA
   refine one_ (i := 4) (N := some 14) #[zt, zt, zt, zt, zt, zf, zf, zf, zf, zf, zf, zf, zf, zf, zf, zf, zf, zf, zf, zf, zf, zf, zf, zf] rfl rfl (one_of HT_.out (by kernel_rfl)) (by decide) (fun K hK => ?_)
   refine goes_ Tryz.func25 (by kernel_rfl) rfl #[.agg #[.int .i64 ((rd_T25 l0 x3_1).f0), .int .i64 ((rd_T25 l0 x3_1).f1), .int .i64 ((rd_T25 l0 x3_1).f2), .int .i64 ((rd_T25 l0 x3_1).f3), .int .i64 ((rd_T25 l0 x3_1).f4), .int .i64 ((rd_T25 l0 x3_1).f5)]] (by rfl) rfl rfl zq1 ?_
   with_reducible refine (spec_l14Good.calls ((rd_T25 l0 x3_1).f0) ((rd_T25 l0 x3_1).f1) ((rd_T25 l0 x3_1).f2) ((rd_T25 l0 x3_1).f3) ((rd_T25 l0 x3_1).f4) ((rd_T25 l0 x3_1).f5) true _ A4.out).mono ?_
   rintro e w16 ⟨rfl, hb⟩
   refine ⟨_, rfl, ?_⟩
   have n0_ := zm (below_step zq0 hb)
   clear HB
   have HB := n0_
   clear n0_
   (try clear hb)
   (try clear hb2)
   (try clear hk)
   (try clear hi)
   refine hK.out _ _ ⟨(zx HB.out hw421_0), (zx HB.out hw421_1), (zx HB.out hw421_2), (zx HB.out hw421_3), (zx HB.out hw421_4), (zx HB.out hw421_5)⟩ (fun hHeld => ?_)
   clear hK K
   refine norm_ (a' := ?_) ?_ ?_
   rotate_left
   ·
    show Act.put _ (some 14) _ = _
    simp only [Act.put, List.setIfInBounds_toArray, List.set_cons_zero, List.set_cons_succ, i64_w, i32_w]
    rfl
   refine zP 5 (some 15) #[zt, zt, zt, zt, zt, zt, zf, zf, zf, zf, zf, zf, zf, zf, zf, zf, zf, zf, zf, zf, zf, zf, zf, zf] ?_ rfl rfl HT_ (Or.inl ⟨by rfl, ?_⟩) ?_ ?_ ?_
   rotate_left; · exact zqB
   rotate_left; · exact zqA
   refine zP 6 (some 16) #[zt, zt, zt, zt, zt, zt, zt, zf, zf, zf, zf, zf, zf, zf, zf, zf, zf, zf, zf, zf, zf, zf, zf, zf] ?_ rfl rfl HT_ (Or.inl ⟨by rfl, ?_⟩) ?_ ?_ ?_
   rotate_left; · exact zqB
   rotate_left; · exact zqA
   refine zP 7 (some 17) #[zt, zt, zt, zt, zt, zt, zt, zt, zf, zf, zf, zf, zf, zf, zf, zf, zf, zf, zf, zf, zf, zf, zf, zf] ?_ rfl rfl HT_ (Or.inl ⟨by rfl, ?_⟩) ?_ ?_ ?_
   rotate_left; · exact zqB
   rotate_left; · exact zqA
   refine zP 8 (some 18) #[zt, zt, zt, zt, zt, zt, zt, zt, zt, zf, zf, zf, zf, zf, zf, zf, zf, zf, zf, zf, zf, zf, zf, zf] ?_ rfl rfl HT_ (Or.inl ⟨by rfl, ?_⟩) ?_ ?_ ?_
   rotate_left; · exact zqB
   rotate_left; · exact zqA
   refine zP 9 (some 19) #[zt, zt, zt, zt, zt, zt, zt, zt, zt, zt, zf, zf, zf, zf, zf, zf, zf, zf, zf, zf, zf, zf, zf, zf] ?_ rfl rfl HT_ (Or.inl ⟨by rfl, ?_⟩) ?_ ?_ ?_
   rotate_left; · exact zqB
   rotate_left; · exact zqA
   refine pure_ (i := 10) (N := some 20) (v := undef) (a' := ?_) #[zt, zt, zt, zt, zt, zt, zt, zt, zt, zt, zt, zf, zf, zf, zf, zf, zf, zf, zf, zf, zf, zf, zf, zf] rfl rfl (any_of HT_.out (by kernel_rfl)) (fun _ _ _ h => h) (Or.inr ⟨by rfl, rfl⟩) ?_ ?_
   rotate_left; · exact zqA
   refine pure_ (i := 11) (N := some 21) (v := undef) (a' := ?_) #[zt, zt, zt, zt, zt, zt, zt, zt, zt, zt, zt, zt, zf, zf, zf, zf, zf, zf, zf, zf, zf, zf, zf, zf] rfl rfl (any_of HT_.out (by kernel_rfl)) (fun _ _ _ h => h) (Or.inr ⟨by rfl, rfl⟩) ?_ ?_
   rotate_left; · exact zqA
   refine pure_ (i := 12) (N := some 22) (v := undef) (a' := ?_) #[zt, zt, zt, zt, zt, zt, zt, zt, zt, zt, zt, zt, zt, zf, zf, zf, zf, zf, zf, zf, zf, zf, zf, zf] rfl rfl (any_of HT_.out (by kernel_rfl)) (fun _ _ _ h => h) (Or.inr ⟨by rfl, rfl⟩) ?_ ?_
   rotate_left; · exact zqA
   refine pure_ (i := 13) (N := some 23) (v := undef) (a' := ?_) #[zt, zt, zt, zt, zt, zt, zt, zt, zt, zt, zt, zt, zt, zt, zf, zf, zf, zf, zf, zf, zf, zf, zf, zf] rfl rfl (any_of HT_.out (by kernel_rfl)) (fun _ _ _ h => h) (Or.inr ⟨by rfl, rfl⟩) ?_ ?_
   rotate_left; · exact zqA
   refine pure_ (i := 14) (N := some 24) (v := undef) (a' := ?_) #[zt, zt, zt, zt, zt, zt, zt, zt, zt, zt, zt, zt, zt, zt, zt, zf, zf, zf, zf, zf, zf, zf, zf, zf] rfl rfl (any_of HT_.out (by kernel_rfl)) (fun _ _ _ h => h) (Or.inr ⟨by rfl, rfl⟩) ?_ ?_
   rotate_left; · exact zqA
   refine pure_ (i := 15) (N := some 25) (v := undef) (a' := ?_) #[zt, zt, zt, zt, zt, zt, zt, zt, zt, zt, zt, zt, zt, zt, zt, zt, zf, zf, zf, zf, zf, zf, zf, zf] rfl rfl (any_of HT_.out (by kernel_rfl)) (fun _ _ _ h => h) (Or.inr ⟨by rfl, rfl⟩) ?_ ?_
   rotate_left; · exact zqA
   refine pure_ (i := 16) (N := some 26) (v := undef) (a' := ?_) #[zt, zt, zt, zt, zt, zt, zt, zt, zt, zt, zt, zt, zt, zt, zt, zt, zt, zf, zf, zf, zf, zf, zf, zf] rfl rfl (any_of HT_.out (by kernel_rfl)) (fun _ _ _ h => h) (Or.inr ⟨by rfl, rfl⟩) ?_ ?_
   rotate_left; · exact zqA
   refine pure_ (i := 17) (N := some 27) (v := undef) (a' := ?_) #[zt, zt, zt, zt, zt, zt, zt, zt, zt, zt, zt, zt, zt, zt, zt, zt, zt, zt, zf, zf, zf, zf, zf, zf] rfl rfl (any_of HT_.out (by kernel_rfl)) (fun _ _ _ h => h) (Or.inr ⟨by rfl, rfl⟩) ?_ ?_
   rotate_left; · exact zqA
   refine pure_ (i := 18) (N := some 28) (v := undef) (a' := ?_) #[zt, zt, zt, zt, zt, zt, zt, zt, zt, zt, zt, zt, zt, zt, zt, zt, zt, zt, zt, zf, zf, zf, zf, zf] rfl rfl (any_of HT_.out (by kernel_rfl)) (fun _ _ _ h => h) (Or.inr ⟨by rfl, rfl⟩) ?_ ?_
   rotate_left; · exact zqA
   refine pure_ (i := 19) (N := some 29) (v := undef) (a' := ?_) #[zt, zt, zt, zt, zt, zt, zt, zt, zt, zt, zt, zt, zt, zt, zt, zt, zt, zt, zt, zt, zf, zf, zf, zf] rfl rfl (any_of HT_.out (by kernel_rfl)) (fun _ _ _ h => h) (Or.inr ⟨by rfl, rfl⟩) ?_ ?_
   rotate_left; · exact zqA
   refine pure_ (i := 20) (N := some 30) (v := undef) (a' := ?_) #[zt, zt, zt, zt, zt, zt, zt, zt, zt, zt, zt, zt, zt, zt, zt, zt, zt, zt, zt, zt, zt, zf, zf, zf] rfl rfl (any_of HT_.out (by kernel_rfl)) (fun _ _ _ h => h) (Or.inr ⟨by rfl, rfl⟩) ?_ ?_
   rotate_left; · exact zqA
   refine pure_ (i := 21) (N := some 31) (v := undef) (a' := ?_) #[zt, zt, zt, zt, zt, zt, zt, zt, zt, zt, zt, zt, zt, zt, zt, zt, zt, zt, zt, zt, zt, zt, zf, zf] rfl rfl (any_of HT_.out (by kernel_rfl)) (fun _ _ _ h => h) (Or.inr ⟨by rfl, rfl⟩) ?_ ?_
   rotate_left; · exact zqA
   refine zP 22 (some 32) #[zt, zt, zt, zt, zt, zt, zt, zt, zt, zt, zt, zt, zt, zt, zt, zt, zt, zt, zt, zt, zt, zt, zt, zf] ?_ rfl rfl HT_ (Or.inl ⟨by rfl, ?_⟩) ?_ ?_ ?_
   rotate_left; · exact zqB
   rotate_left; · exact zqA
   refine zP 23 (some 33) #[zt, zt, zt, zt, zt, zt, zt, zt, zt, zt, zt, zt, zt, zt, zt, zt, zt, zt, zt, zt, zt, zt, zt, zt] ?_ rfl rfl HT_ (Or.inl ⟨by rfl, ?_⟩) ?_ ?_ ?_
   rotate_left; · exact zqB
   rotate_left; · exact zqA
   refine done_ (done_of HT_.out (by kernel_rfl)) ?_
   try go_wp2
   go_roundg k1
   case measure => have := HK1.out; omega
   case rel => exact ⟨(wrap64 (x3_1 + 1)), (by first | rfl | (simp; done) | (simp [*]; done)), H', ⟨by have := HK1.out; omega⟩, ⟨zq0⟩⟩
  rw [if_pos c6] at H
  have c6b0 : decide (0 < x3_1) = true := decide_eq_true c6
  clear c6
  obtain ⟨ji7, hji7⟩ : ∃ j_ : Int, (wrap64 (x3_1 - 1)) = j_ := ⟨_, rfl⟩
  replace H : (if 0 ≤ (ji7) then (if (ji7) < (l0.length : Int) then (if ((rd_T25 l0 (ji7)).f0) ≥ ((rd_T25 l0 x3_1).f0) then (some false) else (spec_l16Overview.l0 k1 l0 (wrap64 (x3_1 + 1)))) else (none)) else (none)) = some r := by first | (rw [hji7] at H; exact H) | (simp only [hji7] at H ⊢; exact H)
  (try rw [hji7] at A4)
  have hji7w : (IntKind.i64.wrap (x3_1 - 1)) = ji7 := (i64_w _).trans hji7
  by_cases c8 : 0 ≤ (ji7)
  case neg =>
   rw [if_neg c8] at H
   exact absurd H (by simp)
  rw [if_pos c8] at H
  have c8b0 : decide (0 ≤ (ji7)) = true := decide_eq_true c8
  clear c8
  by_cases c9 : (ji7) < (l0.length : Int)
  case neg =>
   rw [if_neg c9] at H
   exact absurd H (by simp)
  rw [if_pos c9] at H
  have c9b0 : decide ((ji7) < (l0.length : Int)) = true := decide_eq_true c9
  clear c9
  by_cases c10 : ((rd_T25 l0 (ji7)).f0) ≥ ((rd_T25 l0 x3_1).f0)
  case pos =>
   rw [if_pos c10] at H
   have c10b0 : decide (((rd_T25 l0 x3_1).f0) ≤ ((rd_T25 l0 (ji7)).f0)) = true := decide_eq_true c10
   clear c10
   obtain rfl := Option.some.inj H
   try go_wp2
   have n0_ := zm (below_drew1 HB.out)
   clear HB
   have HB := n0_
   clear n0_
   have p421 : 0 ≤ (x3_1 : Int) := of_decide_eq_true zq8
   have q421 : x3_1 < (l0.length : Int) := of_decide_eq_true zq8
   obtain ⟨ad421, e421, hx421_0, hx421_1, hx421_2, hx421_3, hx421_4, hx421_5⟩ := at_T25 HR0.out x3_1 p421 q421
   have hw421_5 := hx421_5
   have hw421_4 := hx421_4
   have hw421_3 := hx421_3
   have hw421_2 := hx421_2
   have hw421_1 := hx421_1
   have hw421_0 := hx421_0
   cases e421
   replace hx421_0 := bx HB.out hx421_0
   replace hx421_1 := bx HB.out hx421_1
   replace hx421_2 := bx HB.out hx421_2
   replace hx421_3 := bx HB.out hx421_3
   replace hx421_4 := bx HB.out hx421_4
   replace hx421_5 := bx HB.out hx421_5
   replace p421 := eq_true p421
   replace q421 := eq_true q421
   have p423 : 0 ≤ ((ji7) : Int) := of_decide_eq_true zq8
   have q423 : (ji7) < (l0.length : Int) := of_decide_eq_true zq8
   obtain ⟨ad423, e423, hx423_0, hx423_1, hx423_2, hx423_3, hx423_4, hx423_5⟩ := at_T25 HR0.out (ji7) p423 q423
   have hw423_5 := hx423_5
   have hw423_4 := hx423_4
   have hw423_3 := hx423_3
   have hw423_2 := hx423_2
   have hw423_1 := hx423_1
   have hw423_0 := hx423_0
   obtain rfl : ad421 = ad423 := (by injection e423)
   replace hx423_0 := bx HB.out hx423_0
   replace hx423_1 := bx HB.out hx423_1
   replace hx423_2 := bx HB.out hx423_2
   replace hx423_3 := bx HB.out hx423_3
   replace hx423_4 := bx HB.out hx423_4
   replace hx423_5 := bx HB.out hx423_5
   replace p423 := eq_true p423
   replace q423 := eq_true q423
   have p424 : 0 ≤ (x3_1 : Int) := of_decide_eq_true zq8
   have q424 : x3_1 < (l0.length : Int) := of_decide_eq_true zq8
   obtain ⟨ad424, e424, hx424_0, hx424_1, hx424_2, hx424_3, hx424_4, hx424_5⟩ := at_T25 HR0.out x3_1 p424 q424
   have hw424_5 := hx424_5
   have hw424_4 := hx424_4
   have hw424_3 := hx424_3
   have hw424_2 := hx424_2
   have hw424_1 := hx424_1
   have hw424_0 := hx424_0
   obtain rfl : ad421 = ad424 := (by injection e424)
   replace hx424_0 := bx HB.out hx424_0
   replace hx424_1 := bx HB.out hx424_1
   replace hx424_2 := bx HB.out hx424_2
   replace hx424_3 := bx HB.out hx424_3
   replace hx424_4 := bx HB.out hx424_4
   replace hx424_5 := bx HB.out hx424_5
   replace p424 := eq_true p424
   replace q424 := eq_true q424
   refine start_ (n := 24) (S := fun w' => w'.cell? (ad421.add ((x3_1).toNat * 6)) = some (.int .i64 ((rd_T25 l0 x3_1).f0)) ∧ w'.cell? ⟨(ad421.add ((x3_1).toNat * 6)).block, (ad421.add ((x3_1).toNat * 6)).off + 1, none⟩ = some (.int .i64 ((rd_T25 l0 x3_1).f1)) ∧ w'.cell? ⟨(ad421.add ((x3_1).toNat * 6)).block, (ad421.add ((x3_1).toNat * 6)).off + 2, none⟩ = some (.int .i64 ((rd_T25 l0 x3_1).f2)) ∧ w'.cell? ⟨(ad421.add ((x3_1).toNat * 6)).block, (ad421.add ((x3_1).toNat * 6)).off + 3, none⟩ = some (.int .i64 ((rd_T25 l0 x3_1).f3)) ∧ w'.cell? ⟨(ad421.add ((x3_1).toNat * 6)).block, (ad421.add ((x3_1).toNat * 6)).off + 4, none⟩ = some (.int .i64 ((rd_T25 l0 x3_1).f4)) ∧ w'.cell? ⟨(ad421.add ((x3_1).toNat * 6)).block, (ad421.add ((x3_1).toNat * 6)).off + 5, none⟩ = some (.int .i64 ((rd_T25 l0 x3_1).f5)) ∧ w'.cell? (ad421.add (((ji7)).toNat * 6)) = some (.int .i64 ((rd_T25 l0 (ji7)).f0)) ∧ w'.cell? ⟨(ad421.add (((ji7)).toNat * 6)).block, (ad421.add (((ji7)).toNat * 6)).off + 1, none⟩ = some (.int .i64 ((rd_T25 l0 (ji7)).f1)) ∧ w'.cell? ⟨(ad421.add (((ji7)).toNat * 6)).block, (ad421.add (((ji7)).toNat * 6)).off + 2, none⟩ = some (.int .i64 ((rd_T25 l0 (ji7)).f2)) ∧ w'.cell? ⟨(ad421.add (((ji7)).toNat * 6)).block, (ad421.add (((ji7)).toNat * 6)).off + 3, none⟩ = some (.int .i64 ((rd_T25 l0 (ji7)).f3)) ∧ w'.cell? ⟨(ad421.add (((ji7)).toNat * 6)).block, (ad421.add (((ji7)).toNat * 6)).off + 4, none⟩ = some (.int .i64 ((rd_T25 l0 (ji7)).f4)) ∧ w'.cell? ⟨(ad421.add (((ji7)).toNat * 6)).block, (ad421.add (((ji7)).toNat * 6)).off + 5, none⟩ = some (.int .i64 ((rd_T25 l0 (ji7)).f5)) ∧ w'.cell? (ad421.add ((x3_1).toNat * 6)) = some (.int .i64 ((rd_T25 l0 x3_1).f0)) ∧ w'.cell? ⟨(ad421.add ((x3_1).toNat * 6)).block, (ad421.add ((x3_1).toNat * 6)).off + 1, none⟩ = some (.int .i64 ((rd_T25 l0 x3_1).f1)) ∧ w'.cell? ⟨(ad421.add ((x3_1).toNat * 6)).block, (ad421.add ((x3_1).toNat * 6)).off + 2, none⟩ = some (.int .i64 ((rd_T25 l0 x3_1).f2)) ∧ w'.cell? ⟨(ad421.add ((x3_1).toNat * 6)).block, (ad421.add ((x3_1).toNat * 6)).off + 3, none⟩ = some (.int .i64 ((rd_T25 l0 x3_1).f3)) ∧ w'.cell? ⟨(ad421.add ((x3_1).toNat * 6)).block, (ad421.add ((x3_1).toNat * 6)).off + 4, none⟩ = some (.int .i64 ((rd_T25 l0 x3_1).f4)) ∧ w'.cell? ⟨(ad421.add ((x3_1).toNat * 6)).block, (ad421.add ((x3_1).toNat * 6)).off + 5, none⟩ = some (.int .i64 ((rd_T25 l0 x3_1).f5))) (ds := []) #[zf, zf, zf, zf, zf, zf, zf, zf, zf, zf, zf, zf, zf, zf, zf, zf, zf, zf, zf, zf, zf, zf, zf, zf] (by kernel_rfl) rfl rfl ⟨(zx HB.out hw421_0), (zx HB.out hw421_1), (zx HB.out hw421_2), (zx HB.out hw421_3), (zx HB.out hw421_4), (zx HB.out hw421_5), (zx HB.out hw423_0), (zx HB.out hw423_1), (zx HB.out hw423_2), (zx HB.out hw423_3), (zx HB.out hw423_4), (zx HB.out hw423_5), (zx HB.out hw424_0), (zx HB.out hw424_1), (zx HB.out hw424_2), (zx HB.out hw424_3), (zx HB.out hw424_4), (zx HB.out hw424_5)⟩ (fun hHeld => ?_); refine with_tabW spec_l16Overview.tab4 spec_l16Overview.bits4 (fun HT_ HW_ => ?_)
   generalize wr.drew = w11 at HB hx421_0 hx421_1 hx421_2 hx421_3 hx421_4 hx421_5 hx423_0 hx423_1 hx423_2 hx423_3 hx423_4 hx423_5 hx424_0 hx424_1 hx424_2 hx424_3 hx424_4 hx424_5 hHeld ⊢
   refine zP 0 (some 10) #[zt, zf, zf, zf, zf, zf, zf, zf, zf, zf, zf, zf, zf, zf, zf, zf, zf, zf, zf, zf, zf, zf, zf, zf] ?_ rfl rfl HT_ (Or.inl ⟨by rfl, ?_⟩) ?_ ?_ ?_
   rotate_left; · exact zqB
   rotate_left; · exact zqA
   refine zP 1 (some 11) #[zt, zt, zf, zf, zf, zf, zf, zf, zf, zf, zf, zf, zf, zf, zf, zf, zf, zf, zf, zf, zf, zf, zf, zf] ?_ rfl rfl HT_ (Or.inl ⟨by rfl, ?_⟩) ?_ ?_ ?_
   rotate_left; · exact zqB
   rotate_left; · exact zqA
   refine zP 2 (some 12) #[zt, zt, zt, zf, zf, zf, zf, zf, zf, zf, zf, zf, zf, zf, zf, zf, zf, zf, zf, zf, zf, zf, zf, zf] ?_ rfl rfl HT_ (Or.inl ⟨by rfl, ?_⟩) ?_ ?_ ?_
   rotate_left; · exact zqB
   rotate_left; · exact zqA
   refine zT 3 (some 13) #[zt, zt, zt, zt, zf, zf, zf, zf, zf, zf, zf, zf, zf, zf, zf, zf, zf, zf, zf, zf, zf, zf, zf, zf] ?_ rfl rfl HT_ HW_ (Or.inl ⟨by rfl, ?_⟩) hHeld ?_ ?_ ?_
   rotate_left
   ·
    rintro w' ⟨s0, s1, s2, s3, s4, s5, s6, s7, s8, s9, s10, s11, s12, s13, s14, s15, s16, s17⟩
    go_simp
    with_reducible rfl
   rotate_left; · exact zqA
   refine one_ (i := 4) (N := some 14) #[zt, zt, zt, zt, zt, zf, zf, zf, zf, zf, zf, zf, zf, zf, zf, zf, zf, zf, zf, zf, zf, zf, zf, zf] rfl rfl (one_of HT_.out (by kernel_rfl)) (by decide) (fun K hK => ?_)
   refine goes_ Tryz.func25 (by kernel_rfl) rfl #[.agg #[.int .i64 ((rd_T25 l0 x3_1).f0), .int .i64 ((rd_T25 l0 x3_1).f1), .int .i64 ((rd_T25 l0 x3_1).f2), .int .i64 ((rd_T25 l0 x3_1).f3), .int .i64 ((rd_T25 l0 x3_1).f4), .int .i64 ((rd_T25 l0 x3_1).f5)]] (by rfl) rfl rfl zq1 ?_
   with_reducible refine (spec_l14Good.calls ((rd_T25 l0 x3_1).f0) ((rd_T25 l0 x3_1).f1) ((rd_T25 l0 x3_1).f2) ((rd_T25 l0 x3_1).f3) ((rd_T25 l0 x3_1).f4) ((rd_T25 l0 x3_1).f5) true _ A4.out).mono ?_
   rintro e w12 ⟨rfl, hb⟩
   refine ⟨_, rfl, ?_⟩
   have n0_ := zm (below_step zq0 hb)
   clear HB
   have HB := n0_
   clear n0_
   (try clear hb)
   (try clear hb2)
   (try clear hk)
   (try clear hi)
   refine hK.out _ _ ⟨(zx HB.out hw421_0), (zx HB.out hw421_1), (zx HB.out hw421_2), (zx HB.out hw421_3), (zx HB.out hw421_4), (zx HB.out hw421_5), (zx HB.out hw423_0), (zx HB.out hw423_1), (zx HB.out hw423_2), (zx HB.out hw423_3), (zx HB.out hw423_4), (zx HB.out hw423_5), (zx HB.out hw424_0), (zx HB.out hw424_1), (zx HB.out hw424_2), (zx HB.out hw424_3), (zx HB.out hw424_4), (zx HB.out hw424_5)⟩ (fun hHeld => ?_)
   clear hK K
   refine norm_ (a' := ?_) ?_ ?_
   rotate_left
   ·
    show Act.put _ (some 14) _ = _
    simp only [Act.put, List.setIfInBounds_toArray, List.set_cons_zero, List.set_cons_succ, i64_w, i32_w]
    rfl
   refine zP 5 (some 15) #[zt, zt, zt, zt, zt, zt, zf, zf, zf, zf, zf, zf, zf, zf, zf, zf, zf, zf, zf, zf, zf, zf, zf, zf] ?_ rfl rfl HT_ (Or.inl ⟨by rfl, ?_⟩) ?_ ?_ ?_
   rotate_left; · exact zqB
   rotate_left; · exact zqA
   refine zP 6 (some 16) #[zt, zt, zt, zt, zt, zt, zt, zf, zf, zf, zf, zf, zf, zf, zf, zf, zf, zf, zf, zf, zf, zf, zf, zf] ?_ rfl rfl HT_ (Or.inl ⟨by rfl, ?_⟩) ?_ ?_ ?_
   rotate_left; · exact zqB
   rotate_left; · exact zqA
   refine zP 7 (some 17) #[zt, zt, zt, zt, zt, zt, zt, zt, zf, zf, zf, zf, zf, zf, zf, zf, zf, zf, zf, zf, zf, zf, zf, zf] ?_ rfl rfl HT_ (Or.inl ⟨by rfl, ?_⟩) ?_ ?_ ?_
   rotate_left; · exact zqB
   rotate_left; · exact zqA
   refine zP 8 (some 18) #[zt, zt, zt, zt, zt, zt, zt, zt, zt, zf, zf, zf, zf, zf, zf, zf, zf, zf, zf, zf, zf, zf, zf, zf] ?_ rfl rfl HT_ (Or.inl ⟨by rfl, ?_⟩) ?_ ?_ ?_
   rotate_left; · exact zqB
   rotate_left; · exact zqA
   refine zP 9 (some 19) #[zt, zt, zt, zt, zt, zt, zt, zt, zt, zt, zf, zf, zf, zf, zf, zf, zf, zf, zf, zf, zf, zf, zf, zf] ?_ rfl rfl HT_ (Or.inl ⟨by rfl, ?_⟩) ?_ ?_ ?_
   rotate_left; · exact zqB
   rotate_left; · exact zqA
   refine zP 10 (some 20) #[zt, zt, zt, zt, zt, zt, zt, zt, zt, zt, zt, zf, zf, zf, zf, zf, zf, zf, zf, zf, zf, zf, zf, zf] ?_ rfl rfl HT_ (Or.inl ⟨by rfl, ?_⟩) ?_ ?_ ?_
   rotate_left; · exact zqB
   rotate_left; · exact zqA
   refine zP 11 (some 21) #[zt, zt, zt, zt, zt, zt, zt, zt, zt, zt, zt, zt, zf, zf, zf, zf, zf, zf, zf, zf, zf, zf, zf, zf] ?_ rfl rfl HT_ (Or.inl ⟨by rfl, ?_⟩) ?_ ?_ ?_
   rotate_left; · exact zqB
   rotate_left; · exact zqA
   refine zP 12 (some 22) #[zt, zt, zt, zt, zt, zt, zt, zt, zt, zt, zt, zt, zt, zf, zf, zf, zf, zf, zf, zf, zf, zf, zf, zf] ?_ rfl rfl HT_ (Or.inl ⟨by rfl, ?_⟩) ?_ ?_ ?_
   rotate_left; · exact zqB
   rotate_left; · exact zqA
   refine zP 13 (some 23) #[zt, zt, zt, zt, zt, zt, zt, zt, zt, zt, zt, zt, zt, zt, zf, zf, zf, zf, zf, zf, zf, zf, zf, zf] ?_ rfl rfl HT_ (Or.inl ⟨by rfl, ?_⟩) ?_ ?_ ?_
   rotate_left; · exact zqB
   rotate_left; · exact zqA
   refine zP 14 (some 24) #[zt, zt, zt, zt, zt, zt, zt, zt, zt, zt, zt, zt, zt, zt, zt, zf, zf, zf, zf, zf, zf, zf, zf, zf] ?_ rfl rfl HT_ (Or.inl ⟨by rfl, ?_⟩) ?_ ?_ ?_
   rotate_left; · exact zqB
   rotate_left; · exact zqA
   refine zP 16 (some 26) #[zt, zt, zt, zt, zt, zt, zt, zt, zt, zt, zt, zt, zt, zt, zt, zf, zt, zf, zf, zf, zf, zf, zf, zf] ?_ rfl rfl HT_ (Or.inl ⟨by rfl, ?_⟩) ?_ ?_ ?_
   rotate_left; · exact zqB
   rotate_left; · exact zqA
   refine zP 17 (some 27) #[zt, zt, zt, zt, zt, zt, zt, zt, zt, zt, zt, zt, zt, zt, zt, zf, zt, zt, zf, zf, zf, zf, zf, zf] ?_ rfl rfl HT_ (Or.inl ⟨by rfl, ?_⟩) ?_ ?_ ?_
   rotate_left; · exact zqB
   rotate_left; · exact zqA
   refine zP 18 (some 28) #[zt, zt, zt, zt, zt, zt, zt, zt, zt, zt, zt, zt, zt, zt, zt, zf, zt, zt, zt, zf, zf, zf, zf, zf] ?_ rfl rfl HT_ (Or.inl ⟨by rfl, ?_⟩) ?_ ?_ ?_
   rotate_left; · exact zqB
   rotate_left; · exact zqA
   refine zP 19 (some 29) #[zt, zt, zt, zt, zt, zt, zt, zt, zt, zt, zt, zt, zt, zt, zt, zf, zt, zt, zt, zt, zf, zf, zf, zf] ?_ rfl rfl HT_ (Or.inl ⟨by rfl, ?_⟩) ?_ ?_ ?_
   rotate_left; · exact zqB
   rotate_left; · exact zqA
   refine zT 15 (some 25) #[zt, zt, zt, zt, zt, zt, zt, zt, zt, zt, zt, zt, zt, zt, zt, zt, zt, zt, zt, zt, zf, zf, zf, zf] ?_ rfl rfl HT_ HW_ (Or.inl ⟨by rfl, ?_⟩) hHeld ?_ ?_ ?_
   rotate_left
   ·
    rintro w' ⟨s0, s1, s2, s3, s4, s5, s6, s7, s8, s9, s10, s11, s12, s13, s14, s15, s16, s17⟩
    go_simp
    with_reducible rfl
   rotate_left; · exact zqA
   refine zT 20 (some 30) #[zt, zt, zt, zt, zt, zt, zt, zt, zt, zt, zt, zt, zt, zt, zt, zt, zt, zt, zt, zt, zt, zf, zf, zf] ?_ rfl rfl HT_ HW_ (Or.inl ⟨by rfl, ?_⟩) hHeld ?_ ?_ ?_
   rotate_left
   ·
    rintro w' ⟨s0, s1, s2, s3, s4, s5, s6, s7, s8, s9, s10, s11, s12, s13, s14, s15, s16, s17⟩
    go_simp
    with_reducible rfl
   rotate_left; · exact zqA
   refine zP 21 (some 31) #[zt, zt, zt, zt, zt, zt, zt, zt, zt, zt, zt, zt, zt, zt, zt, zt, zt, zt, zt, zt, zt, zt, zf, zf] ?_ rfl rfl HT_ (Or.inl ⟨by rfl, ?_⟩) ?_ ?_ ?_
   rotate_left; · exact zqB
   rotate_left; · exact zqA
   refine zP 22 (some 32) #[zt, zt, zt, zt, zt, zt, zt, zt, zt, zt, zt, zt, zt, zt, zt, zt, zt, zt, zt, zt, zt, zt, zt, zf] ?_ rfl rfl HT_ (Or.inl ⟨by rfl, ?_⟩) ?_ ?_ ?_
   rotate_left; · exact zqB
   rotate_left; · exact zqA
   refine zP 23 (some 33) #[zt, zt, zt, zt, zt, zt, zt, zt, zt, zt, zt, zt, zt, zt, zt, zt, zt, zt, zt, zt, zt, zt, zt, zt] ?_ rfl rfl HT_ (Or.inl ⟨by rfl, ?_⟩) ?_ ?_ ?_
   rotate_left; · exact zqB
   rotate_left; · exact zqA
   refine done_ (done_of HT_.out (by kernel_rfl)) ?_
   try go_wp2
   go_ret
   exact ⟨by first | rfl | (simp [errW_none, errW_some] <;> rfl) | (simp only [← hji7]; first | rfl | (simp [errW_none, errW_some] <;> rfl)) | (simp [*, errW_none, errW_some] <;> rfl), zq0⟩
  rw [if_neg c10] at H
  have c10b0 : decide (((rd_T25 l0 x3_1).f0) ≤ ((rd_T25 l0 (ji7)).f0)) = false := decide_eq_false c10
  clear c10
  have H' := zm H
  clear H
  try go_wp2
  have n0_ := zm (below_drew1 HB.out)
  clear HB
  have HB := n0_
  clear n0_
  have p421 : 0 ≤ (x3_1 : Int) := of_decide_eq_true zq8
  have q421 : x3_1 < (l0.length : Int) := of_decide_eq_true zq8
  obtain ⟨ad421, e421, hx421_0, hx421_1, hx421_2, hx421_3, hx421_4, hx421_5⟩ := at_T25 HR0.out x3_1 p421 q421
  have hw421_5 := hx421_5
  have hw421_4 := hx421_4
  have hw421_3 := hx421_3
  have hw421_2 := hx421_2
  have hw421_1 := hx421_1
  have hw421_0 := hx421_0
  cases e421
  replace hx421_0 := bx HB.out hx421_0
  replace hx421_1 := bx HB.out hx421_1
  replace hx421_2 := bx HB.out hx421_2
  replace hx421_3 := bx HB.out hx421_3
  replace hx421_4 := bx HB.out hx421_4
  replace hx421_5 := bx HB.out hx421_5
  replace p421 := eq_true p421
  replace q421 := eq_true q421
  have p423 : 0 ≤ ((ji7) : Int) := of_decide_eq_true zq8
  have q423 : (ji7) < (l0.length : Int) := of_decide_eq_true zq8
  obtain ⟨ad423, e423, hx423_0, hx423_1, hx423_2, hx423_3, hx423_4, hx423_5⟩ := at_T25 HR0.out (ji7) p423 q423
  have hw423_5 := hx423_5
  have hw423_4 := hx423_4
  have hw423_3 := hx423_3
  have hw423_2 := hx423_2
  have hw423_1 := hx423_1
  have hw423_0 := hx423_0
  obtain rfl : ad421 = ad423 := (by injection e423)
  replace hx423_0 := bx HB.out hx423_0
  replace hx423_1 := bx HB.out hx423_1
  replace hx423_2 := bx HB.out hx423_2
  replace hx423_3 := bx HB.out hx423_3
  replace hx423_4 := bx HB.out hx423_4
  replace hx423_5 := bx HB.out hx423_5
  replace p423 := eq_true p423
  replace q423 := eq_true q423
  have p424 : 0 ≤ (x3_1 : Int) := of_decide_eq_true zq8
  have q424 : x3_1 < (l0.length : Int) := of_decide_eq_true zq8
  obtain ⟨ad424, e424, hx424_0, hx424_1, hx424_2, hx424_3, hx424_4, hx424_5⟩ := at_T25 HR0.out x3_1 p424 q424
  have hw424_5 := hx424_5
  have hw424_4 := hx424_4
  have hw424_3 := hx424_3
  have hw424_2 := hx424_2
  have hw424_1 := hx424_1
  have hw424_0 := hx424_0
  obtain rfl : ad421 = ad424 := (by injection e424)
  replace hx424_0 := bx HB.out hx424_0
  replace hx424_1 := bx HB.out hx424_1
  replace hx424_2 := bx HB.out hx424_2
  replace hx424_3 := bx HB.out hx424_3
  replace hx424_4 := bx HB.out hx424_4
  replace hx424_5 := bx HB.out hx424_5
  replace p424 := eq_true p424
  replace q424 := eq_true q424
  refine start_ (n := 24) (S := fun w' => w'.cell? (ad421.add ((x3_1).toNat * 6)) = some (.int .i64 ((rd_T25 l0 x3_1).f0)) ∧ w'.cell? ⟨(ad421.add ((x3_1).toNat * 6)).block, (ad421.add ((x3_1).toNat * 6)).off + 1, none⟩ = some (.int .i64 ((rd_T25 l0 x3_1).f1)) ∧ w'.cell? ⟨(ad421.add ((x3_1).toNat * 6)).block, (ad421.add ((x3_1).toNat * 6)).off + 2, none⟩ = some (.int .i64 ((rd_T25 l0 x3_1).f2)) ∧ w'.cell? ⟨(ad421.add ((x3_1).toNat * 6)).block, (ad421.add ((x3_1).toNat * 6)).off + 3, none⟩ = some (.int .i64 ((rd_T25 l0 x3_1).f3)) ∧ w'.cell? ⟨(ad421.add ((x3_1).toNat * 6)).block, (ad421.add ((x3_1).toNat * 6)).off + 4, none⟩ = some (.int .i64 ((rd_T25 l0 x3_1).f4)) ∧ w'.cell? ⟨(ad421.add ((x3_1).toNat * 6)).block, (ad421.add ((x3_1).toNat * 6)).off + 5, none⟩ = some (.int .i64 ((rd_T25 l0 x3_1).f5)) ∧ w'.cell? (ad421.add (((ji7)).toNat * 6)) = some (.int .i64 ((rd_T25 l0 (ji7)).f0)) ∧ w'.cell? ⟨(ad421.add (((ji7)).toNat * 6)).block, (ad421.add (((ji7)).toNat * 6)).off + 1, none⟩ = some (.int .i64 ((rd_T25 l0 (ji7)).f1)) ∧ w'.cell? ⟨(ad421.add (((ji7)).toNat * 6)).block, (ad421.add (((ji7)).toNat * 6)).off + 2, none⟩ = some (.int .i64 ((rd_T25 l0 (ji7)).f2)) ∧ w'.cell? ⟨(ad421.add (((ji7)).toNat * 6)).block, (ad421.add (((ji7)).toNat * 6)).off + 3, none⟩ = some (.int .i64 ((rd_T25 l0 (ji7)).f3)) ∧ w'.cell? ⟨(ad421.add (((ji7)).toNat * 6)).block, (ad421.add (((ji7)).toNat * 6)).off + 4, none⟩ = some (.int .i64 ((rd_T25 l0 (ji7)).f4)) ∧ w'.cell? ⟨(ad421.add (((ji7)).toNat * 6)).block, (ad421.add (((ji7)).toNat * 6)).off + 5, none⟩ = some (.int .i64 ((rd_T25 l0 (ji7)).f5)) ∧ w'.cell? (ad421.add ((x3_1).toNat * 6)) = some (.int .i64 ((rd_T25 l0 x3_1).f0)) ∧ w'.cell? ⟨(ad421.add ((x3_1).toNat * 6)).block, (ad421.add ((x3_1).toNat * 6)).off + 1, none⟩ = some (.int .i64 ((rd_T25 l0 x3_1).f1)) ∧ w'.cell? ⟨(ad421.add ((x3_1).toNat * 6)).block, (ad421.add ((x3_1).toNat * 6)).off + 2, none⟩ = some (.int .i64 ((rd_T25 l0 x3_1).f2)) ∧ w'.cell? ⟨(ad421.add ((x3_1).toNat * 6)).block, (ad421.add ((x3_1).toNat * 6)).off + 3, none⟩ = some (.int .i64 ((rd_T25 l0 x3_1).f3)) ∧ w'.cell? ⟨(ad421.add ((x3_1).toNat * 6)).block, (ad421.add ((x3_1).toNat * 6)).off + 4, none⟩ = some (.int .i64 ((rd_T25 l0 x3_1).f4)) ∧ w'.cell? ⟨(ad421.add ((x3_1).toNat * 6)).block, (ad421.add ((x3_1).toNat * 6)).off + 5, none⟩ = some (.int .i64 ((rd_T25 l0 x3_1).f5))) (ds := []) #[zf, zf, zf, zf, zf, zf, zf, zf, zf, zf, zf, zf, zf, zf, zf, zf, zf, zf, zf, zf, zf, zf, zf, zf] (by kernel_rfl) rfl rfl ⟨(zx HB.out hw421_0), (zx HB.out hw421_1), (zx HB.out hw421_2), (zx HB.out hw421_3), (zx HB.out hw421_4), (zx HB.out hw421_5), (zx HB.out hw423_0), (zx HB.out hw423_1), (zx HB.out hw423_2), (zx HB.out hw423_3), (zx HB.out hw423_4), (zx HB.out hw423_5), (zx HB.out hw424_0), (zx HB.out hw424_1), (zx HB.out hw424_2), (zx HB.out hw424_3), (zx HB.out hw424_4), (zx HB.out hw424_5)⟩ (fun hHeld => ?_); refine with_tabW spec_l16Overview.tab4 spec_l16Overview.bits4 (fun HT_ HW_ => ?_)
  generalize wr.drew = w13 at HB hx421_0 hx421_1 hx421_2 hx421_3 hx421_4 hx421_5 hx423_0 hx423_1 hx423_2 hx423_3 hx423_4 hx423_5 hx424_0 hx424_1 hx424_2 hx424_3 hx424_4 hx424_5 hHeld ⊢
  refine zP 0 (some 10) #[zt, zf, zf, zf, zf, zf, zf, zf, zf, zf, zf, zf, zf, zf, zf, zf, zf, zf, zf, zf, zf, zf, zf, zf] ?_ rfl rfl HT_ (Or.inl ⟨by rfl, ?_⟩) ?_ ?_ ?_
  rotate_left; · exact zqB
  rotate_left; · exact zqA
  refine zP 1 (some 11) #[zt, zt, zf, zf, zf, zf, zf, zf, zf, zf, zf, zf, zf, zf, zf, zf, zf, zf, zf, zf, zf, zf, zf, zf] ?_ rfl rfl HT_ (Or.inl ⟨by rfl, ?_⟩) ?_ ?_ ?_
  rotate_left; · exact zqB
  rotate_left; · exact zqA
  refine zP 2 (some 12) #[zt, zt, zt, zf, zf, zf, zf, zf, zf, zf, zf, zf, zf, zf, zf, zf, zf, zf, zf, zf, zf, zf, zf, zf] ?_ rfl rfl HT_ (Or.inl ⟨by rfl, ?_⟩) ?_ ?_ ?_
  rotate_left; · exact zqB
  rotate_left; · exact zqA
  refine zT 3 (some 13) #[zt, zt, zt, zt, zf, zf, zf, zf, zf, zf, zf, zf, zf, zf, zf, zf, zf, zf, zf, zf, zf, zf, zf, zf] ?_ rfl rfl HT_ HW_ (Or.inl ⟨by rfl, ?_⟩) hHeld ?_ ?_ ?_
  rotate_left
  ·
   rintro w' ⟨s0, s1, s2, s3, s4, s5, s6, s7, s8, s9, s10, s11, s12, s13, s14, s15, s16, s17⟩
   go_simp
   with_reducible rfl
  rotate_left; · exact zqA
  refine one_ (i := 4) (N := some 14) #[zt, zt, zt, zt, zt, zf, zf, zf, zf, zf, zf, zf, zf, zf, zf, zf, zf, zf, zf, zf, zf, zf, zf, zf] rfl rfl (one_of HT_.out (by kernel_rfl)) (by decide) (fun K hK => ?_)
  refine goes_ Tryz.func25 (by kernel_rfl) rfl #[.agg #[.int .i64 ((rd_T25 l0 x3_1).f0), .int .i64 ((rd_T25 l0 x3_1).f1), .int .i64 ((rd_T25 l0 x3_1).f2), .int .i64 ((rd_T25 l0 x3_1).f3), .int .i64 ((rd_T25 l0 x3_1).f4), .int .i64 ((rd_T25 l0 x3_1).f5)]] (by rfl) rfl rfl zq1 ?_
  with_reducible refine (spec_l14Good.calls ((rd_T25 l0 x3_1).f0) ((rd_T25 l0 x3_1).f1) ((rd_T25 l0 x3_1).f2) ((rd_T25 l0 x3_1).f3) ((rd_T25 l0 x3_1).f4) ((rd_T25 l0 x3_1).f5) true _ A4.out).mono ?_
  rintro e w14 ⟨rfl, hb⟩
  refine ⟨_, rfl, ?_⟩
  have n0_ := zm (below_step zq0 hb)
  clear HB
  have HB := n0_
  clear n0_
  (try clear hb)
  (try clear hb2)
  (try clear hk)
  (try clear hi)
  refine hK.out _ _ ⟨(zx HB.out hw421_0), (zx HB.out hw421_1), (zx HB.out hw421_2), (zx HB.out hw421_3), (zx HB.out hw421_4), (zx HB.out hw421_5), (zx HB.out hw423_0), (zx HB.out hw423_1), (zx HB.out hw423_2), (zx HB.out hw423_3), (zx HB.out hw423_4), (zx HB.out hw423_5), (zx HB.out hw424_0), (zx HB.out hw424_1), (zx HB.out hw424_2), (zx HB.out hw424_3), (zx HB.out hw424_4), (zx HB.out hw424_5)⟩ (fun hHeld => ?_)
  clear hK K
  refine norm_ (a' := ?_) ?_ ?_
  rotate_left
  ·
   show Act.put _ (some 14) _ = _
   simp only [Act.put, List.setIfInBounds_toArray, List.set_cons_zero, List.set_cons_succ, i64_w, i32_w]
   rfl
  refine zP 5 (some 15) #[zt, zt, zt, zt, zt, zt, zf, zf, zf, zf, zf, zf, zf, zf, zf, zf, zf, zf, zf, zf, zf, zf, zf, zf] ?_ rfl rfl HT_ (Or.inl ⟨by rfl, ?_⟩) ?_ ?_ ?_
  rotate_left; · exact zqB
  rotate_left; · exact zqA
  refine zP 6 (some 16) #[zt, zt, zt, zt, zt, zt, zt, zf, zf, zf, zf, zf, zf, zf, zf, zf, zf, zf, zf, zf, zf, zf, zf, zf] ?_ rfl rfl HT_ (Or.inl ⟨by rfl, ?_⟩) ?_ ?_ ?_
  rotate_left; · exact zqB
  rotate_left; · exact zqA
  refine zP 7 (some 17) #[zt, zt, zt, zt, zt, zt, zt, zt, zf, zf, zf, zf, zf, zf, zf, zf, zf, zf, zf, zf, zf, zf, zf, zf] ?_ rfl rfl HT_ (Or.inl ⟨by rfl, ?_⟩) ?_ ?_ ?_
  rotate_left; · exact zqB
  rotate_left; · exact zqA
  refine zP 8 (some 18) #[zt, zt, zt, zt, zt, zt, zt, zt, zt, zf, zf, zf, zf, zf, zf, zf, zf, zf, zf, zf, zf, zf, zf, zf] ?_ rfl rfl HT_ (Or.inl ⟨by rfl, ?_⟩) ?_ ?_ ?_
  rotate_left; · exact zqB
  rotate_left; · exact zqA
  refine zP 9 (some 19) #[zt, zt, zt, zt, zt, zt, zt, zt, zt, zt, zf, zf, zf, zf, zf, zf, zf, zf, zf, zf, zf, zf, zf, zf] ?_ rfl rfl HT_ (Or.inl ⟨by rfl, ?_⟩) ?_ ?_ ?_
  rotate_left; · exact zqB
  rotate_left; · exact zqA
  refine zP 10 (some 20) #[zt, zt, zt, zt, zt, zt, zt, zt, zt, zt, zt, zf, zf, zf, zf, zf, zf, zf, zf, zf, zf, zf, zf, zf] ?_ rfl rfl HT_ (Or.inl ⟨by rfl, ?_⟩) ?_ ?_ ?_
  rotate_left; · exact zqB
  rotate_left; · exact zqA
  refine zP 11 (some 21) #[zt, zt, zt, zt, zt, zt, zt, zt, zt, zt, zt, zt, zf, zf, zf, zf, zf, zf, zf, zf, zf, zf, zf, zf] ?_ rfl rfl HT_ (Or.inl ⟨by rfl, ?_⟩) ?_ ?_ ?_
  rotate_left; · exact zqB
  rotate_left; · exact zqA
  refine zP 12 (some 22) #[zt, zt, zt, zt, zt, zt, zt, zt, zt, zt, zt, zt, zt, zf, zf, zf, zf, zf, zf, zf, zf, zf, zf, zf] ?_ rfl rfl HT_ (Or.inl ⟨by rfl, ?_⟩) ?_ ?_ ?_
  rotate_left; · exact zqB
  rotate_left; · exact zqA
  refine zP 13 (some 23) #[zt, zt, zt, zt, zt, zt, zt, zt, zt, zt, zt, zt, zt, zt, zf, zf, zf, zf, zf, zf, zf, zf, zf, zf] ?_ rfl rfl HT_ (Or.inl ⟨by rfl, ?_⟩) ?_ ?_ ?_
  rotate_left; · exact zqB
  rotate_left; · exact zqA
  refine zP 14 (some 24) #[zt, zt, zt, zt, zt, zt, zt, zt, zt, zt, zt, zt, zt, zt, zt, zf, zf, zf, zf, zf, zf, zf, zf, zf] ?_ rfl rfl HT_ (Or.inl ⟨by rfl, ?_⟩) ?_ ?_ ?_
  rotate_left; · exact zqB
  rotate_left; · exact zqA
  refine zP 16 (some 26) #[zt, zt, zt, zt, zt, zt, zt, zt, zt, zt, zt, zt, zt, zt, zt, zf, zt, zf, zf, zf, zf, zf, zf, zf] ?_ rfl rfl HT_ (Or.inl ⟨by rfl, ?_⟩) ?_ ?_ ?_
  rotate_left; · exact zqB
  rotate_left; · exact zqA
  refine zP 17 (some 27) #[zt, zt, zt, zt, zt, zt, zt, zt, zt, zt, zt, zt, zt, zt, zt, zf, zt, zt, zf, zf, zf, zf, zf, zf] ?_ rfl rfl HT_ (Or.inl ⟨by rfl, ?_⟩) ?_ ?_ ?_
  rotate_left; · exact zqB
  rotate_left; · exact zqA
  refine zP 18 (some 28) #[zt, zt, zt, zt, zt, zt, zt, zt, zt, zt, zt, zt, zt, zt, zt, zf, zt, zt, zt, zf, zf, zf, zf, zf] ?_ rfl rfl HT_ (Or.inl ⟨by rfl, ?_⟩) ?_ ?_ ?_
  rotate_left; · exact zqB
  rotate_left; · exact zqA
  refine zP 19 (some 29) #[zt, zt, zt, zt, zt, zt, zt, zt, zt, zt, zt, zt, zt, zt, zt, zf, zt, zt, zt, zt, zf, zf, zf, zf] ?_ rfl rfl HT_ (Or.inl ⟨by rfl, ?_⟩) ?_ ?_ ?_
  rotate_left; · exact zqB
  rotate_left; · exact zqA
  refine zT 15 (some 25) #[zt, zt, zt, zt, zt, zt, zt, zt, zt, zt, zt, zt, zt, zt, zt, zt, zt, zt, zt, zt, zf, zf, zf, zf] ?_ rfl rfl HT_ HW_ (Or.inl ⟨by rfl, ?_⟩) hHeld ?_ ?_ ?_
  rotate_left
  ·
   rintro w' ⟨s0, s1, s2, s3, s4, s5, s6, s7, s8, s9, s10, s11, s12, s13, s14, s15, s16, s17⟩
   go_simp
   with_reducible rfl
  rotate_left; · exact zqA
  refine zT 20 (some 30) #[zt, zt, zt, zt, zt, zt, zt, zt, zt, zt, zt, zt, zt, zt, zt, zt, zt, zt, zt, zt, zt, zf, zf, zf] ?_ rfl rfl HT_ HW_ (Or.inl ⟨by rfl, ?_⟩) hHeld ?_ ?_ ?_
  rotate_left
  ·
   rintro w' ⟨s0, s1, s2, s3, s4, s5, s6, s7, s8, s9, s10, s11, s12, s13, s14, s15, s16, s17⟩
   go_simp
   with_reducible rfl
  rotate_left; · exact zqA
  refine zP 21 (some 31) #[zt, zt, zt, zt, zt, zt, zt, zt, zt, zt, zt, zt, zt, zt, zt, zt, zt, zt, zt, zt, zt, zt, zf, zf] ?_ rfl rfl HT_ (Or.inl ⟨by rfl, ?_⟩) ?_ ?_ ?_
  rotate_left; · exact zqB
  rotate_left; · exact zqA
  refine zP 22 (some 32) #[zt, zt, zt, zt, zt, zt, zt, zt, zt, zt, zt, zt, zt, zt, zt, zt, zt, zt, zt, zt, zt, zt, zt, zf] ?_ rfl rfl HT_ (Or.inl ⟨by rfl, ?_⟩) ?_ ?_ ?_
  rotate_left; · exact zqB
  rotate_left; · exact zqA
  refine zP 23 (some 33) #[zt, zt, zt, zt, zt, zt, zt, zt, zt, zt, zt, zt, zt, zt, zt, zt, zt, zt, zt, zt, zt, zt, zt, zt] ?_ rfl rfl HT_ (Or.inl ⟨by rfl, ?_⟩) ?_ ?_ ?_
  rotate_left; · exact zqB
  rotate_left; · exact zqA
  refine done_ (done_of HT_.out (by kernel_rfl)) ?_
  try go_wp2
  go_roundg k1
  case measure => have := HK1.out; omega
  case rel => exact ⟨(wrap64 (x3_1 + 1)), (by first | rfl | (simp; done) | (simp [*]; done)), H', ⟨by have := HK1.out; omega⟩, ⟨zq0⟩⟩
def spec_OverviewText.l0 : Nat → List (S25) → ByteArray → Int → Option (ByteArray × Bool)
 | 0, _, _, _ => none
 | k + 1, x0, x4, x5 => if x5 < (x0.length : Int) then (if 0 ≤ x5 then ((spec_l16Text.f k ((rd_T25 x0 x5).f0) ((rd_T25 x0 x5).f1) ((rd_T25 x0 x5).f2) ((rd_T25 x0 x5).f3) ((rd_T25 x0 x5).f4) ((rd_T25 x0 x5).f5)).bind fun t427 => (if x4.size + t427.size ≤ 9223372036854775807 then (if (x4 ++ t427).size + 1 ≤ 9223372036854775807 then (spec_OverviewText.l0 k x0 ((x4 ++ t427) ++ (⟨#[10]⟩ : ByteArray)) (wrap64 (x5 + 1))) else (none)) else (none))) else (none)) else (some (x4, true))
def spec_OverviewText.f (k : Nat) (l0 : List (S25)) : Option (ByteArray × Bool) := (spec_l16Overview.f k l0).bind fun t425 => (if t425 = true then (if (l0.length : Int) = 0 then (some ((⟨#[78, 111, 32, 119, 97, 114, 110, 105, 110, 103, 115, 46, 10]⟩ : ByteArray), true)) else (spec_OverviewText.l0 k l0 (⟨#[]⟩ : ByteArray) 0)) else (some ((⟨#[]⟩ : ByteArray), false)))
set_option maxHeartbeats 8000000 in
set_option maxRecDepth 100000 in
theorem spec_OverviewText.calls (k : Nat) (A0 : Option Addr) (c0 : Nat) (l0 : List (S25)) (r1 : ByteArray) (r2 : Bool) (w : World) (hr0 : Kd.C k25 w A0 l0.length l0) (hc0 : l0.length ≤ c0) (h : spec_OverviewText.f k l0 = some (r1, r2)) :
  Calls Tryz.prog 13 #[.slice A0 l0.length c0] w fun e w' => e = .returned (.tuple #[.string r1, .bool r2]) ∧ Below w.heap.size w w' := by
 have hu25 := Tryz.underlying25
 have HR0 := zm hr0
 have HC0 := zm hc0
 clear hr0 hc0
 have HB := zm (Below.refl w.heap.size w)
 have H : ((spec_l16Overview.f k l0).bind fun t425 => (if t425 = true then (if (l0.length : Int) = 0 then (some ((⟨#[78, 111, 32, 119, 97, 114, 110, 105, 110, 103, 115, 46, 10]⟩ : ByteArray), true)) else (spec_OverviewText.l0 k l0 (⟨#[]⟩ : ByteArray) 0)) else (some ((⟨#[]⟩ : ByteArray), false)))) = some (r1, r2) := h
 clear h
 obtain ⟨t425, A20, H⟩ := zob H
 replace H : (if t425 = true then (if (l0.length : Int) = 0 then (some ((⟨#[78, 111, 32, 119, 97, 114, 110, 105, 110, 103, 115, 46, 10]⟩ : ByteArray), true)) else (spec_OverviewText.l0 k l0 (⟨#[]⟩ : ByteArray) 0)) else (some ((⟨#[]⟩ : ByteArray), false))) = some (r1, r2) := H
 have A2 := zm A20
 clear A20
 by_cases c3 : t425 = true
 case neg =>
  replace c3 := Bool.eq_false_iff.mpr c3
  subst c3
  have H1 : (some ((⟨#[]⟩ : ByteArray), false)) = some (r1, r2) := by rw [if_neg (show ¬ (false = true) by decide)] at H; exact H
  clear H
  have H := H1
  clear H1
  simp only [Option.some.injEq, Prod.mk.injEq] at H
  obtain ⟨rfl, rfl⟩ := H
  go_enter Tryz.func13, Tryz.ntmps13
  go_wp2_with (first | ((with_reducible refine gate_callee (f := 42) rfl ?_); refine goesL_ (some 7) rfl rfl Tryz.func42 (by kernel_rfl) rfl #[.slice A0 l0.length c0] rfl zq1 ?_; (with_reducible refine (spec_l16Overview.calls k _ _ l0 false _ ?side1 ?side2 A2.out).mono ?_); (case side1 => exact zqC HR0.out); (case side2 => exact HC0.out); rintro e w13 ⟨rfl, hb⟩; refine ⟨_, rfl, ?_⟩; replace HB := zm (below_step zq0 hb); (try clear hb); (try clear hb2); (try clear hk); (try clear hi)))
  go_ret2
  exact ⟨zqE, zq0⟩
 subst c3
 have H1 : (if (l0.length : Int) = 0 then (some ((⟨#[78, 111, 32, 119, 97, 114, 110, 105, 110, 103, 115, 46, 10]⟩ : ByteArray), true)) else (spec_OverviewText.l0 k l0 (⟨#[]⟩ : ByteArray) 0)) = some (r1, r2) := by rw [if_pos rfl] at H; exact H
 clear H
 have H := H1
 clear H1
 by_cases c4 : (l0.length : Int) = 0
 case pos =>
  rw [if_pos c4] at H
  have c4b0 : ((l0.length : Int) == 0) = true := beq_iff_eq.mpr c4
  have c4b1 : ((l0.length : Int) != 0) = false := bne_eq_false_iff_eq.mpr c4
  clear c4
  simp only [Option.some.injEq, Prod.mk.injEq] at H
  obtain ⟨rfl, rfl⟩ := H
  go_enter Tryz.func13, Tryz.ntmps13
  go_wp2_with (first | ((with_reducible refine gate_callee (f := 42) rfl ?_); refine goesL_ (some 7) rfl rfl Tryz.func42 (by kernel_rfl) rfl #[.slice A0 l0.length c0] rfl zq1 ?_; (with_reducible refine (spec_l16Overview.calls k _ _ l0 true _ ?side1 ?side2 A2.out).mono ?_); (case side1 => exact zqC HR0.out); (case side2 => exact HC0.out); rintro e w5 ⟨rfl, hb⟩; refine ⟨_, rfl, ?_⟩; replace HB := zm (below_step zq0 hb); (try clear hb); (try clear hb2); (try clear hk); (try clear hi)))
  go_ret2
  exact ⟨zqE, zq0⟩
 rw [if_neg c4] at H
 have c4b0 : ((l0.length : Int) == 0) = false := beq_eq_false_iff_ne.mpr c4
 have c4b1 : ((l0.length : Int) != 0) = true := bne_iff_ne.mpr c4
 have c4b2 : ¬ (l0 = []) := fun h_ => c4 (by rw [h_]; rfl)
 have H' := zm H
 clear H
 go_enter Tryz.func13, Tryz.ntmps13
 go_wp2_with (first | ((with_reducible refine gate_callee (f := 42) rfl ?_); refine goesL_ (some 7) rfl rfl Tryz.func42 (by kernel_rfl) rfl #[.slice A0 l0.length c0] rfl zq1 ?_; (with_reducible refine (spec_l16Overview.calls k _ _ l0 true _ ?side1 ?side2 A2.out).mono ?_); (case side1 => exact zqC HR0.out); (case side2 => exact HC0.out); rintro e w6 ⟨rfl, hb⟩; refine ⟨_, rfl, ?_⟩; replace HB := zm (below_step zq0 hb); (try clear hb); (try clear hb2); (try clear hk); (try clear hi)))
 go_loopg [4, 5] k (fun kq v4 v5 w' => ∃ (x4_1 : ByteArray) (x5_1 : Int), v4 = .string x4_1 ∧ v5 = .int .i64 x5_1 ∧ Aside0 (spec_OverviewText.l0 kq l0 x4_1 x5_1 = some (r1, r2)) ∧ Aside0 (kq ≤ k) ∧ Aside0 (Below w.heap.size w w'))
 case atStart => exact ⟨((⟨#[]⟩ : ByteArray)), (0), (by first | rfl | (simp; done) | (simp [*]; done)), (by first | rfl | (simp; done) | (simp [*]; done)), H', ⟨Nat.le_refl _⟩, ⟨zq0⟩⟩
 clear H'
 try clear c1
 try clear p2
 try clear c3
 try clear c4
 try clear c4b0
 try clear c4b1
 try clear c4b2
 obtain ⟨x4_1, x5_1, rfl, rfl, HA, HK1, HB⟩ := hrel
 cases gk with
 | zero => exact absurd HA.out (by simp [spec_OverviewText.l0])
 | succ k1 =>
  have H := HA.out
  clear HA
  simp only [spec_OverviewText.l0] at H
  by_cases c7 : x5_1 < (l0.length : Int)
  case neg =>
   rw [if_neg c7] at H
   have c7b0 : decide (x5_1 < (l0.length : Int)) = false := decide_eq_false c7
   clear c7
   simp only [Option.some.injEq, Prod.mk.injEq] at H
   obtain ⟨rfl, rfl⟩ := H
   go_wp2
   go_ret2
   exact ⟨zqE, zq0⟩
  rw [if_pos c7] at H
  have c7b0 : decide (x5_1 < (l0.length : Int)) = true := decide_eq_true c7
  clear c7
  by_cases c8 : 0 ≤ x5_1
  case neg =>
   rw [if_neg c8] at H
   exact absurd H (by simp)
  rw [if_pos c8] at H
  have c8b0 : decide (0 ≤ x5_1) = true := decide_eq_true c8
  clear c8
  obtain ⟨t427, A90, H⟩ := zob H
  replace H : (if x4_1.size + t427.size ≤ 9223372036854775807 then (if (x4_1 ++ t427).size + 1 ≤ 9223372036854775807 then (spec_OverviewText.l0 k1 l0 ((x4_1 ++ t427) ++ (⟨#[10]⟩ : ByteArray)) (wrap64 (x5_1 + 1))) else (none)) else (none)) = some (r1, r2) := H
  have A9 := zm A90
  clear A90
  by_cases c10 : x4_1.size + t427.size ≤ 9223372036854775807
  case neg =>
   rw [if_neg c10] at H
   exact absurd H (by simp)
  rw [if_pos c10] at H
  have c10b0 := eq_true c10
  have c10b1 : decide (x4_1.size + t427.size ≤ 9223372036854775807) = true := decide_eq_true c10
  try have c10b2 : (9223372036854775807 < x4_1.size + t427.size) = False := eq_false (Nat.not_lt.2 c10)
  by_cases c11 : (x4_1 ++ t427).size + 1 ≤ 9223372036854775807
  case neg =>
   rw [if_neg c11] at H
   exact absurd H (by simp)
  rw [if_pos c11] at H
  have c11b0 := eq_true c11
  have c11b1 : decide ((x4_1 ++ t427).size + 1 ≤ 9223372036854775807) = true := decide_eq_true c11
  try have c11b2 : (9223372036854775807 < (x4_1 ++ t427).size + 1) = False := eq_false (Nat.not_lt.2 c11)
  try have c11b3 : (9223372036854775807 < x4_1.size + t427.size + 1) = False := eq_false (Nat.not_lt.2 (by have q_ := c11; simp only [ByteArray.size_append] at q_; exact q_))
  have H' := zm H
  clear H
  have p426 : 0 ≤ (x5_1 : Int) := of_decide_eq_true zq8
  have q426 : x5_1 < (l0.length : Int) := of_decide_eq_true zq8
  obtain ⟨ad426, e426, hx426_0, hx426_1, hx426_2, hx426_3, hx426_4, hx426_5⟩ := at_T25 HR0.out x5_1 p426 q426
  cases e426
  replace hx426_0 := bx HB.out hx426_0
  replace hx426_1 := bx HB.out hx426_1
  replace hx426_2 := bx HB.out hx426_2
  replace hx426_3 := bx HB.out hx426_3
  replace hx426_4 := bx HB.out hx426_4
  replace hx426_5 := bx HB.out hx426_5
  replace p426 := eq_true p426
  replace q426 := eq_true q426
  go_wp2_with (first | ((with_reducible refine gate_callee (f := 26) rfl ?_); refine goesL_ (some 23) rfl rfl Tryz.func26 (by kernel_rfl) rfl #[.agg #[.int .i64 ((rd_T25 l0 x5_1).f0), .int .i64 ((rd_T25 l0 x5_1).f1), .int .i64 ((rd_T25 l0 x5_1).f2), .int .i64 ((rd_T25 l0 x5_1).f3), .int .i64 ((rd_T25 l0 x5_1).f4), .int .i64 ((rd_T25 l0 x5_1).f5)]] rfl zq1 ?_; (with_reducible refine (spec_l16Text.calls k1 ((rd_T25 l0 x5_1).f0) ((rd_T25 l0 x5_1).f1) ((rd_T25 l0 x5_1).f2) ((rd_T25 l0 x5_1).f3) ((rd_T25 l0 x5_1).f4) ((rd_T25 l0 x5_1).f5) t427 _ A9.out).mono ?_); rintro e w12 ⟨rfl, hb⟩; refine ⟨_, rfl, ?_⟩; replace HB := zm (below_step zq0 hb); (try clear hb); (try clear hb2); (try clear hk); (try clear hi)))
  go_roundg k1
  case measure => have := HK1.out; omega
  case rel => exact ⟨((x4_1 ++ t427) ++ (⟨#[10]⟩ : ByteArray)), (wrap64 (x5_1 + 1)), (by first | rfl | (simp; done) | (simp [*]; done)), (by first | rfl | (simp; done) | (simp [*]; done)), H', ⟨by have := HK1.out; omega⟩, ⟨zq0⟩⟩
def stringslite_HasSuffix.f (a0 : ByteArray) (a1 : ByteArray) : Option (Bool) := if (a0.size : Int) ≥ (a1.size : Int) then (if 0 ≤ (wrap64 ((a0.size : Int) - (a1.size : Int))) then (if (wrap64 ((a0.size : Int) - (a1.size : Int))) ≤ (a0.size : Int) then (some ((a0.extract ((wrap64 ((a0.size : Int) - (a1.size : Int))) : Int).toNat a0.size).toList == a1.toList)) else (none)) else (none)) else (some false)
set_option maxHeartbeats 8000000 in
set_option maxRecDepth 100000 in
theorem stringslite_HasSuffix.calls (a0 : ByteArray) (a1 : ByteArray) (r : Bool) (w : World) (h : stringslite_HasSuffix.f a0 a1 = some r) :
  Calls Tryz.prog 60 #[.string a0, .string a1] w fun e w' => e = .returned (.bool r) ∧ Drawn0 w w' := by
 have H : (if (a0.size : Int) ≥ (a1.size : Int) then (if 0 ≤ (wrap64 ((a0.size : Int) - (a1.size : Int))) then (if (wrap64 ((a0.size : Int) - (a1.size : Int))) ≤ (a0.size : Int) then (some ((a0.extract ((wrap64 ((a0.size : Int) - (a1.size : Int))) : Int).toNat a0.size).toList == a1.toList)) else (none)) else (none)) else (some false)) = some r := h
 clear h
 by_cases c3 : (a0.size : Int) ≥ (a1.size : Int)
 case neg =>
  rw [if_neg c3] at H
  have c3b0 : decide ((a1.size : Int) ≤ (a0.size : Int)) = false := decide_eq_false c3
  have c3b1 : decide (a1.size ≤ a0.size) = false := decide_eq_false (fun h => c3 (Int.ofNat_le.mpr h))
  clear c3
  obtain rfl := Option.some.inj H
  go_enter Tryz.func60, Tryz.ntmps60
  go_wp2
  go_ret
  exact ⟨by first | rfl | (simp; done) | (simp [*]; done), zq37⟩
 rw [if_pos c3] at H
 have c3b0 : decide ((a1.size : Int) ≤ (a0.size : Int)) = true := decide_eq_true c3
 have c3b1 : decide (a1.size ≤ a0.size) = true := decide_eq_true (Int.ofNat_le.mp c3)
 clear c3
 obtain ⟨ji4, hji4⟩ : ∃ j_ : Int, (wrap64 ((a0.size : Int) - (a1.size : Int))) = j_ := ⟨_, rfl⟩
 replace H : (if 0 ≤ (ji4) then (if (ji4) ≤ (a0.size : Int) then (some ((a0.extract ((ji4) : Int).toNat a0.size).toList == a1.toList)) else (none)) else (none)) = some r := by first | (rw [hji4] at H; exact H) | (simp only [hji4] at H ⊢; exact H)
 have hji4w : (IntKind.i64.wrap ((a0.size : Int) - (a1.size : Int))) = ji4 := (i64_w _).trans hji4
 by_cases c5 : 0 ≤ (ji4)
 case neg =>
  rw [if_neg c5] at H
  exact absurd H (by simp)
 rw [if_pos c5] at H
 have c5b0 := eq_true c5
 have c5b1 : decide (0 ≤ (ji4)) = true := decide_eq_true c5
 clear c5
 by_cases c6 : (ji4) ≤ (a0.size : Int)
 case neg =>
  rw [if_neg c6] at H
  exact absurd H (by simp)
 rw [if_pos c6] at H
 have c6b0 := eq_true c6
 have c6b1 : decide ((ji4) ≤ (a0.size : Int)) = true := decide_eq_true c6
 clear c6
 obtain rfl := Option.some.inj H
 go_enter Tryz.func60, Tryz.ntmps60
 go_wp2
 go_ret
 exact ⟨by first | rfl | (simp; done) | (simp only [← hji4] <;> (first | rfl | simp)) | (simp [*]; done), zq37⟩
def strings_HasSuffix.f (a0 : ByteArray) (a1 : ByteArray) : Option (Bool) := (stringslite_HasSuffix.f a0 a1).bind fun t428 => (some t428)
set_option maxHeartbeats 8000000 in
set_option maxRecDepth 100000 in
theorem strings_HasSuffix.calls (a0 : ByteArray) (a1 : ByteArray) (r : Bool) (w : World) (h : strings_HasSuffix.f a0 a1 = some r) :
  Calls Tryz.prog 43 #[.string a0, .string a1] w fun e w' => e = .returned (.bool r) ∧ Drawn0 w w' := by
 have H : ((stringslite_HasSuffix.f a0 a1).bind fun t428 => (some t428)) = some r := h
 clear h
 obtain ⟨t428, A30, H⟩ := zob H
 replace H : (some t428) = some r := H
 have A3 := zm A30
 clear A30
 obtain rfl := Option.some.inj H
 go_enter Tryz.func43, Tryz.ntmps43
 go_wp2_with (first | ((with_reducible refine gate_callee (f := 60) rfl ?_); refine goesL_ (some 7) rfl rfl Tryz.func60 (by kernel_rfl) rfl #[.string a0, .string a1] rfl zq1 ?_; (with_reducible refine (stringslite_HasSuffix.calls a0 a1 t428 _ A3.out).mono ?_); rintro e w' ⟨rfl, ⟨nd, rfl⟩⟩; refine ⟨_, rfl, ?_⟩))
 go_ret
 exact ⟨by first | rfl | (simp; done) | (simp [*]; done), zq37⟩
def stringslite_TrimSuffix.f (a0 : ByteArray) (a1 : ByteArray) : Option (ByteArray) := (stringslite_HasSuffix.f a0 a1).bind fun t429 => (if t429 = true then (if 0 ≤ (wrap64 ((a0.size : Int) - (a1.size : Int))) then (if (wrap64 ((a0.size : Int) - (a1.size : Int))) ≤ (a0.size : Int) then (some (a0.extract 0 ((wrap64 ((a0.size : Int) - (a1.size : Int))) : Int).toNat)) else (none)) else (none)) else (some a0))
set_option maxHeartbeats 8000000 in
set_option maxRecDepth 100000 in
theorem stringslite_TrimSuffix.calls (a0 : ByteArray) (a1 : ByteArray) (r : ByteArray) (w : World) (h : stringslite_TrimSuffix.f a0 a1 = some r) :
  Calls Tryz.prog 63 #[.string a0, .string a1] w fun e w' => e = .returned (.string r) ∧ Drawn0 w w' := by
 have H : ((stringslite_HasSuffix.f a0 a1).bind fun t429 => (if t429 = true then (if 0 ≤ (wrap64 ((a0.size : Int) - (a1.size : Int))) then (if (wrap64 ((a0.size : Int) - (a1.size : Int))) ≤ (a0.size : Int) then (some (a0.extract 0 ((wrap64 ((a0.size : Int) - (a1.size : Int))) : Int).toNat)) else (none)) else (none)) else (some a0))) = some r := h
 clear h
 obtain ⟨t429, A30, H⟩ := zob H
 replace H : (if t429 = true then (if 0 ≤ (wrap64 ((a0.size : Int) - (a1.size : Int))) then (if (wrap64 ((a0.size : Int) - (a1.size : Int))) ≤ (a0.size : Int) then (some (a0.extract 0 ((wrap64 ((a0.size : Int) - (a1.size : Int))) : Int).toNat)) else (none)) else (none)) else (some a0)) = some r := H
 have A3 := zm A30
 clear A30
 by_cases c4 : t429 = true
 case neg =>
  replace c4 := Bool.eq_false_iff.mpr c4
  subst c4
  have H1 : (some a0) = some r := by rw [if_neg (show ¬ (false = true) by decide)] at H; exact H
  clear H
  have H := H1
  clear H1
  obtain rfl := Option.some.inj H
  go_enter Tryz.func63, Tryz.ntmps63
  go_wp2_with (first | ((with_reducible refine gate_callee (f := 60) rfl ?_); refine goesL_ (some 7) rfl rfl Tryz.func60 (by kernel_rfl) rfl #[.string a0, .string a1] rfl zq1 ?_; (with_reducible refine (stringslite_HasSuffix.calls a0 a1 false _ A3.out).mono ?_); rintro e w' ⟨rfl, ⟨nd, rfl⟩⟩; refine ⟨_, rfl, ?_⟩))
  go_ret
  exact ⟨by first | rfl | (simp; done) | (simp [*]; done), zq37⟩
 subst c4
 have H1 : (if 0 ≤ (wrap64 ((a0.size : Int) - (a1.size : Int))) then (if (wrap64 ((a0.size : Int) - (a1.size : Int))) ≤ (a0.size : Int) then (some (a0.extract 0 ((wrap64 ((a0.size : Int) - (a1.size : Int))) : Int).toNat)) else (none)) else (none)) = some r := by rw [if_pos rfl] at H; exact H
 clear H
 have H := H1
 clear H1
 obtain ⟨ji5, hji5⟩ : ∃ j_ : Int, (wrap64 ((a0.size : Int) - (a1.size : Int))) = j_ := ⟨_, rfl⟩
 replace H : (if 0 ≤ (ji5) then (if (ji5) ≤ (a0.size : Int) then (some (a0.extract 0 ((ji5) : Int).toNat)) else (none)) else (none)) = some r := by first | (rw [hji5] at H; exact H) | (simp only [hji5] at H ⊢; exact H)
 (try rw [hji5] at A3)
 have hji5w : (IntKind.i64.wrap ((a0.size : Int) - (a1.size : Int))) = ji5 := (i64_w _).trans hji5
 by_cases c6 : 0 ≤ (ji5)
 case neg =>
  rw [if_neg c6] at H
  exact absurd H (by simp)
 rw [if_pos c6] at H
 have c6b0 := eq_true c6
 have c6b1 : decide (0 ≤ (ji5)) = true := decide_eq_true c6
 clear c6
 by_cases c7 : (ji5) ≤ (a0.size : Int)
 case neg =>
  rw [if_neg c7] at H
  exact absurd H (by simp)
 rw [if_pos c7] at H
 have c7b0 := eq_true c7
 have c7b1 : decide ((ji5) ≤ (a0.size : Int)) = true := decide_eq_true c7
 clear c7
 obtain rfl := Option.some.inj H
 go_enter Tryz.func63, Tryz.ntmps63
 go_wp2_with (first | ((with_reducible refine gate_callee (f := 60) rfl ?_); refine goesL_ (some 7) rfl rfl Tryz.func60 (by kernel_rfl) rfl #[.string a0, .string a1] rfl zq1 ?_; (with_reducible refine (stringslite_HasSuffix.calls a0 a1 true _ A3.out).mono ?_); rintro e w' ⟨rfl, ⟨nd, rfl⟩⟩; refine ⟨_, rfl, ?_⟩))
 go_ret
 exact ⟨by first | rfl | (simp; done) | (simp only [← hji5] <;> (first | rfl | simp)) | (simp [*]; done), zq37⟩
def strings_TrimSuffix.f (a0 : ByteArray) (a1 : ByteArray) : Option (ByteArray) := (stringslite_TrimSuffix.f a0 a1).bind fun t430 => (some t430)
set_option maxHeartbeats 8000000 in
set_option maxRecDepth 100000 in
theorem strings_TrimSuffix.calls (a0 : ByteArray) (a1 : ByteArray) (r : ByteArray) (w : World) (h : strings_TrimSuffix.f a0 a1 = some r) :
  Calls Tryz.prog 45 #[.string a0, .string a1] w fun e w' => e = .returned (.string r) ∧ Drawn0 w w' := by
 have H : ((stringslite_TrimSuffix.f a0 a1).bind fun t430 => (some t430)) = some r := h
 clear h
 obtain ⟨t430, A30, H⟩ := zob H
 replace H : (some t430) = some r := H
 have A3 := zm A30
 clear A30
 obtain rfl := Option.some.inj H
 go_enter Tryz.func45, Tryz.ntmps45
 go_wp2_with (first | ((with_reducible refine gate_callee (f := 63) rfl ?_); refine goesL_ (some 7) rfl rfl Tryz.func63 (by kernel_rfl) rfl #[.string a0, .string a1] rfl zq1 ?_; (with_reducible refine (stringslite_TrimSuffix.calls a0 a1 t430 _ A3.out).mono ?_); rintro e w' ⟨rfl, ⟨nd, rfl⟩⟩; refine ⟨_, rfl, ?_⟩))
 go_ret
 exact ⟨by first | rfl | (simp; done) | (simp [*]; done), zq37⟩
def strings_IndexByte.f (a0 : ByteArray) (a1 : Int) : Option Int := some (Lib.indexByte a0.data.toList a1.toNat.toUInt8)
theorem strings_IndexByte.same (a0 : ByteArray) (a1 : Int) (w : World) :
  Calls Tryz.prog 62 #[.string a0, .int .u8 a1] w fun e w' => e = .returned (.int .i64 (Lib.indexByte a0.data.toList a1.toNat.toUInt8)) ∧ w' = w := by
 go_enter Tryz.func62, Tryz.ntmps62
 go_wp2_with (go_at_call 70; refine (Tryz.stringslite_IndexByte a0 a1 _).mono ?_; rintro e w1 ⟨rfl, rfl⟩)
 go_ret
 exact ⟨rfl, rfl⟩
theorem strings_IndexByte.calls (a0 : ByteArray) (a1 : Int) (r : Int) (w : World) (h : strings_IndexByte.f a0 a1 = some r) :
  Calls Tryz.prog 62 #[.string a0, .int .u8 a1] w fun e w' => e = .returned (.int .i64 r) ∧ Below w.heap.size w w' := by
 unfold strings_IndexByte.f at h
 injection h with h
 subst h
 exact (strings_IndexByte.same a0 a1 w).mono fun e w' ⟨he, hw⟩ => by subst hw; exact ⟨he, Below.refl _ _⟩
end Go.Proofs.YtleadjbfcenofaaGreatDoor.Q
