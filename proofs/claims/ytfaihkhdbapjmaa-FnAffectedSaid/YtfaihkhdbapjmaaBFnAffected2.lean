/- Texts of this claim, put together: walks of the program's functions, and plain facts. -/
import Derived.Test.YtfaihkhdbapjmaaZFnAffected
import Derived.Test.YtfaihkhdbapjmaaBFnAffected0
import Derived.Test.YtfaihkhdbapjmaaBFnAffected1
namespace Go.Proofs.Ytfaihkhdbapjmaa.Q
open Go.RowKit Go.Proofs.YtfaihkhdbapjmaaW.PrintWords Go.Proofs.YtfaihkhdbapjmaaW.PrintLast Go.Proofs.YtfaihkhdbapjmaaW.PrintMore
attribute [local go_sem] max2_int min2_int max_two min_two max_three min_three max_four min_four
set_option linter.unusedVariables false
set_option linter.unusedSimpArgs false
def spec_l1Cur_anyAreaMap.f (k : Nat) (s0_0 : List Int) (s0_1 : Int) (s0_2 : Int) : Option (Int × Int × List Int × Int × Int) := (spec_l1Cur_pick.f s0_0 s0_1 s0_2 6).bind fun bt144 => ((spec_l1Cur_pick.f s0_0 bt144.2.1 bt144.2.2 6).bind fun bt147 => ((spec_l1Cur_areaMap.f k s0_0 bt147.2.1 bt147.2.2 (wrap64 (1 + bt144.1)) (wrap64 (1 + bt147.1))).bind fun bt150 => ((spec_l1Cur_pick.f s0_0 bt150.2.2.2.1 bt150.2.2.2.2 30).bind fun bt158 => (if bt158.1 = 0 then (if bt150.2.2.1.length < 17592186044416 then (some (bt150.1, bt150.2.1, (bt150.2.2.1 ++ [1]), bt158.2.1, bt158.2.2)) else (none)) else (if bt158.1 = 1 then ((spec_l1Cur_pick.f s0_0 bt158.2.1 bt158.2.2 (bt150.2.2.1.length : Int)).bind fun bt164 => ((spec_l1Cur_among.f s0_0 bt164.2.1 bt164.2.2 (([(-1), 10] : List Int))).bind fun bt170 => (if 0 ≤ bt164.1 then (if bt164.1 < (bt150.2.2.1.length : Int) then (some (bt150.1, bt150.2.1, (bt150.2.2.1.set (bt164.1 : Int).toNat bt170.1), bt170.2.1, bt170.2.2)) else (none)) else (none)))) else (if bt158.1 = 2 then ((spec_l1Cur_among.f s0_0 bt158.2.1 bt158.2.2 (([0, 9, bt150.2.1] : List Int))).bind fun bt177 => (some (bt177.1, bt150.2.1, bt150.2.2.1, bt177.2.1, bt177.2.2))) else (some (bt150.1, bt150.2.1, bt150.2.2.1, bt158.2.1, bt158.2.2))))))))
def spec_l1Cur_anyAreaMap.T6 : Bool × List (List Nat × List Nat) := (true, [([], []), ([0], [0]), ([], []), ([], []), ([3], [3]), ([4], [4]), ([2, 5], [2, 5]), ([], []), ([], []), ([7, 8, 6], [7, 8]), ([1, 6, 0, 1, 2, 3, 4, 5, 6, 7, 8, 9], [1, 6]), ([10, 9, 9, 0, 1, 2, 3, 4, 5, 6, 7, 8, 9], [9, 10])])
def spec_l1Cur_anyAreaMap.B6 : List Nat := [0, 1, 0, 0, 8, 24, 60, 0, 0, 508, 1023, 2047]
theorem spec_l1Cur_anyAreaMap.tab6 : rtab .any (opsOf Try.f17 6) = spec_l1Cur_anyAreaMap.T6 := by kernel_rfl
theorem spec_l1Cur_anyAreaMap.bits6 : waitsOk spec_l1Cur_anyAreaMap.T6.2 spec_l1Cur_anyAreaMap.B6 = true := by kernel_rfl
set_option maxHeartbeats 8000000 in
set_option maxRecDepth 100000 in
theorem spec_l1Cur_anyAreaMap.calls (k : Nat) (g : Nat) (s0_0 : List Int) (s0_1 : Int) (s0_2 : Int) (r1 : Int) (r2 : Int) (r3 : List Int) (r4 : Int) (r5 : Int) (w0 w : World) (hI : IsS46 w0 w g s0_0 s0_1 s0_2) (hB : Below w0.heap.size w0 w) (h : spec_l1Cur_anyAreaMap.f k s0_0 s0_1 s0_2 = some (r1, r2, r3, r4, r5)) :
  Calls Try.prog 17 #[.pointer (some ⟨g, 0, none⟩)] w fun e w' => ∃ v2_ : Value, e = .returned (.agg #[.int .i64 r1, .int .i64 r2, v2_]) ∧ Kd.R (Kd.int .i64) 3 w' w.heap.size (fun _ => True) v2_ r3 ∧ IsS46 w0 w' g s0_0 r4 r5 ∧ Below w0.heap.size w0 w' ∧ KeepBut w w' g none := by
 have hu26 := Try.underlying26
 have HI0 := zm hI
 have HK := zm (KeepBut.refl w g none)
 have HL := zm hB.size
 clear hI
 have HW0 := zm hB.size
 have HB := zm hB
 clear hB
 have H : ((spec_l1Cur_pick.f s0_0 s0_1 s0_2 6).bind fun bt144 => ((spec_l1Cur_pick.f s0_0 bt144.2.1 bt144.2.2 6).bind fun bt147 => ((spec_l1Cur_areaMap.f k s0_0 bt147.2.1 bt147.2.2 (wrap64 (1 + bt144.1)) (wrap64 (1 + bt147.1))).bind fun bt150 => ((spec_l1Cur_pick.f s0_0 bt150.2.2.2.1 bt150.2.2.2.2 30).bind fun bt158 => (if bt158.1 = 0 then (if bt150.2.2.1.length < 17592186044416 then (some (bt150.1, bt150.2.1, (bt150.2.2.1 ++ [1]), bt158.2.1, bt158.2.2)) else (none)) else (if bt158.1 = 1 then ((spec_l1Cur_pick.f s0_0 bt158.2.1 bt158.2.2 (bt150.2.2.1.length : Int)).bind fun bt164 => ((spec_l1Cur_among.f s0_0 bt164.2.1 bt164.2.2 (([(-1), 10] : List Int))).bind fun bt170 => (if 0 ≤ bt164.1 then (if bt164.1 < (bt150.2.2.1.length : Int) then (some (bt150.1, bt150.2.1, (bt150.2.2.1.set (bt164.1 : Int).toNat bt170.1), bt170.2.1, bt170.2.2)) else (none)) else (none)))) else (if bt158.1 = 2 then ((spec_l1Cur_among.f s0_0 bt158.2.1 bt158.2.2 (([0, 9, bt150.2.1] : List Int))).bind fun bt177 => (some (bt177.1, bt150.2.1, bt150.2.2.1, bt177.2.1, bt177.2.2))) else (some (bt150.1, bt150.2.1, bt150.2.2.1, bt158.2.1, bt158.2.2))))))))) = some (r1, r2, r3, r4, r5) := h
 clear h
 obtain ⟨⟨t144, t145, t146⟩, A20, H⟩ := zob H
 replace H : ((spec_l1Cur_pick.f s0_0 t145 t146 6).bind fun bt147 => ((spec_l1Cur_areaMap.f k s0_0 bt147.2.1 bt147.2.2 (wrap64 (1 + t144)) (wrap64 (1 + bt147.1))).bind fun bt150 => ((spec_l1Cur_pick.f s0_0 bt150.2.2.2.1 bt150.2.2.2.2 30).bind fun bt158 => (if bt158.1 = 0 then (if bt150.2.2.1.length < 17592186044416 then (some (bt150.1, bt150.2.1, (bt150.2.2.1 ++ [1]), bt158.2.1, bt158.2.2)) else (none)) else (if bt158.1 = 1 then ((spec_l1Cur_pick.f s0_0 bt158.2.1 bt158.2.2 (bt150.2.2.1.length : Int)).bind fun bt164 => ((spec_l1Cur_among.f s0_0 bt164.2.1 bt164.2.2 (([(-1), 10] : List Int))).bind fun bt170 => (if 0 ≤ bt164.1 then (if bt164.1 < (bt150.2.2.1.length : Int) then (some (bt150.1, bt150.2.1, (bt150.2.2.1.set (bt164.1 : Int).toNat bt170.1), bt170.2.1, bt170.2.2)) else (none)) else (none)))) else (if bt158.1 = 2 then ((spec_l1Cur_among.f s0_0 bt158.2.1 bt158.2.2 (([0, 9, bt150.2.1] : List Int))).bind fun bt177 => (some (bt177.1, bt150.2.1, bt150.2.2.1, bt177.2.1, bt177.2.2))) else (some (bt150.1, bt150.2.1, bt150.2.2.1, bt158.2.1, bt158.2.2)))))))) = some (r1, r2, r3, r4, r5) := H
 have A2 := zm A20
 clear A20
 obtain ⟨⟨t147, t148, t149⟩, A30, H⟩ := zob H
 replace H : ((spec_l1Cur_areaMap.f k s0_0 t148 t149 (wrap64 (1 + t144)) (wrap64 (1 + t147))).bind fun bt150 => ((spec_l1Cur_pick.f s0_0 bt150.2.2.2.1 bt150.2.2.2.2 30).bind fun bt158 => (if bt158.1 = 0 then (if bt150.2.2.1.length < 17592186044416 then (some (bt150.1, bt150.2.1, (bt150.2.2.1 ++ [1]), bt158.2.1, bt158.2.2)) else (none)) else (if bt158.1 = 1 then ((spec_l1Cur_pick.f s0_0 bt158.2.1 bt158.2.2 (bt150.2.2.1.length : Int)).bind fun bt164 => ((spec_l1Cur_among.f s0_0 bt164.2.1 bt164.2.2 (([(-1), 10] : List Int))).bind fun bt170 => (if 0 ≤ bt164.1 then (if bt164.1 < (bt150.2.2.1.length : Int) then (some (bt150.1, bt150.2.1, (bt150.2.2.1.set (bt164.1 : Int).toNat bt170.1), bt170.2.1, bt170.2.2)) else (none)) else (none)))) else (if bt158.1 = 2 then ((spec_l1Cur_among.f s0_0 bt158.2.1 bt158.2.2 (([0, 9, bt150.2.1] : List Int))).bind fun bt177 => (some (bt177.1, bt150.2.1, bt150.2.2.1, bt177.2.1, bt177.2.2))) else (some (bt150.1, bt150.2.1, bt150.2.2.1, bt158.2.1, bt158.2.2))))))) = some (r1, r2, r3, r4, r5) := H
 have A3 := zm A30
 clear A30
 obtain ⟨⟨t150, t151, t152, t155, t156⟩, A40, H⟩ := zob H
 replace H : ((spec_l1Cur_pick.f s0_0 t155 t156 30).bind fun bt158 => (if bt158.1 = 0 then (if t152.length < 17592186044416 then (some (t150, t151, (t152 ++ [1]), bt158.2.1, bt158.2.2)) else (none)) else (if bt158.1 = 1 then ((spec_l1Cur_pick.f s0_0 bt158.2.1 bt158.2.2 (t152.length : Int)).bind fun bt164 => ((spec_l1Cur_among.f s0_0 bt164.2.1 bt164.2.2 (([(-1), 10] : List Int))).bind fun bt170 => (if 0 ≤ bt164.1 then (if bt164.1 < (t152.length : Int) then (some (t150, t151, (t152.set (bt164.1 : Int).toNat bt170.1), bt170.2.1, bt170.2.2)) else (none)) else (none)))) else (if bt158.1 = 2 then ((spec_l1Cur_among.f s0_0 bt158.2.1 bt158.2.2 (([0, 9, t151] : List Int))).bind fun bt177 => (some (bt177.1, t151, t152, bt177.2.1, bt177.2.2))) else (some (t150, t151, t152, bt158.2.1, bt158.2.2)))))) = some (r1, r2, r3, r4, r5) := H
 have A4 := zm A40
 clear A40
 obtain ⟨⟨t158, t159, t160⟩, A50, H⟩ := zob H
 replace H : (if t158 = 0 then (if t152.length < 17592186044416 then (some (t150, t151, (t152 ++ [1]), t159, t160)) else (none)) else (if t158 = 1 then ((spec_l1Cur_pick.f s0_0 t159 t160 (t152.length : Int)).bind fun bt164 => ((spec_l1Cur_among.f s0_0 bt164.2.1 bt164.2.2 (([(-1), 10] : List Int))).bind fun bt170 => (if 0 ≤ bt164.1 then (if bt164.1 < (t152.length : Int) then (some (t150, t151, (t152.set (bt164.1 : Int).toNat bt170.1), bt170.2.1, bt170.2.2)) else (none)) else (none)))) else (if t158 = 2 then ((spec_l1Cur_among.f s0_0 t159 t160 (([0, 9, t151] : List Int))).bind fun bt177 => (some (bt177.1, t151, t152, bt177.2.1, bt177.2.2))) else (some (t150, t151, t152, t159, t160))))) = some (r1, r2, r3, r4, r5) := H
 have A5 := zm A50
 clear A50
 by_cases c6 : t158 = 0
 case pos =>
  rw [if_pos c6] at H
  have c6b0 : (t158 == 0) = true := beq_iff_eq.mpr c6
  have c6b1 : (t158 != 0) = false := bne_eq_false_iff_eq.mpr c6
  clear c6
  by_cases c7 : t152.length < 17592186044416
  case neg =>
   rw [if_neg c7] at H
   exact absurd H (by simp)
  rw [if_pos c7] at H
  have LMc7 := zm c7
  clear c7
  obtain ⟨y161, hy161⟩ : ∃ y_ : List Int, y_ = (t152 ++ [1]) := ⟨_, rfl⟩
  replace H : (some (t150, t151, y161, t159, t160)) = some (r1, r2, r3, r4, r5) := zqH hy161 H
  have Ny161 := zm hy161
  clear hy161
  simp only [Option.some.injEq, Prod.mk.injEq] at H
  obtain ⟨rfl, rfl, rfl, rfl, rfl⟩ := H
  go_enter Try.func17, Try.ntmps17
  go_wp2_with (first | ((with_reducible refine gate_dst (N := 2) rfl ?_); refine box_event ?hg (N := 2) ?hd (cs := #[.int .i64 0, .int .i64 0, .slice none 0 0]) (t := 26) ?hr ?_; (case hd => rfl); (case hg => rfl); (case hr => exact zqS); intro gb143 hg w8 hbox hb; replace HB := zm (zyh zq10 hb); have BK143 := zm (hbox); have GW143 := zm ((by rw [hg]; exact (keep_size (w := w) (g := g) (row := none) zq4) : w.heap.size ≤ gb143)); have GE143 := zm ((Nat.le_trans HW0.out (by rw [hg]; exact (keep_size (w := w) (g := g) (row := none) zq4) : w.heap.size ≤ gb143) : w0.heap.size ≤ gb143)); replace HK := zm (KeepBut.trans zq4 (KeepBut.of_below hb g none) (.inl rfl)); have NB0_143 := zm ((by rw [hg]; exact Nat.ne_of_lt (IsS46.lt (show IsS46 w0 _ g s0_0 s0_1 s0_2 from by repeat (first | (with_reducible first | exact HI0.out | apply zv1 | apply zv2 | apply zv3 | apply zv4 | apply zv5) | exact HI0.out))) : g ≠ gb143)); have NB143_0 := zm ((by rw [hg]; exact Nat.ne_of_gt (IsS46.lt (show IsS46 w0 _ g s0_0 s0_1 s0_2 from by repeat (first | (with_reducible first | exact HI0.out | apply zv1 | apply zv2 | apply zv3 | apply zv4 | apply zv5) | exact HI0.out))) : gb143 ≠ g)); replace HI0 := zm (IsS46.below zq15 hb); clear hb hbox hg) | ((with_reducible refine zyg (f := 20) rfl ?_); refine goesL_ (some 6) rfl rfl Try.func20 (by kernel_rfl) rfl #[.pointer (some ⟨g, 0, none⟩), .int .i64 6] rfl zq0 ?_; (with_reducible refine (spec_l1Cur_pick.calls g s0_0 s0_1 s0_2 6 t144 t145 t146 w0 _ ?side1 ?side2 A2.out).mono ?_); (case side1 => repeat (first | (with_reducible first | exact HI0.out | apply zv1 | apply zv2 | apply zv3 | apply zv4 | apply zv5 | refine zv6 ?_ NB0_143.out _) | exact HI0.out)); (case side2 => repeat (first | (with_reducible first | exact HB.out | apply zya | apply zyp | apply zyr | refine zys ?_ (IsS46.ge HI0.out) | refine zys ?_ GE143.out) | exact HB.out)); rintro e w9 ⟨rfl, hi, hb, hk⟩; refine ⟨_, rfl, ?_⟩; replace BK143 := zm (KeepBut.blk hk (g' := gb143) (o := zcA) (zqK BK143.out) NB143_0.out (by simp)); replace HK := zm (KeepBut.trans zq7 hk (.inl rfl)); replace HB := zm (hb); replace HI0 := zm (hi); (try clear hb); (try clear hb2); (try clear hk); (try clear hi)) | ((with_reducible refine zyg (f := 20) rfl ?_); refine goesL_ (some 9) rfl rfl Try.func20 (by kernel_rfl) rfl #[.pointer (some ⟨g, 0, none⟩), .int .i64 6] rfl zq0 ?_; (with_reducible refine (spec_l1Cur_pick.calls g s0_0 t145 t146 6 t147 t148 t149 w0 _ ?side1 ?side2 A3.out).mono ?_); (case side1 => repeat (first | (with_reducible first | exact HI0.out | apply zv1 | apply zv2 | apply zv3 | apply zv4 | apply zv5 | refine zv6 ?_ NB0_143.out _) | exact HI0.out)); (case side2 => repeat (first | (with_reducible first | exact HB.out | apply zya | apply zyp | apply zyr | refine zys ?_ (IsS46.ge HI0.out) | refine zys ?_ GE143.out) | exact HB.out)); rintro e w10 ⟨rfl, hi, hb, hk⟩; refine ⟨_, rfl, ?_⟩; replace BK143 := zm (KeepBut.blk hk (g' := gb143) (o := zcA) (zqK BK143.out) NB143_0.out (by simp)); replace HK := zm (KeepBut.trans zq7 hk (.inl rfl)); replace HB := zm (hb); replace HI0 := zm (hi); (try clear hb); (try clear hb2); (try clear hk); (try clear hi)) | ((with_reducible refine zyg (f := 41) rfl ?_); refine goesL_ (some 11) rfl rfl Try.func41 (by kernel_rfl) rfl #[.pointer (some ⟨g, 0, none⟩), .int .i64 (wrap64 (1 + t144)), .int .i64 (wrap64 (1 + t147))] rfl zq0 ?_; (with_reducible refine (spec_l1Cur_areaMap.calls k g s0_0 t148 t149 (wrap64 (1 + t144)) (wrap64 (1 + t147)) t150 t151 t152 t155 t156 w0 _ ?side1 ?side2 A4.out).mono ?_); (case side1 => repeat (first | (with_reducible first | exact HI0.out | apply zv1 | apply zv2 | apply zv3 | apply zv4 | apply zv5 | refine zv6 ?_ NB0_143.out _) | exact HI0.out)); (case side2 => repeat (first | (with_reducible first | exact HB.out | apply zya | apply zyp | apply zyr | refine zys ?_ (IsS46.ge HI0.out) | refine zys ?_ GE143.out) | exact HB.out)); rintro e w11 ⟨v153, rfl, ho0, hi, hb, hk⟩; refine ⟨_, rfl, ?_⟩; replace BK143 := zm (KeepBut.blk hk (g' := gb143) (o := zcA) (zqK BK143.out) NB143_0.out (by simp)); have HO154 := zm (Kd.R_lower ho0 (keep_size (w := w) (g := g) (row := none) zq7)); replace HK := zm (KeepBut.trans zq7 hk (.inl rfl)); replace HB := zm (hb); replace HI0 := zm (hi); (try clear hb); (try clear hb2); (try clear hk); (try clear hi); (try clear ho0)) | ((with_reducible refine gate_dst (N := 3) rfl ?_); refine box_event ?hg (N := 3) ?hd (cs := #[.int .i64 0, .int .i64 0, .slice none 0 0]) (t := 26) ?hr ?_; (case hd => rfl); (case hg => rfl); (case hr => exact zqS); intro gb157 hg w12 hbox hb; replace HO154 := zm (Kd.R_below (zqR HO154.out) hb); replace HB := zm (zyh zq82 hb); have BK157 := zm (hbox); have GW157 := zm ((by rw [hg]; exact (keep_size (w := w) (g := g) (row := none) zq7) : w.heap.size ≤ gb157)); have GE157 := zm ((Nat.le_trans HW0.out (by rw [hg]; exact (keep_size (w := w) (g := g) (row := none) zq7) : w.heap.size ≤ gb157) : w0.heap.size ≤ gb157)); replace HK := zm (KeepBut.trans zq7 (KeepBut.of_below hb g none) (.inl rfl)); have NB143_157 := zm ((by rw [hg]; exact Nat.ne_of_lt (blk_lt (g := gb143) (o := zcA) (zqK BK143.out)) : gb143 ≠ gb157)); have NB157_143 := zm ((by rw [hg]; exact Nat.ne_of_gt (blk_lt (g := gb143) (o := zcA) (zqK BK143.out)) : gb157 ≠ gb143)); replace BK143 := zm (zyb (g := gb143) (o := zcA) (zqK BK143.out) hb); have NB0_157 := zm ((by rw [hg]; exact Nat.ne_of_lt (IsS46.lt (show IsS46 w0 _ g s0_0 t155 t156 from by repeat (first | (with_reducible first | exact HI0.out | apply zv1 | apply zv2 | apply zv3 | apply zv4 | apply zv5 | refine zv6 ?_ NB0_143.out _) | exact HI0.out))) : g ≠ gb157)); have NB157_0 := zm ((by rw [hg]; exact Nat.ne_of_gt (IsS46.lt (show IsS46 w0 _ g s0_0 t155 t156 from by repeat (first | (with_reducible first | exact HI0.out | apply zv1 | apply zv2 | apply zv3 | apply zv4 | apply zv5 | refine zv6 ?_ NB0_143.out _) | exact HI0.out))) : gb157 ≠ g)); replace HI0 := zm (IsS46.below zq80 hb); clear hb hbox hg; have hnb13 := NB157_143.out; have hnc13 := NB143_157.out; have hnb14 := NB157_0.out; have hnc14 := NB0_157.out; have hcz15_0 := bz BK157.out 0 (.int .i64 0); have hcz15_1 := bz BK157.out 1 (.int .i64 0); have hcz15_2 := bz BK157.out 2 (.slice none 0 0); have hfz15_0 := zyF BK157.out 0; have hfz15_1 := zyF BK157.out 1; have hfz15_2 := zyF BK157.out 2; obtain ⟨Ao16, co16, eo16⟩ := Kd.R_slice HO154.out; subst eo16) | ((with_reducible refine zyg (f := 20) rfl ?_); refine goesL_ (some 13) rfl rfl Try.func20 (by kernel_rfl) rfl #[.pointer (some ⟨g, 0, none⟩), .int .i64 30] rfl zq0 ?_; (with_reducible refine (spec_l1Cur_pick.calls g s0_0 t155 t156 30 t158 t159 t160 w0 _ ?side1 ?side2 A5.out).mono ?_); (case side1 => repeat (first | (with_reducible first | exact HI0.out | apply zv1 | apply zv2 | apply zv3 | apply zv4 | apply zv5 | refine zv6 ?_ NB0_143.out _ | refine zv6 ?_ NB0_157.out _) | exact HI0.out)); (case side2 => repeat (first | (with_reducible first | exact HB.out | apply zya | apply zyp | apply zyr | refine zys ?_ (IsS46.ge HI0.out) | refine zys ?_ GE143.out | refine zys ?_ GE157.out) | exact HB.out)); rintro e w17 ⟨rfl, hi, hb, hk⟩; refine ⟨_, rfl, ?_⟩; replace BK143 := zm (KeepBut.blk hk (g' := gb143) (o := zcA) zq41 NB143_0.out (by simp)); replace HO154 := zm (Kd.R_mono (Kd.R_keep (IsS46.apart (show IsS46 w0 _ g s0_0 t155 t156 from by repeat (first | (with_reducible first | exact HI0.out | apply zv1 | apply zv2 | apply zv3 | apply zv4 | apply zv5 | refine zv6 ?_ NB0_143.out _ | refine zv6 ?_ NB0_157.out _) | exact HI0.out)) (by (with_reducible repeat (first | apply Kd.R_alloc | apply Kd.R_drewN | apply Kd.R_drew)); exact (Kd.R_mono (Kd.R_far (p := ⟨gb157, 2, none⟩) (Kd.R_far (p := ⟨gb157, 1, none⟩) (Kd.R_far (p := ⟨gb157, 0, none⟩) (Kd.R_types HO154.out BK157.out (by decide)) (fun _ hk => hk.2) (.int .i64 t150)) (fun _ hk => hk.2) (.int .i64 t151)) (fun _ hk => hk.2) (.slice Ao16 t152.length co16)) (fun _ h_ => h_.1))) (by decide)) hk (fun _ h => h.2)) (fun _ h => h.1)); replace BK157 := zm (KeepBut.blk hk (g' := gb157) (o := .cells #[.int .i64 t150, .int .i64 t151, .slice Ao16 t152.length co16] 26 (0, 0)) zq32 NB157_0.out (by simp)); replace HK := zm (KeepBut.trans zq9 hk (.inl rfl)); replace HB := zm (hb); replace HI0 := zm (hi); (try clear hb); (try clear hb2); (try clear hk); (try clear hi); have hcz18_0 := bz BK157.out 0 (.int .i64 t150); have hcz18_1 := bz BK157.out 1 (.int .i64 t151); have hcz18_2 := bz BK157.out 2 (.slice Ao16 t152.length co16); have hfz18_0 := zyF BK157.out 0; have hfz18_1 := zyF BK157.out 1; have hfz18_2 := zyF BK157.out 2) | ((with_reducible refine gate_builtin (b := .append) (xs := #[.tmp 17, .tmp 18]) rfl ?_); at_builtin; refine Kd.R_append (Kd.int .i64) w.heap.size rfl (.tmp 17) (.tmp 18) 24 3 (.int .i64 0) 8 rfl Try.underlying24 info3 rfl (by decide) (by omega) (.slice Ao16 t152.length co16) t152 1 [.int .i64 1] (fun _ => True) (fun _ => False) rfl rfl ?aP (fun _ hk => hk.elim) ?aF ?aO (Below.refl _ _) ?aS ?aL ?_; (case aP => exact rfl); (case aF => exact (fun _ _ => trivial)); (case aO => exact (zqR HO154.out)); (case aS => exact (keep_size (w := w) (g := g) (row := none) zq9)); (case aL => have := LMc7.out; omega); intro v162 w19 ho hb hg hat; rw [← Ny161.out] at ho; replace BK143 := zm (blk_grown (g := gb143) (o := zcA) (zqK BK143.out) hg (Kd.R_ne HO154.out BK143.out (by decide))); replace BK157 := zm (blk_grown (g := gb157) (o := .cells #[.int .i64 t150, .int .i64 t151, .slice Ao16 t152.length co16] 26 (0, 0)) (zqK BK157.out) hg (Kd.R_ne HO154.out BK157.out (by decide))); replace HB := zm (below_weaken zq31 HL.out hb); replace HI0 := zm (IsS46.grown zq29 hg (IsS46.own_ne HI0.out HO154.out (by decide))); replace HK := zm (KeepBut.trans zq9 (KeepBut.of_grown hg g) (Kd.R_base2 HO154.out)); have HO163 := zm (ho); clear HO154; clear ho hb hg hat; obtain ⟨Ao20, co20, eo20⟩ := Kd.R_slice HO163.out; subst eo20; have hcz21_0 := bz BK157.out 0 (.int .i64 t150); have hcz21_1 := bz BK157.out 1 (.int .i64 t151); have hcz21_2 := bz BK157.out 2 (.slice Ao16 t152.length co16); have hfz21_0 := zyF BK157.out 0; have hfz21_1 := zyF BK157.out 1; have hfz21_2 := zyF BK157.out 2; have hnb22 := NB143_0.out; have hnc22 := NB0_143.out; have hcz23_0 := bz BK143.out 0 (.int .i64 0); have hcz23_1 := bz BK143.out 1 (.int .i64 0); have hcz23_2 := bz BK143.out 2 (.slice none 0 0); have hfz23_0 := zyF BK143.out 0; have hfz23_1 := zyF BK143.out 1; have hfz23_2 := zyF BK143.out 2))
  refine bodyPost_ret (results_cell_row rfl _ _ gb143 26 #[.int .i64 t150, .int .i64 t151, .slice Ao20 y161.length co20] (0, 0) _ rfl (by (with_reducible repeat (first | apply zN | apply zD | apply zL)); refine blk_put (cs := #[.int .i64 t150, .int .i64 t151, .slice none 0 0]) ?_ 2 _ rfl; (with_reducible repeat (first | apply zN | apply zD | apply zL)); refine blk_put (cs := #[.int .i64 t150, .int .i64 0, .slice none 0 0]) ?_ 1 _ rfl; (with_reducible repeat (first | apply zN | apply zD | apply zL)); refine blk_put (cs := #[.int .i64 0, .int .i64 0, .slice none 0 0]) ?_ 0 _ rfl; (with_reducible repeat (first | apply zN | apply zD | apply zL)); refine zye ?_ NB143_157.out _; (with_reducible repeat (first | apply zN | apply zD | apply zL)); exact BK143.out) Try.underlying26 rfl (by kernel_rfl)) rfl ?_
  exact ⟨_, by first | rfl | (simp [errW_none, errW_some] <;> rfl) | (simp [*, errW_none, errW_some] <;> rfl), by (with_reducible repeat (first | apply Kd.R_alloc | apply Kd.R_drewN | apply Kd.R_drew)); exact Kd.R_mono (Kd.R_far (p := ⟨gb143, 2, none⟩) (Kd.R_far (p := ⟨gb143, 1, none⟩) (Kd.R_far (p := ⟨gb143, 0, none⟩) (Kd.R_far (p := ⟨gb157, 2, none⟩) (Kd.R_types (Kd.R_types HO163.out BK157.out (by decide)) BK143.out (by decide)) (fun _ hk => hk.1.2) (.slice Ao20 y161.length co20)) (fun _ hk => hk.2) (.int .i64 t150)) (fun _ hk => hk.2) (.int .i64 t151)) (fun _ hk => hk.2) (.slice Ao20 y161.length co20)) (fun _ hk => trivial), zq29, zq31, zq9⟩
 rw [if_neg c6] at H
 have c6b0 : (t158 == 0) = false := beq_eq_false_iff_ne.mpr c6
 have c6b1 : (t158 != 0) = true := bne_iff_ne.mpr c6
 by_cases c24 : t158 = 1
 case neg =>
  rw [if_neg c24] at H
  have c24b0 : (t158 == 1) = false := beq_eq_false_iff_ne.mpr c24
  have c24b1 : (t158 != 1) = true := bne_iff_ne.mpr c24
  by_cases c52 : t158 = 2
  case neg =>
   rw [if_neg c52] at H
   have c52b0 : (t158 == 2) = false := beq_eq_false_iff_ne.mpr c52
   have c52b1 : (t158 != 2) = true := bne_iff_ne.mpr c52
   simp only [Option.some.injEq, Prod.mk.injEq] at H
   obtain ⟨rfl, rfl, rfl, rfl, rfl⟩ := H
   go_enter Try.func17, Try.ntmps17
   go_wp2_with (first | ((with_reducible refine gate_dst (N := 2) rfl ?_); refine box_event ?hg (N := 2) ?hd (cs := #[.int .i64 0, .int .i64 0, .slice none 0 0]) (t := 26) ?hr ?_; (case hd => rfl); (case hg => rfl); (case hr => exact zqS); intro gb143 hg w72 hbox hb; replace HB := zm (zyh zq10 hb); have BK143 := zm (hbox); have GW143 := zm ((by rw [hg]; exact (keep_size (w := w) (g := g) (row := none) zq4) : w.heap.size ≤ gb143)); have GE143 := zm ((Nat.le_trans HW0.out (by rw [hg]; exact (keep_size (w := w) (g := g) (row := none) zq4) : w.heap.size ≤ gb143) : w0.heap.size ≤ gb143)); replace HK := zm (KeepBut.trans zq4 (KeepBut.of_below hb g none) (.inl rfl)); have NB0_143 := zm ((by rw [hg]; exact Nat.ne_of_lt (IsS46.lt (show IsS46 w0 _ g s0_0 s0_1 s0_2 from by repeat (first | (with_reducible first | exact HI0.out | apply zv1 | apply zv2 | apply zv3 | apply zv4 | apply zv5) | exact HI0.out))) : g ≠ gb143)); have NB143_0 := zm ((by rw [hg]; exact Nat.ne_of_gt (IsS46.lt (show IsS46 w0 _ g s0_0 s0_1 s0_2 from by repeat (first | (with_reducible first | exact HI0.out | apply zv1 | apply zv2 | apply zv3 | apply zv4 | apply zv5) | exact HI0.out))) : gb143 ≠ g)); replace HI0 := zm (IsS46.below zq15 hb); clear hb hbox hg) | ((with_reducible refine zyg (f := 20) rfl ?_); refine goesL_ (some 6) rfl rfl Try.func20 (by kernel_rfl) rfl #[.pointer (some ⟨g, 0, none⟩), .int .i64 6] rfl zq0 ?_; (with_reducible refine (spec_l1Cur_pick.calls g s0_0 s0_1 s0_2 6 t144 t145 t146 w0 _ ?side1 ?side2 A2.out).mono ?_); (case side1 => repeat (first | (with_reducible first | exact HI0.out | apply zv1 | apply zv2 | apply zv3 | apply zv4 | apply zv5 | refine zv6 ?_ NB0_143.out _) | exact HI0.out)); (case side2 => repeat (first | (with_reducible first | exact HB.out | apply zya | apply zyp | apply zyr | refine zys ?_ (IsS46.ge HI0.out) | refine zys ?_ GE143.out) | exact HB.out)); rintro e w73 ⟨rfl, hi, hb, hk⟩; refine ⟨_, rfl, ?_⟩; replace BK143 := zm (KeepBut.blk hk (g' := gb143) (o := zcA) (zqK BK143.out) NB143_0.out (by simp)); replace HK := zm (KeepBut.trans zq7 hk (.inl rfl)); replace HB := zm (hb); replace HI0 := zm (hi); (try clear hb); (try clear hb2); (try clear hk); (try clear hi)) | ((with_reducible refine zyg (f := 20) rfl ?_); refine goesL_ (some 9) rfl rfl Try.func20 (by kernel_rfl) rfl #[.pointer (some ⟨g, 0, none⟩), .int .i64 6] rfl zq0 ?_; (with_reducible refine (spec_l1Cur_pick.calls g s0_0 t145 t146 6 t147 t148 t149 w0 _ ?side1 ?side2 A3.out).mono ?_); (case side1 => repeat (first | (with_reducible first | exact HI0.out | apply zv1 | apply zv2 | apply zv3 | apply zv4 | apply zv5 | refine zv6 ?_ NB0_143.out _) | exact HI0.out)); (case side2 => repeat (first | (with_reducible first | exact HB.out | apply zya | apply zyp | apply zyr | refine zys ?_ (IsS46.ge HI0.out) | refine zys ?_ GE143.out) | exact HB.out)); rintro e w74 ⟨rfl, hi, hb, hk⟩; refine ⟨_, rfl, ?_⟩; replace BK143 := zm (KeepBut.blk hk (g' := gb143) (o := zcA) (zqK BK143.out) NB143_0.out (by simp)); replace HK := zm (KeepBut.trans zq7 hk (.inl rfl)); replace HB := zm (hb); replace HI0 := zm (hi); (try clear hb); (try clear hb2); (try clear hk); (try clear hi)) | ((with_reducible refine zyg (f := 41) rfl ?_); refine goesL_ (some 11) rfl rfl Try.func41 (by kernel_rfl) rfl #[.pointer (some ⟨g, 0, none⟩), .int .i64 (wrap64 (1 + t144)), .int .i64 (wrap64 (1 + t147))] rfl zq0 ?_; (with_reducible refine (spec_l1Cur_areaMap.calls k g s0_0 t148 t149 (wrap64 (1 + t144)) (wrap64 (1 + t147)) t150 t151 t152 t155 t156 w0 _ ?side1 ?side2 A4.out).mono ?_); (case side1 => repeat (first | (with_reducible first | exact HI0.out | apply zv1 | apply zv2 | apply zv3 | apply zv4 | apply zv5 | refine zv6 ?_ NB0_143.out _) | exact HI0.out)); (case side2 => repeat (first | (with_reducible first | exact HB.out | apply zya | apply zyp | apply zyr | refine zys ?_ (IsS46.ge HI0.out) | refine zys ?_ GE143.out) | exact HB.out)); rintro e w75 ⟨v153, rfl, ho0, hi, hb, hk⟩; refine ⟨_, rfl, ?_⟩; replace BK143 := zm (KeepBut.blk hk (g' := gb143) (o := zcA) (zqK BK143.out) NB143_0.out (by simp)); have HO154 := zm (Kd.R_lower ho0 (keep_size (w := w) (g := g) (row := none) zq7)); replace HK := zm (KeepBut.trans zq7 hk (.inl rfl)); replace HB := zm (hb); replace HI0 := zm (hi); (try clear hb); (try clear hb2); (try clear hk); (try clear hi); (try clear ho0)) | ((with_reducible refine gate_dst (N := 3) rfl ?_); refine box_event ?hg (N := 3) ?hd (cs := #[.int .i64 0, .int .i64 0, .slice none 0 0]) (t := 26) ?hr ?_; (case hd => rfl); (case hg => rfl); (case hr => exact zqS); intro gb157 hg w76 hbox hb; replace HO154 := zm (Kd.R_below (zqR HO154.out) hb); replace HB := zm (zyh zq82 hb); have BK157 := zm (hbox); have GW157 := zm ((by rw [hg]; exact (keep_size (w := w) (g := g) (row := none) zq7) : w.heap.size ≤ gb157)); have GE157 := zm ((Nat.le_trans HW0.out (by rw [hg]; exact (keep_size (w := w) (g := g) (row := none) zq7) : w.heap.size ≤ gb157) : w0.heap.size ≤ gb157)); replace HK := zm (KeepBut.trans zq7 (KeepBut.of_below hb g none) (.inl rfl)); have NB143_157 := zm ((by rw [hg]; exact Nat.ne_of_lt (blk_lt (g := gb143) (o := zcA) (zqK BK143.out)) : gb143 ≠ gb157)); have NB157_143 := zm ((by rw [hg]; exact Nat.ne_of_gt (blk_lt (g := gb143) (o := zcA) (zqK BK143.out)) : gb157 ≠ gb143)); replace BK143 := zm (zyb (g := gb143) (o := zcA) (zqK BK143.out) hb); have NB0_157 := zm ((by rw [hg]; exact Nat.ne_of_lt (IsS46.lt (show IsS46 w0 _ g s0_0 t155 t156 from by repeat (first | (with_reducible first | exact HI0.out | apply zv1 | apply zv2 | apply zv3 | apply zv4 | apply zv5 | refine zv6 ?_ NB0_143.out _) | exact HI0.out))) : g ≠ gb157)); have NB157_0 := zm ((by rw [hg]; exact Nat.ne_of_gt (IsS46.lt (show IsS46 w0 _ g s0_0 t155 t156 from by repeat (first | (with_reducible first | exact HI0.out | apply zv1 | apply zv2 | apply zv3 | apply zv4 | apply zv5 | refine zv6 ?_ NB0_143.out _) | exact HI0.out))) : gb157 ≠ g)); replace HI0 := zm (IsS46.below zq80 hb); clear hb hbox hg; have hnb77 := NB157_143.out; have hnc77 := NB143_157.out; have hnb78 := NB157_0.out; have hnc78 := NB0_157.out; have hcz79_0 := bz BK157.out 0 (.int .i64 0); have hcz79_1 := bz BK157.out 1 (.int .i64 0); have hcz79_2 := bz BK157.out 2 (.slice none 0 0); have hfz79_0 := zyF BK157.out 0; have hfz79_1 := zyF BK157.out 1; have hfz79_2 := zyF BK157.out 2; obtain ⟨Ao80, co80, eo80⟩ := Kd.R_slice HO154.out; subst eo80) | ((with_reducible refine zyg (f := 20) rfl ?_); refine goesL_ (some 13) rfl rfl Try.func20 (by kernel_rfl) rfl #[.pointer (some ⟨g, 0, none⟩), .int .i64 30] rfl zq0 ?_; (with_reducible refine (spec_l1Cur_pick.calls g s0_0 t155 t156 30 t158 t159 t160 w0 _ ?side1 ?side2 A5.out).mono ?_); (case side1 => repeat (first | (with_reducible first | exact HI0.out | apply zv1 | apply zv2 | apply zv3 | apply zv4 | apply zv5 | refine zv6 ?_ NB0_143.out _ | refine zv6 ?_ NB0_157.out _) | exact HI0.out)); (case side2 => repeat (first | (with_reducible first | exact HB.out | apply zya | apply zyp | apply zyr | refine zys ?_ (IsS46.ge HI0.out) | refine zys ?_ GE143.out | refine zys ?_ GE157.out) | exact HB.out)); rintro e w81 ⟨rfl, hi, hb, hk⟩; refine ⟨_, rfl, ?_⟩; replace BK143 := zm (KeepBut.blk hk (g' := gb143) (o := zcA) zq41 NB143_0.out (by simp)); replace HO154 := zm (Kd.R_mono (Kd.R_keep (IsS46.apart (show IsS46 w0 _ g s0_0 t155 t156 from by repeat (first | (with_reducible first | exact HI0.out | apply zv1 | apply zv2 | apply zv3 | apply zv4 | apply zv5 | refine zv6 ?_ NB0_143.out _ | refine zv6 ?_ NB0_157.out _) | exact HI0.out)) (by (with_reducible repeat (first | apply Kd.R_alloc | apply Kd.R_drewN | apply Kd.R_drew)); exact (Kd.R_mono (Kd.R_far (p := ⟨gb157, 2, none⟩) (Kd.R_far (p := ⟨gb157, 1, none⟩) (Kd.R_far (p := ⟨gb157, 0, none⟩) (Kd.R_types HO154.out BK157.out (by decide)) (fun _ hk => hk.2) (.int .i64 t150)) (fun _ hk => hk.2) (.int .i64 t151)) (fun _ hk => hk.2) (.slice Ao80 t152.length co80)) (fun _ h_ => h_.1))) (by decide)) hk (fun _ h => h.2)) (fun _ h => h.1)); replace BK157 := zm (KeepBut.blk hk (g' := gb157) (o := .cells #[.int .i64 t150, .int .i64 t151, .slice Ao80 t152.length co80] 26 (0, 0)) zq32 NB157_0.out (by simp)); replace HK := zm (KeepBut.trans zq9 hk (.inl rfl)); replace HB := zm (hb); replace HI0 := zm (hi); (try clear hb); (try clear hb2); (try clear hk); (try clear hi); have hcz82_0 := bz BK157.out 0 (.int .i64 t150); have hcz82_1 := bz BK157.out 1 (.int .i64 t151); have hcz82_2 := bz BK157.out 2 (.slice Ao80 t152.length co80); have hfz82_0 := zyF BK157.out 0; have hfz82_1 := zyF BK157.out 1; have hfz82_2 := zyF BK157.out 2; have hnb83 := NB143_0.out; have hnc83 := NB0_143.out; have hcz84_0 := bz BK143.out 0 (.int .i64 0); have hcz84_1 := bz BK143.out 1 (.int .i64 0); have hcz84_2 := bz BK143.out 2 (.slice none 0 0); have hfz84_0 := zyF BK143.out 0; have hfz84_1 := zyF BK143.out 1; have hfz84_2 := zyF BK143.out 2))
   refine bodyPost_ret (results_cell_row rfl _ _ gb143 26 #[.int .i64 t150, .int .i64 t151, .slice Ao80 t152.length co80] (0, 0) _ rfl zq76 Try.underlying26 rfl (by kernel_rfl)) rfl ?_
   exact ⟨_, by first | rfl | (simp [errW_none, errW_some] <;> rfl) | (simp [*, errW_none, errW_some] <;> rfl), by (with_reducible repeat (first | apply Kd.R_alloc | apply Kd.R_drewN | apply Kd.R_drew)); exact Kd.R_mono (Kd.R_far (p := ⟨gb143, 2, none⟩) (Kd.R_far (p := ⟨gb143, 1, none⟩) (Kd.R_far (p := ⟨gb143, 0, none⟩) (Kd.R_types HO154.out BK143.out (by decide)) (fun _ hk => hk.2) (.int .i64 t150)) (fun _ hk => hk.2) (.int .i64 t151)) (fun _ hk => hk.2) (.slice Ao80 t152.length co80)) (fun _ hk => trivial), zq29, zq31, zq9⟩
  rw [if_pos c52] at H
  have c52b0 : (t158 == 2) = true := beq_iff_eq.mpr c52
  have c52b1 : (t158 != 2) = false := bne_eq_false_iff_eq.mpr c52
  clear c52
  obtain ⟨y174, hy174⟩ : ∃ y_ : List Int, y_ = (([0, 9, t151] : List Int)) := ⟨_, rfl⟩
  replace H : ((spec_l1Cur_among.f s0_0 t159 t160 y174).bind fun bt177 => (some (bt177.1, t151, t152, bt177.2.1, bt177.2.2))) = some (r1, r2, r3, r4, r5) := zqH hy174 H
  have Ny174 := zm hy174
  clear hy174
  obtain ⟨⟨t177, t178, t179⟩, A530, H⟩ := zob H
  replace H : (some (t177, t151, t152, t178, t179)) = some (r1, r2, r3, r4, r5) := H
  have A53 := zm A530
  clear A530
  simp only [Option.some.injEq, Prod.mk.injEq] at H
  obtain ⟨rfl, rfl, rfl, rfl, rfl⟩ := H
  go_enter Try.func17, Try.ntmps17
  go_wp2_with (first | ((with_reducible refine gate_dst (N := 2) rfl ?_); refine box_event ?hg (N := 2) ?hd (cs := #[.int .i64 0, .int .i64 0, .slice none 0 0]) (t := 26) ?hr ?_; (case hd => rfl); (case hg => rfl); (case hr => exact zqS); intro gb143 hg w54 hbox hb; replace HB := zm (zyh zq10 hb); have BK143 := zm (hbox); have GW143 := zm ((by rw [hg]; exact (keep_size (w := w) (g := g) (row := none) zq4) : w.heap.size ≤ gb143)); have GE143 := zm ((Nat.le_trans HW0.out (by rw [hg]; exact (keep_size (w := w) (g := g) (row := none) zq4) : w.heap.size ≤ gb143) : w0.heap.size ≤ gb143)); replace HK := zm (KeepBut.trans zq4 (KeepBut.of_below hb g none) (.inl rfl)); have NB0_143 := zm ((by rw [hg]; exact Nat.ne_of_lt (IsS46.lt (show IsS46 w0 _ g s0_0 s0_1 s0_2 from by repeat (first | (with_reducible first | exact HI0.out | apply zv1 | apply zv2 | apply zv3 | apply zv4 | apply zv5) | exact HI0.out))) : g ≠ gb143)); have NB143_0 := zm ((by rw [hg]; exact Nat.ne_of_gt (IsS46.lt (show IsS46 w0 _ g s0_0 s0_1 s0_2 from by repeat (first | (with_reducible first | exact HI0.out | apply zv1 | apply zv2 | apply zv3 | apply zv4 | apply zv5) | exact HI0.out))) : gb143 ≠ g)); replace HI0 := zm (IsS46.below zq15 hb); clear hb hbox hg) | ((with_reducible refine zyg (f := 20) rfl ?_); refine goesL_ (some 6) rfl rfl Try.func20 (by kernel_rfl) rfl #[.pointer (some ⟨g, 0, none⟩), .int .i64 6] rfl zq0 ?_; (with_reducible refine (spec_l1Cur_pick.calls g s0_0 s0_1 s0_2 6 t144 t145 t146 w0 _ ?side1 ?side2 A2.out).mono ?_); (case side1 => repeat (first | (with_reducible first | exact HI0.out | apply zv1 | apply zv2 | apply zv3 | apply zv4 | apply zv5 | refine zv6 ?_ NB0_143.out _) | exact HI0.out)); (case side2 => repeat (first | (with_reducible first | exact HB.out | apply zya | apply zyp | apply zyr | refine zys ?_ (IsS46.ge HI0.out) | refine zys ?_ GE143.out) | exact HB.out)); rintro e w55 ⟨rfl, hi, hb, hk⟩; refine ⟨_, rfl, ?_⟩; replace BK143 := zm (KeepBut.blk hk (g' := gb143) (o := zcA) (zqK BK143.out) NB143_0.out (by simp)); replace HK := zm (KeepBut.trans zq7 hk (.inl rfl)); replace HB := zm (hb); replace HI0 := zm (hi); (try clear hb); (try clear hb2); (try clear hk); (try clear hi)) | ((with_reducible refine zyg (f := 20) rfl ?_); refine goesL_ (some 9) rfl rfl Try.func20 (by kernel_rfl) rfl #[.pointer (some ⟨g, 0, none⟩), .int .i64 6] rfl zq0 ?_; (with_reducible refine (spec_l1Cur_pick.calls g s0_0 t145 t146 6 t147 t148 t149 w0 _ ?side1 ?side2 A3.out).mono ?_); (case side1 => repeat (first | (with_reducible first | exact HI0.out | apply zv1 | apply zv2 | apply zv3 | apply zv4 | apply zv5 | refine zv6 ?_ NB0_143.out _) | exact HI0.out)); (case side2 => repeat (first | (with_reducible first | exact HB.out | apply zya | apply zyp | apply zyr | refine zys ?_ (IsS46.ge HI0.out) | refine zys ?_ GE143.out) | exact HB.out)); rintro e w56 ⟨rfl, hi, hb, hk⟩; refine ⟨_, rfl, ?_⟩; replace BK143 := zm (KeepBut.blk hk (g' := gb143) (o := zcA) (zqK BK143.out) NB143_0.out (by simp)); replace HK := zm (KeepBut.trans zq7 hk (.inl rfl)); replace HB := zm (hb); replace HI0 := zm (hi); (try clear hb); (try clear hb2); (try clear hk); (try clear hi)) | ((with_reducible refine zyg (f := 41) rfl ?_); refine goesL_ (some 11) rfl rfl Try.func41 (by kernel_rfl) rfl #[.pointer (some ⟨g, 0, none⟩), .int .i64 (wrap64 (1 + t144)), .int .i64 (wrap64 (1 + t147))] rfl zq0 ?_; (with_reducible refine (spec_l1Cur_areaMap.calls k g s0_0 t148 t149 (wrap64 (1 + t144)) (wrap64 (1 + t147)) t150 t151 t152 t155 t156 w0 _ ?side1 ?side2 A4.out).mono ?_); (case side1 => repeat (first | (with_reducible first | exact HI0.out | apply zv1 | apply zv2 | apply zv3 | apply zv4 | apply zv5 | refine zv6 ?_ NB0_143.out _) | exact HI0.out)); (case side2 => repeat (first | (with_reducible first | exact HB.out | apply zya | apply zyp | apply zyr | refine zys ?_ (IsS46.ge HI0.out) | refine zys ?_ GE143.out) | exact HB.out)); rintro e w57 ⟨v153, rfl, ho0, hi, hb, hk⟩; refine ⟨_, rfl, ?_⟩; replace BK143 := zm (KeepBut.blk hk (g' := gb143) (o := zcA) (zqK BK143.out) NB143_0.out (by simp)); have HO154 := zm (Kd.R_lower ho0 (keep_size (w := w) (g := g) (row := none) zq7)); replace HK := zm (KeepBut.trans zq7 hk (.inl rfl)); replace HB := zm (hb); replace HI0 := zm (hi); (try clear hb); (try clear hb2); (try clear hk); (try clear hi); (try clear ho0)) | ((with_reducible refine gate_dst (N := 3) rfl ?_); refine box_event ?hg (N := 3) ?hd (cs := #[.int .i64 0, .int .i64 0, .slice none 0 0]) (t := 26) ?hr ?_; (case hd => rfl); (case hg => rfl); (case hr => exact zqS); intro gb157 hg w58 hbox hb; replace HO154 := zm (Kd.R_below (zqR HO154.out) hb); replace HB := zm (zyh zq82 hb); have BK157 := zm (hbox); have GW157 := zm ((by rw [hg]; exact (keep_size (w := w) (g := g) (row := none) zq7) : w.heap.size ≤ gb157)); have GE157 := zm ((Nat.le_trans HW0.out (by rw [hg]; exact (keep_size (w := w) (g := g) (row := none) zq7) : w.heap.size ≤ gb157) : w0.heap.size ≤ gb157)); replace HK := zm (KeepBut.trans zq7 (KeepBut.of_below hb g none) (.inl rfl)); have NB143_157 := zm ((by rw [hg]; exact Nat.ne_of_lt (blk_lt (g := gb143) (o := zcA) (zqK BK143.out)) : gb143 ≠ gb157)); have NB157_143 := zm ((by rw [hg]; exact Nat.ne_of_gt (blk_lt (g := gb143) (o := zcA) (zqK BK143.out)) : gb157 ≠ gb143)); replace BK143 := zm (zyb (g := gb143) (o := zcA) (zqK BK143.out) hb); have NB0_157 := zm ((by rw [hg]; exact Nat.ne_of_lt (IsS46.lt (show IsS46 w0 _ g s0_0 t155 t156 from by repeat (first | (with_reducible first | exact HI0.out | apply zv1 | apply zv2 | apply zv3 | apply zv4 | apply zv5 | refine zv6 ?_ NB0_143.out _) | exact HI0.out))) : g ≠ gb157)); have NB157_0 := zm ((by rw [hg]; exact Nat.ne_of_gt (IsS46.lt (show IsS46 w0 _ g s0_0 t155 t156 from by repeat (first | (with_reducible first | exact HI0.out | apply zv1 | apply zv2 | apply zv3 | apply zv4 | apply zv5 | refine zv6 ?_ NB0_143.out _) | exact HI0.out))) : gb157 ≠ g)); replace HI0 := zm (IsS46.below zq80 hb); clear hb hbox hg; have hnb59 := NB157_143.out; have hnc59 := NB143_157.out; have hnb60 := NB157_0.out; have hnc60 := NB0_157.out; have hcz61_0 := bz BK157.out 0 (.int .i64 0); have hcz61_1 := bz BK157.out 1 (.int .i64 0); have hcz61_2 := bz BK157.out 2 (.slice none 0 0); have hfz61_0 := zyF BK157.out 0; have hfz61_1 := zyF BK157.out 1; have hfz61_2 := zyF BK157.out 2; obtain ⟨Ao62, co62, eo62⟩ := Kd.R_slice HO154.out; subst eo62) | ((with_reducible refine zyg (f := 20) rfl ?_); refine goesL_ (some 13) rfl rfl Try.func20 (by kernel_rfl) rfl #[.pointer (some ⟨g, 0, none⟩), .int .i64 30] rfl zq0 ?_; (with_reducible refine (spec_l1Cur_pick.calls g s0_0 t155 t156 30 t158 t159 t160 w0 _ ?side1 ?side2 A5.out).mono ?_); (case side1 => repeat (first | (with_reducible first | exact HI0.out | apply zv1 | apply zv2 | apply zv3 | apply zv4 | apply zv5 | refine zv6 ?_ NB0_143.out _ | refine zv6 ?_ NB0_157.out _) | exact HI0.out)); (case side2 => repeat (first | (with_reducible first | exact HB.out | apply zya | apply zyp | apply zyr | refine zys ?_ (IsS46.ge HI0.out) | refine zys ?_ GE143.out | refine zys ?_ GE157.out) | exact HB.out)); rintro e w63 ⟨rfl, hi, hb, hk⟩; refine ⟨_, rfl, ?_⟩; replace BK143 := zm (KeepBut.blk hk (g' := gb143) (o := zcA) zq41 NB143_0.out (by simp)); replace HO154 := zm (Kd.R_mono (Kd.R_keep (IsS46.apart (show IsS46 w0 _ g s0_0 t155 t156 from by repeat (first | (with_reducible first | exact HI0.out | apply zv1 | apply zv2 | apply zv3 | apply zv4 | apply zv5 | refine zv6 ?_ NB0_143.out _ | refine zv6 ?_ NB0_157.out _) | exact HI0.out)) (by (with_reducible repeat (first | apply Kd.R_alloc | apply Kd.R_drewN | apply Kd.R_drew)); exact (Kd.R_mono (Kd.R_far (p := ⟨gb157, 2, none⟩) (Kd.R_far (p := ⟨gb157, 1, none⟩) (Kd.R_far (p := ⟨gb157, 0, none⟩) (Kd.R_types HO154.out BK157.out (by decide)) (fun _ hk => hk.2) (.int .i64 t150)) (fun _ hk => hk.2) (.int .i64 t151)) (fun _ hk => hk.2) (.slice Ao62 t152.length co62)) (fun _ h_ => h_.1))) (by decide)) hk (fun _ h => h.2)) (fun _ h => h.1)); replace BK157 := zm (KeepBut.blk hk (g' := gb157) (o := .cells #[.int .i64 t150, .int .i64 t151, .slice Ao62 t152.length co62] 26 (0, 0)) zq32 NB157_0.out (by simp)); replace HK := zm (KeepBut.trans zq9 hk (.inl rfl)); replace HB := zm (hb); replace HI0 := zm (hi); (try clear hb); (try clear hb2); (try clear hk); (try clear hi); have hcz64_0 := bz BK157.out 0 (.int .i64 t150); have hcz64_1 := bz BK157.out 1 (.int .i64 t151); have hcz64_2 := bz BK157.out 2 (.slice Ao62 t152.length co62); have hfz64_0 := zyF BK157.out 0; have hfz64_1 := zyF BK157.out 1; have hfz64_2 := zyF BK157.out 2) | ((with_reducible refine gate_dst (N := 39) rfl ?_); refine Kd.R_lit (Kd.int .i64) _ 3 ?hg (N := 39) ?hd (xs := ([0, 9, t151] : List Int)) (inner := [.int .i64 0, .int .i64 9, .int .i64 t151]) (ok := fun _ => True) (okp := fun _ => True) ?hr ?hp (fun _ hk => hk) trivial (Below.refl _ _) (Nat.le_refl _) (by simp) ?_; (case hd => rfl); (case hg => rfl); (case hr => exact zqS); (case hp => exact (Reps.one (show Kd.M (Kd.int .i64) _ _ _ 0 [.int .i64 0] from rfl) (Reps.one (show Kd.M (Kd.int .i64) _ _ _ 9 [.int .i64 9] from rfl) (Reps.one (show Kd.M (Kd.int .i64) _ _ _ t151 [.int .i64 t151] from rfl) (Reps.none _ _))))); intro v175 w65 ho66 hb hg_ hnew_; clear hg_ hnew_; (first | rw [← Ny174.out] at ho66 | (simp only [Int.reduceToNat] at ho66; rw [← Ny174.out] at ho66)); have HO176 := zm (Kd.R_lower (Kd.R_new' ho66 (Kd.R_lt (zqR HO154.out))) (keep_size (w := w) (g := g) (row := none) zq9)); replace HO154 := zm (Kd.R_elder' (zqR HO154.out) (Kd.R_base ho66) hb); replace BK143 := zm (zyb (g := gb143) (o := zcA) (zqK BK143.out) hb); replace BK157 := zm (zyb (g := gb157) (o := .cells #[.int .i64 t150, .int .i64 t151, .slice Ao62 t152.length co62] 26 (0, 0)) (zqK BK157.out) hb); replace HK := zm (KeepBut.trans zq9 (KeepBut.of_below hb g none) (.inl rfl)); replace HB := zm (zyh zq31 hb); replace HI0 := zm (IsS46.below zq29 hb); clear hb ho66; obtain ⟨Ao67, co67, eo67⟩ := Kd.R_slice HO176.out; subst eo67) | ((with_reducible refine zyg (f := 19) rfl ?_); refine goesL_ (some 40) rfl rfl Try.func19 (by kernel_rfl) rfl #[.pointer (some ⟨g, 0, none⟩), .slice Ao67 y174.length co67] rfl zq0 ?_; (with_reducible refine (spec_l1Cur_among.calls g s0_0 t159 t160 _ _ y174 t177 t178 t179 w0 _ ?side1 ?side2 ?side3 ?side4 ?side5 A53.out).mono ?_); (case side1 => repeat (first | (with_reducible first | exact HI0.out | apply zv1 | apply zv2 | apply zv3 | apply zv4 | apply zv5 | refine zv6 ?_ NB0_143.out _ | refine zv6 ?_ NB0_157.out _) | exact HI0.out)); (case side2 => repeat (first | (with_reducible first | exact HB.out | apply zya | apply zyp | apply zyr | refine zys ?_ (IsS46.ge HI0.out) | refine zys ?_ GE143.out | refine zys ?_ GE157.out) | exact HB.out)); (case side3 => exact zqC (Kd.R_reads' HO176.out).2.2); (case side4 => exact (Kd.R_reads' HO176.out).2.1); (case side5 => exact far_slice (IsS46.own_ne HI0.out HO176.out (by decide))); rintro e w68 ⟨rfl, hi, hb, hk⟩; refine ⟨_, rfl, ?_⟩; replace BK143 := zm (KeepBut.blk hk (g' := gb143) (o := zcA) (zqK BK143.out) NB143_0.out (by simp)); replace HO154 := zm (Kd.R_mono (Kd.R_keep (IsS46.apart (show IsS46 w0 _ g s0_0 t159 t160 from by repeat (first | (with_reducible first | exact HI0.out | apply zv1 | apply zv2 | apply zv3 | apply zv4 | apply zv5 | refine zv6 ?_ NB0_143.out _ | refine zv6 ?_ NB0_157.out _) | exact HI0.out)) (zqR HO154.out) (by decide)) hk (fun _ h => h.2)) (fun _ h => h.1)); replace BK157 := zm (KeepBut.blk hk (g' := gb157) (o := .cells #[.int .i64 t150, .int .i64 t151, .slice Ao62 t152.length co62] 26 (0, 0)) (zqK BK157.out) NB157_0.out (by simp)); replace HO176 := zm (Kd.R_mono (Kd.R_keep (IsS46.apart (show IsS46 w0 _ g s0_0 t159 t160 from by repeat (first | (with_reducible first | exact HI0.out | apply zv1 | apply zv2 | apply zv3 | apply zv4 | apply zv5 | refine zv6 ?_ NB0_143.out _ | refine zv6 ?_ NB0_157.out _) | exact HI0.out)) (zqR HO176.out) (by decide)) hk (fun _ h => h.2)) (fun _ h => h.1)); replace HK := zm (KeepBut.trans zq9 hk (.inl rfl)); replace HB := zm (hb); replace HI0 := zm (hi); (try clear hb); (try clear hb2); (try clear hk); (try clear hi); have hcz69_0 := bz BK157.out 0 (.int .i64 t150); have hcz69_1 := bz BK157.out 1 (.int .i64 t151); have hcz69_2 := bz BK157.out 2 (.slice Ao62 t152.length co62); have hfz69_0 := zyF BK157.out 0; have hfz69_1 := zyF BK157.out 1; have hfz69_2 := zyF BK157.out 2; have hnb70 := NB143_0.out; have hnc70 := NB0_143.out; have hcz71_0 := bz BK143.out 0 (.int .i64 0); have hcz71_1 := bz BK143.out 1 (.int .i64 0); have hcz71_2 := bz BK143.out 2 (.slice none 0 0); have hfz71_0 := zyF BK143.out 0; have hfz71_1 := zyF BK143.out 1; have hfz71_2 := zyF BK143.out 2))
  refine bodyPost_ret (results_cell_row rfl _ _ gb143 26 #[.int .i64 t177, .int .i64 t151, .slice Ao62 t152.length co62] (0, 0) _ rfl (by (with_reducible repeat (first | apply zN | apply zD | apply zL)); refine blk_put (cs := #[.int .i64 t177, .int .i64 t151, .slice none 0 0]) ?_ 2 _ rfl; (with_reducible repeat (first | apply zN | apply zD | apply zL)); refine blk_put (cs := #[.int .i64 t177, .int .i64 0, .slice none 0 0]) ?_ 1 _ rfl; (with_reducible repeat (first | apply zN | apply zD | apply zL)); refine blk_put (cs := #[.int .i64 0, .int .i64 0, .slice none 0 0]) ?_ 0 _ rfl; (with_reducible repeat (first | apply zN | apply zD | apply zL)); refine zye ?_ NB143_157.out _; (with_reducible repeat (first | apply zN | apply zD | apply zL)); exact BK143.out) Try.underlying26 rfl (by kernel_rfl)) rfl ?_
  exact ⟨_, by first | rfl | (simp [errW_none, errW_some] <;> rfl) | (simp [*, errW_none, errW_some] <;> rfl), by (with_reducible repeat (first | apply Kd.R_alloc | apply Kd.R_drewN | apply Kd.R_drew)); exact Kd.R_mono (Kd.R_far (p := ⟨gb143, 2, none⟩) (Kd.R_far (p := ⟨gb143, 1, none⟩) (Kd.R_far (p := ⟨gb143, 0, none⟩) (Kd.R_far (p := ⟨gb157, 0, none⟩) (Kd.R_types (Kd.R_types HO154.out BK157.out (by decide)) BK143.out (by decide)) (fun _ hk => hk.1.2) (.int .i64 t177)) (fun _ hk => hk.2) (.int .i64 t177)) (fun _ hk => hk.2) (.int .i64 t151)) (fun _ hk => hk.2) (.slice Ao62 t152.length co62)) (fun _ hk => trivial), zq29, zq31, zq9⟩
 rw [if_pos c24] at H
 have c24b0 : (t158 == 1) = true := beq_iff_eq.mpr c24
 have c24b1 : (t158 != 1) = false := bne_eq_false_iff_eq.mpr c24
 clear c24
 obtain ⟨⟨t164, t165, t166⟩, A250, H⟩ := zob H
 replace H : ((spec_l1Cur_among.f s0_0 t165 t166 (([(-1), 10] : List Int))).bind fun bt170 => (if 0 ≤ t164 then (if t164 < (t152.length : Int) then (some (t150, t151, (t152.set (t164 : Int).toNat bt170.1), bt170.2.1, bt170.2.2)) else (none)) else (none))) = some (r1, r2, r3, r4, r5) := H
 have A25 := zm A250
 clear A250
 obtain ⟨y167, hy167⟩ : ∃ y_ : List Int, y_ = (([(-1), 10] : List Int)) := ⟨_, rfl⟩
 replace H : ((spec_l1Cur_among.f s0_0 t165 t166 y167).bind fun bt170 => (if 0 ≤ t164 then (if t164 < (t152.length : Int) then (some (t150, t151, (t152.set (t164 : Int).toNat bt170.1), bt170.2.1, bt170.2.2)) else (none)) else (none))) = some (r1, r2, r3, r4, r5) := zqH hy167 H
 have Ny167 := zm hy167
 clear hy167
 obtain ⟨⟨t170, t171, t172⟩, A260, H⟩ := zob H
 replace H : (if 0 ≤ t164 then (if t164 < (t152.length : Int) then (some (t150, t151, (t152.set (t164 : Int).toNat t170), t171, t172)) else (none)) else (none)) = some (r1, r2, r3, r4, r5) := H
 have A26 := zm A260
 clear A260
 by_cases c27 : 0 ≤ t164
 case neg =>
  rw [if_neg c27] at H
  exact absurd H (by simp)
 rw [if_pos c27] at H
 have c27b0 : decide (0 ≤ t164) = true := decide_eq_true c27
 clear c27
 by_cases c28 : t164 < (t152.length : Int)
 case neg =>
  rw [if_neg c28] at H
  exact absurd H (by simp)
 rw [if_pos c28] at H
 have c28b0 : decide (t164 < (t152.length : Int)) = true := decide_eq_true c28
 clear c28
 obtain ⟨y173, hy173⟩ : ∃ y_ : List Int, y_ = (t152.set (t164 : Int).toNat t170) := ⟨_, rfl⟩
 replace H : (some (t150, t151, y173, t171, t172)) = some (r1, r2, r3, r4, r5) := zqH hy173 H
 have Ny173 := zm hy173
 clear hy173
 simp only [Option.some.injEq, Prod.mk.injEq] at H
 obtain ⟨rfl, rfl, rfl, rfl, rfl⟩ := H
 go_enter Try.func17, Try.ntmps17
 try go_wp2_with (first | ((with_reducible refine gate_dst (N := 2) rfl ?_); refine box_event ?hg (N := 2) ?hd (cs := #[.int .i64 0, .int .i64 0, .slice none 0 0]) (t := 26) ?hr ?_; (case hd => rfl); (case hg => rfl); (case hr => exact zqS); intro gb143 hg w30 hbox hb; replace HB := zm (zyh zq10 hb); have BK143 := zm (hbox); have GW143 := zm ((by rw [hg]; exact (keep_size (w := w) (g := g) (row := none) zq4) : w.heap.size ≤ gb143)); have GE143 := zm ((Nat.le_trans HW0.out (by rw [hg]; exact (keep_size (w := w) (g := g) (row := none) zq4) : w.heap.size ≤ gb143) : w0.heap.size ≤ gb143)); replace HK := zm (KeepBut.trans zq4 (KeepBut.of_below hb g none) (.inl rfl)); have NB0_143 := zm ((by rw [hg]; exact Nat.ne_of_lt (IsS46.lt (show IsS46 w0 _ g s0_0 s0_1 s0_2 from by repeat (first | (with_reducible first | exact HI0.out | apply zv1 | apply zv2 | apply zv3 | apply zv4 | apply zv5) | exact HI0.out))) : g ≠ gb143)); have NB143_0 := zm ((by rw [hg]; exact Nat.ne_of_gt (IsS46.lt (show IsS46 w0 _ g s0_0 s0_1 s0_2 from by repeat (first | (with_reducible first | exact HI0.out | apply zv1 | apply zv2 | apply zv3 | apply zv4 | apply zv5) | exact HI0.out))) : gb143 ≠ g)); replace HI0 := zm (IsS46.below zq15 hb); clear hb hbox hg) | ((with_reducible refine zyg (f := 20) rfl ?_); refine goesL_ (some 6) rfl rfl Try.func20 (by kernel_rfl) rfl #[.pointer (some ⟨g, 0, none⟩), .int .i64 6] rfl zq0 ?_; (with_reducible refine (spec_l1Cur_pick.calls g s0_0 s0_1 s0_2 6 t144 t145 t146 w0 _ ?side1 ?side2 A2.out).mono ?_); (case side1 => repeat (first | (with_reducible first | exact HI0.out | apply zv1 | apply zv2 | apply zv3 | apply zv4 | apply zv5 | refine zv6 ?_ NB0_143.out _) | exact HI0.out)); (case side2 => repeat (first | (with_reducible first | exact HB.out | apply zya | apply zyp | apply zyr | refine zys ?_ (IsS46.ge HI0.out) | refine zys ?_ GE143.out) | exact HB.out)); rintro e w31 ⟨rfl, hi, hb, hk⟩; refine ⟨_, rfl, ?_⟩; replace BK143 := zm (KeepBut.blk hk (g' := gb143) (o := zcA) (zqK BK143.out) NB143_0.out (by simp)); replace HK := zm (KeepBut.trans zq7 hk (.inl rfl)); replace HB := zm (hb); replace HI0 := zm (hi); (try clear hb); (try clear hb2); (try clear hk); (try clear hi)) | ((with_reducible refine zyg (f := 20) rfl ?_); refine goesL_ (some 9) rfl rfl Try.func20 (by kernel_rfl) rfl #[.pointer (some ⟨g, 0, none⟩), .int .i64 6] rfl zq0 ?_; (with_reducible refine (spec_l1Cur_pick.calls g s0_0 t145 t146 6 t147 t148 t149 w0 _ ?side1 ?side2 A3.out).mono ?_); (case side1 => repeat (first | (with_reducible first | exact HI0.out | apply zv1 | apply zv2 | apply zv3 | apply zv4 | apply zv5 | refine zv6 ?_ NB0_143.out _) | exact HI0.out)); (case side2 => repeat (first | (with_reducible first | exact HB.out | apply zya | apply zyp | apply zyr | refine zys ?_ (IsS46.ge HI0.out) | refine zys ?_ GE143.out) | exact HB.out)); rintro e w32 ⟨rfl, hi, hb, hk⟩; refine ⟨_, rfl, ?_⟩; replace BK143 := zm (KeepBut.blk hk (g' := gb143) (o := zcA) (zqK BK143.out) NB143_0.out (by simp)); replace HK := zm (KeepBut.trans zq7 hk (.inl rfl)); replace HB := zm (hb); replace HI0 := zm (hi); (try clear hb); (try clear hb2); (try clear hk); (try clear hi)) | ((with_reducible refine zyg (f := 41) rfl ?_); refine goesL_ (some 11) rfl rfl Try.func41 (by kernel_rfl) rfl #[.pointer (some ⟨g, 0, none⟩), .int .i64 (wrap64 (1 + t144)), .int .i64 (wrap64 (1 + t147))] rfl zq0 ?_; (with_reducible refine (spec_l1Cur_areaMap.calls k g s0_0 t148 t149 (wrap64 (1 + t144)) (wrap64 (1 + t147)) t150 t151 t152 t155 t156 w0 _ ?side1 ?side2 A4.out).mono ?_); (case side1 => repeat (first | (with_reducible first | exact HI0.out | apply zv1 | apply zv2 | apply zv3 | apply zv4 | apply zv5 | refine zv6 ?_ NB0_143.out _) | exact HI0.out)); (case side2 => repeat (first | (with_reducible first | exact HB.out | apply zya | apply zyp | apply zyr | refine zys ?_ (IsS46.ge HI0.out) | refine zys ?_ GE143.out) | exact HB.out)); rintro e w33 ⟨v153, rfl, ho0, hi, hb, hk⟩; refine ⟨_, rfl, ?_⟩; replace BK143 := zm (KeepBut.blk hk (g' := gb143) (o := zcA) (zqK BK143.out) NB143_0.out (by simp)); have HO154 := zm (Kd.R_lower ho0 (keep_size (w := w) (g := g) (row := none) zq7)); replace HK := zm (KeepBut.trans zq7 hk (.inl rfl)); replace HB := zm (hb); replace HI0 := zm (hi); (try clear hb); (try clear hb2); (try clear hk); (try clear hi); (try clear ho0)) | ((with_reducible refine gate_dst (N := 3) rfl ?_); refine box_event ?hg (N := 3) ?hd (cs := #[.int .i64 0, .int .i64 0, .slice none 0 0]) (t := 26) ?hr ?_; (case hd => rfl); (case hg => rfl); (case hr => exact zqS); intro gb157 hg w34 hbox hb; replace HO154 := zm (Kd.R_below (zqR HO154.out) hb); replace HB := zm (zyh zq82 hb); have BK157 := zm (hbox); have GW157 := zm ((by rw [hg]; exact (keep_size (w := w) (g := g) (row := none) zq7) : w.heap.size ≤ gb157)); have GE157 := zm ((Nat.le_trans HW0.out (by rw [hg]; exact (keep_size (w := w) (g := g) (row := none) zq7) : w.heap.size ≤ gb157) : w0.heap.size ≤ gb157)); replace HK := zm (KeepBut.trans zq7 (KeepBut.of_below hb g none) (.inl rfl)); have NB143_157 := zm ((by rw [hg]; exact Nat.ne_of_lt (blk_lt (g := gb143) (o := zcA) (zqK BK143.out)) : gb143 ≠ gb157)); have NB157_143 := zm ((by rw [hg]; exact Nat.ne_of_gt (blk_lt (g := gb143) (o := zcA) (zqK BK143.out)) : gb157 ≠ gb143)); replace BK143 := zm (zyb (g := gb143) (o := zcA) (zqK BK143.out) hb); have NB0_157 := zm ((by rw [hg]; exact Nat.ne_of_lt (IsS46.lt (show IsS46 w0 _ g s0_0 t155 t156 from by repeat (first | (with_reducible first | exact HI0.out | apply zv1 | apply zv2 | apply zv3 | apply zv4 | apply zv5 | refine zv6 ?_ NB0_143.out _) | exact HI0.out))) : g ≠ gb157)); have NB157_0 := zm ((by rw [hg]; exact Nat.ne_of_gt (IsS46.lt (show IsS46 w0 _ g s0_0 t155 t156 from by repeat (first | (with_reducible first | exact HI0.out | apply zv1 | apply zv2 | apply zv3 | apply zv4 | apply zv5 | refine zv6 ?_ NB0_143.out _) | exact HI0.out))) : gb157 ≠ g)); replace HI0 := zm (IsS46.below zq80 hb); clear hb hbox hg; have hnb35 := NB157_143.out; have hnc35 := NB143_157.out; have hnb36 := NB157_0.out; have hnc36 := NB0_157.out; have hcz37_0 := bz BK157.out 0 (.int .i64 0); have hcz37_1 := bz BK157.out 1 (.int .i64 0); have hcz37_2 := bz BK157.out 2 (.slice none 0 0); have hfz37_0 := zyF BK157.out 0; have hfz37_1 := zyF BK157.out 1; have hfz37_2 := zyF BK157.out 2; obtain ⟨Ao38, co38, eo38⟩ := Kd.R_slice HO154.out; subst eo38) | ((with_reducible refine zyg (f := 20) rfl ?_); refine goesL_ (some 13) rfl rfl Try.func20 (by kernel_rfl) rfl #[.pointer (some ⟨g, 0, none⟩), .int .i64 30] rfl zq0 ?_; (with_reducible refine (spec_l1Cur_pick.calls g s0_0 t155 t156 30 t158 t159 t160 w0 _ ?side1 ?side2 A5.out).mono ?_); (case side1 => repeat (first | (with_reducible first | exact HI0.out | apply zv1 | apply zv2 | apply zv3 | apply zv4 | apply zv5 | refine zv6 ?_ NB0_143.out _ | refine zv6 ?_ NB0_157.out _) | exact HI0.out)); (case side2 => repeat (first | (with_reducible first | exact HB.out | apply zya | apply zyp | apply zyr | refine zys ?_ (IsS46.ge HI0.out) | refine zys ?_ GE143.out | refine zys ?_ GE157.out) | exact HB.out)); rintro e w39 ⟨rfl, hi, hb, hk⟩; refine ⟨_, rfl, ?_⟩; replace BK143 := zm (KeepBut.blk hk (g' := gb143) (o := zcA) zq41 NB143_0.out (by simp)); replace HO154 := zm (Kd.R_mono (Kd.R_keep (IsS46.apart (show IsS46 w0 _ g s0_0 t155 t156 from by repeat (first | (with_reducible first | exact HI0.out | apply zv1 | apply zv2 | apply zv3 | apply zv4 | apply zv5 | refine zv6 ?_ NB0_143.out _ | refine zv6 ?_ NB0_157.out _) | exact HI0.out)) (by (with_reducible repeat (first | apply Kd.R_alloc | apply Kd.R_drewN | apply Kd.R_drew)); exact (Kd.R_mono (Kd.R_far (p := ⟨gb157, 2, none⟩) (Kd.R_far (p := ⟨gb157, 1, none⟩) (Kd.R_far (p := ⟨gb157, 0, none⟩) (Kd.R_types HO154.out BK157.out (by decide)) (fun _ hk => hk.2) (.int .i64 t150)) (fun _ hk => hk.2) (.int .i64 t151)) (fun _ hk => hk.2) (.slice Ao38 t152.length co38)) (fun _ h_ => h_.1))) (by decide)) hk (fun _ h => h.2)) (fun _ h => h.1)); replace BK157 := zm (KeepBut.blk hk (g' := gb157) (o := .cells #[.int .i64 t150, .int .i64 t151, .slice Ao38 t152.length co38] 26 (0, 0)) zq32 NB157_0.out (by simp)); replace HK := zm (KeepBut.trans zq9 hk (.inl rfl)); replace HB := zm (hb); replace HI0 := zm (hi); (try clear hb); (try clear hb2); (try clear hk); (try clear hi)))
 have n0_ := zm (Kd.R_drew HO154.out)
 have n1_ := zm (zD BK143.out)
 have n2_ := zm (zD BK157.out)
 have n3_ := zm (zv3 HI0.out)
 have n4_ := zm (keep_drew HK.out)
 have n5_ := zm (zyr HB.out)
 clear HO154
 clear BK143
 clear BK157
 clear HI0
 clear HK
 clear HB
 have HO154 := n0_
 have BK143 := n1_
 have BK157 := n2_
 have HI0 := n3_
 have HK := n4_
 have HB := n5_
 clear n0_ n1_ n2_ n3_ n4_ n5_
 refine start_ (n := 12) (S := fun w' => w'.cell? ⟨gb157, 0, none⟩ = some (.int .i64 t150) ∧ w'.cell? ⟨gb157, 1, none⟩ = some (.int .i64 t151) ∧ w'.cell? ⟨gb157, 2, none⟩ = some (.slice Ao38 t152.length co38)) (ds := [11]) #[zf, zf, zf, zf, zf, zf, zf, zf, zf, zf, zf, zf] (by kernel_rfl) rfl rfl ⟨(zyk BK157.out 0).trans rfl, (zyk BK157.out 1).trans rfl, (zyk BK157.out 2).trans rfl⟩ (fun hHeld => ?_); refine with_tabW spec_l1Cur_anyAreaMap.tab6 spec_l1Cur_anyAreaMap.bits6 (fun HT_ HW_ => ?_)
 generalize w39.drew = w40 at HO154 BK143 BK157 HI0 HK HB hHeld ⊢
 refine zP 0 (some 23) #[zt, zf, zf, zf, zf, zf, zf, zf, zf, zf, zf, zf] ?_ rfl rfl HT_ (Or.inl ⟨by rfl, ?_⟩) ?_ ?_ ?_
 rotate_left; · exact zqB
 rotate_left; · exact zqA
 refine zP 2 (some 25) #[zt, zf, zt, zf, zf, zf, zf, zf, zf, zf, zf, zf] ?_ rfl rfl HT_ (Or.inl ⟨by rfl, ?_⟩) ?_ ?_ ?_
 rotate_left; · exact zqB
 rotate_left; · exact zqA
 refine zP 3 (some 26) #[zt, zf, zt, zt, zf, zf, zf, zf, zf, zf, zf, zf] ?_ rfl rfl HT_ (Or.inl ⟨by rfl, ?_⟩) ?_ ?_ ?_
 rotate_left; · exact zqB
 rotate_left; · exact zqA
 refine zP 7 (some 30) #[zt, zf, zt, zt, zf, zf, zf, zt, zf, zf, zf, zf] ?_ rfl rfl HT_ (Or.inl ⟨by rfl, ?_⟩) ?_ ?_ ?_
 rotate_left; · exact zqB
 rotate_left; · exact zqA
 refine zT 1 (some 24) #[zt, zt, zt, zt, zf, zf, zf, zt, zf, zf, zf, zf] ?_ rfl rfl HT_ HW_ (Or.inl ⟨by rfl, ?_⟩) hHeld ?_ ?_ ?_
 rotate_left
 ·
  rintro w' ⟨s0, s1, s2⟩
  go_simp
  with_reducible rfl
 rotate_left; · exact zqA
 refine zT 4 (some 27) #[zt, zt, zt, zt, zt, zf, zf, zt, zf, zf, zf, zf] ?_ rfl rfl HT_ HW_ (Or.inl ⟨by rfl, ?_⟩) hHeld ?_ ?_ ?_
 rotate_left
 ·
  rintro w' ⟨s0, s1, s2⟩
  go_simp
  with_reducible rfl
 rotate_left; · exact zqA
 refine zP 5 (some 28) #[zt, zt, zt, zt, zt, zt, zf, zt, zf, zf, zf, zf] ?_ rfl rfl HT_ (Or.inl ⟨by rfl, ?_⟩) ?_ ?_ ?_
 rotate_left; · exact zqB
 rotate_left; · exact zqA
 refine join_ (σ := Value) 3 #[zt, zt, zt, zt, zt, zt, zt, zt, zt, zf, zf, zf] (fun s_ => [(29, .int .i64 t164), (31, s_)]) (fun s_ w' => (w'.cell? ⟨gb157, 0, none⟩ = some (.int .i64 t150) ∧ w'.cell? ⟨gb157, 1, none⟩ = some (.int .i64 t151) ∧ w'.cell? ⟨gb157, 2, none⟩ = some (.slice Ao38 t152.length co38)) ∧ (Kd.R (Kd.int .i64) 3 w' w.heap.size (fun k_ => some k_ ≠ (s_ : Value).ownBlock) (.slice Ao38 t152.length co38) t152) ∧ (Kd.R (Kd.int .i64) 3 w' w.heap.size (fun k_ => some k_ ≠ (.slice Ao38 t152.length co38 : Value).ownBlock) s_ y167) ∧ (w'.heap[gb143]? = some (.cells #[.int .i64 0, .int .i64 0, .slice none 0 0] 26 (0, 0))) ∧ (w'.heap[gb157]? = some (.cells #[.int .i64 t150, .int .i64 t151, .slice Ao38 t152.length co38] 26 (0, 0))) ∧ (IsS46 w0 w' g s0_0 t165 t166) ∧ (KeepBut w w' g none) ∧ (Below w0.heap.size w0 w')) ?_ ?_
 rotate_left
 ·
  intro hCont
  refine two_ (i := 6) (j := 8) (Ni := some 29) (Nj := some 31) #[zt, zt, zt, zt, zt, zt, zt, zt, zf, zf, zf, zf] #[zt, zt, zt, zt, zt, zt, zf, zt, zt, zf, zf, zf] rfl rfl rfl rfl (two_of HT_.out (by kernel_rfl)) (by decide) (by decide) (fun K hK => ?_) (fun K hK => ?_)
  ·
   skip
   refine goes_ Try.func20 (by kernel_rfl) rfl #[.pointer (some ⟨g, 0, none⟩), .int .i64 (t152.length : Int)] (by rfl) rfl rfl zq0 ?_
   with_reducible refine (spec_l1Cur_pick.calls g s0_0 t159 t160 (t152.length : Int) t164 t165 t166 w0 _ ?side1 ?side2 A25.out).mono ?_
   (case side1 => repeat (first | (with_reducible first | exact HI0.out | apply zv1 | apply zv2 | apply zv3 | apply zv4 | apply zv5 | refine zv6 ?_ NB0_143.out _ | refine zv6 ?_ NB0_157.out _) | exact HI0.out))
   (case side2 => repeat (first | (with_reducible first | exact HB.out | apply zya | apply zyp | apply zyr | refine zys ?_ (IsS46.ge HI0.out) | refine zys ?_ GE143.out | refine zys ?_ GE157.out) | exact HB.out))
   rintro e w41 ⟨rfl, hi, hb, hk⟩
   refine ⟨_, rfl, ?_⟩
   have n0_ := zm (KeepBut.blk hk (g' := gb143) (o := zcA) (zqK BK143.out) NB143_0.out (by simp))
   have n1_ := zm (Kd.R_mono (Kd.R_keep (IsS46.apart (show IsS46 w0 _ g s0_0 t159 t160 from by repeat (first | (with_reducible first | exact HI0.out | apply zv1 | apply zv2 | apply zv3 | apply zv4 | apply zv5 | refine zv6 ?_ NB0_143.out _ | refine zv6 ?_ NB0_157.out _) | exact HI0.out)) (zqR HO154.out) (by decide)) hk (fun _ h => h.2)) (fun _ h => h.1))
   have n2_ := zm (KeepBut.blk hk (g' := gb157) (o := .cells #[.int .i64 t150, .int .i64 t151, .slice Ao38 t152.length co38] 26 (0, 0)) (zqK BK157.out) NB157_0.out (by simp))
   have n3_ := zm (KeepBut.trans zq9 hk (.inl rfl))
   have n4_ := zm (hb)
   have n5_ := zm (hi)
   clear BK143
   clear HO154
   clear BK157
   clear HK
   clear HB
   clear HI0
   have BK143 := n0_
   have HO154 := n1_
   have BK157 := n2_
   have HK := n3_
   have HB := n4_
   have HI0 := n5_
   clear n0_ n1_ n2_ n3_ n4_ n5_
   (try clear hb)
   (try clear hb2)
   (try clear hk)
   (try clear hi)
   refine hK.out _ _ ⟨(zyk BK157.out 0).trans rfl, (zyk BK157.out 1).trans rfl, (zyk BK157.out 2).trans rfl⟩ (fun hHeld => ?_)
   clear hK K
   refine norm_ (a' := ?_) ?_ ?_
   rotate_left
   ·
    show Act.put _ (some 29) _ = _
    simp only [Act.put, List.setIfInBounds_toArray, List.set_cons_zero, List.set_cons_succ, i64_w, i32_w]
    rfl
   refine one_ (i := 8) (N := some 31) #[zt, zt, zt, zt, zt, zt, zt, zt, zt, zf, zf, zf] rfl rfl (one_of HT_.out (by kernel_rfl)) (by decide) (fun K hK => ?_)
   refine Kd.R_lit_step (Kd.int .i64) _ 3 ?hg (N := 31) ?hd (xs := ([(-1), 10] : List Int)) (inner := [.int .i64 (-1), .int .i64 10]) (ok := fun _ => True) (okp := fun _ => True) ?hr ?hp (fun _ hk => hk) trivial (Below.refl _ _) (Nat.le_refl _) (by simp) ?_; (case hd => rfl); (case hg => rfl); (case hr => exact zqS); (case hp => exact (Reps.one (show Kd.M (Kd.int .i64) _ _ _ (-1) [.int .i64 (-1)] from rfl) (Reps.one (show Kd.M (Kd.int .i64) _ _ _ 10 [.int .i64 10] from rfl) (Reps.none _ _))))
   intro v168 w42 ho43 hb hg_ hnew_
   clear hg_ hnew_
   (first | rw [← Ny167.out] at ho43 | (simp only [Int.reduceToNat] at ho43; rw [← Ny167.out] at ho43))
   have n0_ := zm (Kd.R_elder' (zqR HO154.out) (Kd.R_base ho43) hb)
   have n1_ := zm (Kd.R_lower (Kd.R_new' ho43 (Kd.R_lt (zqR HO154.out))) (keep_size (w := w) (g := g) (row := none) zq9))
   have n2_ := zm (IsS46.below zq29 hb)
   have n3_ := zm (zyb (g := gb143) (o := zcA) (zqK BK143.out) hb)
   have n4_ := zm (zyb (g := gb157) (o := .cells #[.int .i64 t150, .int .i64 t151, .slice Ao38 t152.length co38] 26 (0, 0)) (zqK BK157.out) hb)
   have n5_ := zm (KeepBut.trans zq9 (KeepBut.of_below hb g none) (.inl rfl))
   have n6_ := zm (zyh zq31 hb)
   clear HO154
   clear HI0
   clear BK143
   clear BK157
   clear HK
   clear HB
   have HO154 := n0_
   have HO169 := n1_
   have HI0 := n2_
   have BK143 := n3_
   have BK157 := n4_
   have HK := n5_
   have HB := n6_
   clear n0_ n1_ n2_ n3_ n4_ n5_ n6_
   clear hb ho43
   refine hK.out _ _ ⟨(zyk BK157.out 0).trans rfl, (zyk BK157.out 1).trans rfl, (zyk BK157.out 2).trans rfl⟩ (fun hHeld => ?_)
   clear hK K
   refine norm_ (a' := ?_) ?_ ?_
   rotate_left
   ·
    show Act.put _ (some 31) _ = _
    simp only [Act.put, List.setIfInBounds_toArray, List.set_cons_zero, List.set_cons_succ, i64_w, i32_w]
    rfl
   exact norm_ (by simp only [putAll, Act.put, List.setIfInBounds_toArray, List.set_cons_zero, List.set_cons_succ]) (hCont (v168) _ ⟨hHeld, (by (with_reducible repeat (first | apply Kd.R_alloc | apply Kd.R_drewN | apply Kd.R_drew)); exact Kd.R_mono HO154.out (fun _ hk => hk.2)), (by (with_reducible repeat (first | apply Kd.R_alloc | apply Kd.R_drewN | apply Kd.R_drew)); exact Kd.R_mono HO169.out (fun _ hk => hk.2)), (zqK BK143.out), (zqK BK157.out), zq29, zq9, zq31⟩)
  ·
   skip
   refine Kd.R_lit_step (Kd.int .i64) _ 3 ?hg (N := 31) ?hd (xs := ([(-1), 10] : List Int)) (inner := [.int .i64 (-1), .int .i64 10]) (ok := fun _ => True) (okp := fun _ => True) ?hr ?hp (fun _ hk => hk) trivial (Below.refl _ _) (Nat.le_refl _) (by simp) ?_; (case hd => rfl); (case hg => rfl); (case hr => exact zqS); (case hp => exact (Reps.one (show Kd.M (Kd.int .i64) _ _ _ (-1) [.int .i64 (-1)] from rfl) (Reps.one (show Kd.M (Kd.int .i64) _ _ _ 10 [.int .i64 10] from rfl) (Reps.none _ _))))
   intro v168 w41 ho42 hb hg_ hnew_
   clear hg_ hnew_
   (first | rw [← Ny167.out] at ho42 | (simp only [Int.reduceToNat] at ho42; rw [← Ny167.out] at ho42))
   have n0_ := zm (Kd.R_elder' (zqR HO154.out) (Kd.R_base ho42) hb)
   have n1_ := zm (Kd.R_lower (Kd.R_new' ho42 (Kd.R_lt (zqR HO154.out))) (keep_size (w := w) (g := g) (row := none) zq9))
   have n2_ := zm (IsS46.below zq29 hb)
   have n3_ := zm (zyb (g := gb143) (o := zcA) (zqK BK143.out) hb)
   have n4_ := zm (zyb (g := gb157) (o := .cells #[.int .i64 t150, .int .i64 t151, .slice Ao38 t152.length co38] 26 (0, 0)) (zqK BK157.out) hb)
   have n5_ := zm (KeepBut.trans zq9 (KeepBut.of_below hb g none) (.inl rfl))
   have n6_ := zm (zyh zq31 hb)
   clear HO154
   clear HI0
   clear BK143
   clear BK157
   clear HK
   clear HB
   have HO154 := n0_
   have HO169 := n1_
   have HI0 := n2_
   have BK143 := n3_
   have BK157 := n4_
   have HK := n5_
   have HB := n6_
   clear n0_ n1_ n2_ n3_ n4_ n5_ n6_
   clear hb ho42
   refine hK.out _ _ ⟨(zyk BK157.out 0).trans rfl, (zyk BK157.out 1).trans rfl, (zyk BK157.out 2).trans rfl⟩ (fun hHeld => ?_)
   clear hK K
   refine norm_ (a' := ?_) ?_ ?_
   rotate_left
   ·
    show Act.put _ (some 31) _ = _
    simp only [Act.put, List.setIfInBounds_toArray, List.set_cons_zero, List.set_cons_succ, i64_w, i32_w]
    rfl
   refine one_ (i := 6) (N := some 29) #[zt, zt, zt, zt, zt, zt, zt, zt, zt, zf, zf, zf] rfl rfl (one_of HT_.out (by kernel_rfl)) (by decide) (fun K hK => ?_)
   refine goes_ Try.func20 (by kernel_rfl) rfl #[.pointer (some ⟨g, 0, none⟩), .int .i64 (t152.length : Int)] (by rfl) rfl rfl zq0 ?_
   with_reducible refine (spec_l1Cur_pick.calls g s0_0 t159 t160 (t152.length : Int) t164 t165 t166 w0 _ ?side1 ?side2 A25.out).mono ?_
   (case side1 => repeat (first | (with_reducible first | exact HI0.out | apply zv1 | apply zv2 | apply zv3 | apply zv4 | apply zv5 | refine zv6 ?_ NB0_143.out _ | refine zv6 ?_ NB0_157.out _) | exact HI0.out))
   (case side2 => repeat (first | (with_reducible first | exact HB.out | apply zya | apply zyp | apply zyr | refine zys ?_ (IsS46.ge HI0.out) | refine zys ?_ GE143.out | refine zys ?_ GE157.out) | exact HB.out))
   rintro e w43 ⟨rfl, hi, hb, hk⟩
   refine ⟨_, rfl, ?_⟩
   have n0_ := zm (KeepBut.blk hk (g' := gb143) (o := zcA) (zqK BK143.out) NB143_0.out (by simp))
   have n1_ := zm (Kd.R_mono (Kd.R_keep (IsS46.apart (show IsS46 w0 _ g s0_0 t159 t160 from by repeat (first | (with_reducible first | exact HI0.out | apply zv1 | apply zv2 | apply zv3 | apply zv4 | apply zv5 | refine zv6 ?_ NB0_143.out _ | refine zv6 ?_ NB0_157.out _) | exact HI0.out)) (zqR HO154.out) (by decide)) hk (fun _ h => h.2)) (fun _ h => h.1))
   have n2_ := zm (KeepBut.blk hk (g' := gb157) (o := .cells #[.int .i64 t150, .int .i64 t151, .slice Ao38 t152.length co38] 26 (0, 0)) (zqK BK157.out) NB157_0.out (by simp))
   have n3_ := zm (Kd.R_mono (Kd.R_keep (IsS46.apart (show IsS46 w0 _ g s0_0 t159 t160 from by repeat (first | (with_reducible first | exact HI0.out | apply zv1 | apply zv2 | apply zv3 | apply zv4 | apply zv5 | refine zv6 ?_ NB0_143.out _ | refine zv6 ?_ NB0_157.out _) | exact HI0.out)) (zqR HO169.out) (by decide)) hk (fun _ h => h.2)) (fun _ h => h.1))
   have n4_ := zm (KeepBut.trans zq9 hk (.inl rfl))
   have n5_ := zm (hb)
   have n6_ := zm (hi)
   clear BK143
   clear HO154
   clear BK157
   clear HO169
   clear HK
   clear HB
   clear HI0
   have BK143 := n0_
   have HO154 := n1_
   have BK157 := n2_
   have HO169 := n3_
   have HK := n4_
   have HB := n5_
   have HI0 := n6_
   clear n0_ n1_ n2_ n3_ n4_ n5_ n6_
   (try clear hb)
   (try clear hb2)
   (try clear hk)
   (try clear hi)
   refine hK.out _ _ ⟨(zyk BK157.out 0).trans rfl, (zyk BK157.out 1).trans rfl, (zyk BK157.out 2).trans rfl⟩ (fun hHeld => ?_)
   clear hK K
   refine norm_ (a' := ?_) ?_ ?_
   rotate_left
   ·
    show Act.put _ (some 29) _ = _
    simp only [Act.put, List.setIfInBounds_toArray, List.set_cons_zero, List.set_cons_succ, i64_w, i32_w]
    rfl
   exact norm_ (by simp only [putAll, Act.put, List.setIfInBounds_toArray, List.set_cons_zero, List.set_cons_succ]) (hCont (v168) _ ⟨hHeld, (by (with_reducible repeat (first | apply Kd.R_alloc | apply Kd.R_drewN | apply Kd.R_drew)); exact Kd.R_mono HO154.out (fun _ hk => hk.2)), (by (with_reducible repeat (first | apply Kd.R_alloc | apply Kd.R_drewN | apply Kd.R_drew)); exact Kd.R_mono HO169.out (fun _ hk => hk.2)), (zqK BK143.out), (zqK BK157.out), zq29, zq9, zq31⟩)
 rintro v168 w44 ⟨hS_, h0_, h1_, h2_, h3_, h4_, h5_, h6_⟩
 have n0_ : Aside0 (Kd.R (Kd.int .i64) 3 w44 w.heap.size (fun k_ => some k_ ≠ (v168 : Value).ownBlock) (.slice Ao38 t152.length co38) t152) := ⟨h0_⟩
 have n1_ : Aside0 (Kd.R (Kd.int .i64) 3 w44 w.heap.size (fun k_ => some k_ ≠ (.slice Ao38 t152.length co38 : Value).ownBlock) v168 y167) := ⟨h1_⟩
 have n2_ : Aside0 (w44.heap[gb143]? = some (.cells #[.int .i64 0, .int .i64 0, .slice none 0 0] 26 (0, 0))) := ⟨h2_⟩
 have n3_ : Aside0 (w44.heap[gb157]? = some (.cells #[.int .i64 t150, .int .i64 t151, .slice Ao38 t152.length co38] 26 (0, 0))) := ⟨h3_⟩
 have n4_ : Aside0 (IsS46 w0 w44 g s0_0 t165 t166) := ⟨h4_⟩
 have n5_ : Aside0 (KeepBut w w44 g none) := ⟨h5_⟩
 have n6_ : Aside0 (Below w0.heap.size w0 w44) := ⟨h6_⟩
 clear HO154
 clear BK143
 clear BK157
 clear HI0
 clear HK
 clear HB
 clear h0_ h1_ h2_ h3_ h4_ h5_ h6_
 have HO154 := n0_
 have HO169 := n1_
 have BK143 := n2_
 have BK157 := n3_
 have HI0 := n4_
 have HK := n5_
 have HB := n6_
 clear n0_ n1_ n2_ n3_ n4_ n5_ n6_
 have hHeld : w44.cell? ⟨gb157, 0, none⟩ = some (.int .i64 t150) ∧ w44.cell? ⟨gb157, 1, none⟩ = some (.int .i64 t151) ∧ w44.cell? ⟨gb157, 2, none⟩ = some (.slice Ao38 t152.length co38) := hS_
 obtain ⟨Ao45, co45, eo45⟩ := Kd.R_slice HO169.out
 (first | subst eo45 | (injection eo45 with f1_ f2_ f3_; have f4_ := f1_.symm; have f5_ := f3_.symm; clear f1_ f2_ f3_; subst f4_; subst f5_))
 refine norm_ (a' := ?_) ?_ ?_
 rotate_left
 ·
  simp only [putAll, Act.put, List.setIfInBounds_toArray, List.set_cons_zero, List.set_cons_succ]
  rfl
 refine one_ (i := 9) (N := some 32) #[zt, zt, zt, zt, zt, zt, zt, zt, zt, zt, zf, zf] rfl rfl (one_of HT_.out (by kernel_rfl)) (by decide) (fun K hK => ?_)
 refine goes_ Try.func19 (by kernel_rfl) rfl #[.pointer (some ⟨g, 0, none⟩), .slice Ao45 y167.length co45] (by rfl) rfl rfl zq0 ?_
 with_reducible refine (spec_l1Cur_among.calls g s0_0 t165 t166 _ _ y167 t170 t171 t172 w0 _ ?side1 ?side2 ?side3 ?side4 ?side5 A26.out).mono ?_
 (case side1 => repeat (first | (with_reducible first | exact HI0.out | apply zv1 | apply zv2 | apply zv3 | apply zv4 | apply zv5 | refine zv6 ?_ NB0_143.out _ | refine zv6 ?_ NB0_157.out _) | exact HI0.out))
 (case side2 => repeat (first | (with_reducible first | exact HB.out | apply zya | apply zyp | apply zyr | refine zys ?_ (IsS46.ge HI0.out) | refine zys ?_ GE143.out | refine zys ?_ GE157.out) | exact HB.out))
 (case side3 => exact zqC (Kd.R_reads' HO169.out).2.2)
 (case side4 => exact (Kd.R_reads' HO169.out).2.1)
 (case side5 => exact far_slice (IsS46.own_ne HI0.out HO169.out (by decide)))
 rintro e w46 ⟨rfl, hi, hb, hk⟩
 refine ⟨_, rfl, ?_⟩
 have n0_ := zm (KeepBut.blk hk (g' := gb143) (o := zcA) (zqK BK143.out) NB143_0.out (by simp))
 have n1_ := zm (Kd.R_mono (Kd.R_keep (IsS46.apart (show IsS46 w0 _ g s0_0 t165 t166 from by repeat (first | (with_reducible first | exact HI0.out | apply zv1 | apply zv2 | apply zv3 | apply zv4 | apply zv5 | refine zv6 ?_ NB0_143.out _ | refine zv6 ?_ NB0_157.out _) | exact HI0.out)) (zqR HO154.out) (by decide)) hk (fun _ h => h.2)) (fun _ h => h.1))
 have n2_ := zm (KeepBut.blk hk (g' := gb157) (o := .cells #[.int .i64 t150, .int .i64 t151, .slice Ao38 t152.length co38] 26 (0, 0)) (zqK BK157.out) NB157_0.out (by simp))
 have n3_ := zm (Kd.R_mono (Kd.R_keep (IsS46.apart (show IsS46 w0 _ g s0_0 t165 t166 from by repeat (first | (with_reducible first | exact HI0.out | apply zv1 | apply zv2 | apply zv3 | apply zv4 | apply zv5 | refine zv6 ?_ NB0_143.out _ | refine zv6 ?_ NB0_157.out _) | exact HI0.out)) (zqR HO169.out) (by decide)) hk (fun _ h => h.2)) (fun _ h => h.1))
 have n4_ := zm (KeepBut.trans zq9 hk (.inl rfl))
 have n5_ := zm (hb)
 have n6_ := zm (hi)
 clear BK143
 clear HO154
 clear BK157
 clear HO169
 clear HK
 clear HB
 clear HI0
 have BK143 := n0_
 have HO154 := n1_
 have BK157 := n2_
 have HO169 := n3_
 have HK := n4_
 have HB := n5_
 have HI0 := n6_
 clear n0_ n1_ n2_ n3_ n4_ n5_ n6_
 (try clear hb)
 (try clear hb2)
 (try clear hk)
 (try clear hi)
 have p29 : 0 ≤ (t164 : Int) := of_decide_eq_true zq6
 have q29 : (t164 : Int) < ((t152.length : Int) : Int) := of_decide_eq_true zq6
 obtain ⟨go29, co29, eo29, gb29, gl29, cl29, HG29⟩ := Kd.R_form HO154.out (by omega)
 (first | cases eo29 | (injection eo29 with ea_ en_ ec_; (first | subst ea_ | (injection ea_ with ea_; subst ea_)); subst ec_; clear en_))
 have GB29 := zm gb29
 have GG29 := zm HG29
 clear gb29 gl29 HG29
 obtain ⟨hx29_0, hf29_0⟩ := Kd.R_celln 0 HO154.out (t164 : Int) p29 q29
 replace p29 := eq_true p29
 replace q29 := eq_true q29
 have HN0_go29 := zm (show g ≠ go29 from by have h_ := IsS46.own_ne HI0.out HO154.out (by decide); intro e_; exact h_ (by rw [e_]; rfl))
 have HP47 := Kd.R_putn HO154.out (t164 : Int) t170
 rw [← Ny173.out] at HP47
 have HQ47 := zm HP47
 clear HP47
 refine hK.out _ _ ⟨(zyk BK157.out 0).trans rfl, (zyk BK157.out 1).trans rfl, (zyk BK157.out 2).trans rfl⟩ (fun hHeld => ?_)
 clear hK K
 refine norm_ (a' := ?_) ?_ ?_
 rotate_left
 ·
  show Act.put _ (some 32) _ = _
  simp only [Act.put, List.setIfInBounds_toArray, List.set_cons_zero, List.set_cons_succ, i64_w, i32_w]
  rfl
 refine zP 10 (some 33) #[zt, zt, zt, zt, zt, zt, zt, zt, zt, zt, zt, zf] ?_ rfl rfl HT_ (Or.inl ⟨by rfl, ?_⟩) ?_ ?_ ?_
 rotate_left; · exact zqB
 rotate_left; · exact zqA
 refine last_ (i := 11) (N := none) #[zt, zt, zt, zt, zt, zt, zt, zt, zt, zt, zt, zt] rfl rfl (one_of HT_.out (by kernel_rfl)) (by decide) (fun K hK => ?_)
 refine skip_ (w1 := ?_) (by rfl) rfl ?_ ?_
 rotate_left
 ·
  go_simp
  rfl
 refine hK.out _ _ ?_
 clear hK K
 refine done_ (done_of HT_.out (by kernel_rfl)) ?_
 have n0_ : Aside0 (Kd.R (Kd.int .i64) 3 (w46.setCell ⟨go29, (t164 : Int).toNat, none⟩ (.int .i64 t170)) w.heap.size (fun k_ => some k_ ≠ (.slice Ao45 y167.length co45 : Value).ownBlock) (.slice (some ⟨go29, 0, none⟩) t152.length co38) y173) := ⟨zqR HQ47.out⟩
 have n1_ : Aside0 (Kd.R (Kd.int .i64) 3 (w46.setCell ⟨go29, (t164 : Int).toNat, none⟩ (.int .i64 t170)) w.heap.size (fun k_ => some k_ ≠ (.slice (some ⟨go29, 0, none⟩) t152.length co38 : Value).ownBlock) (.slice Ao45 y167.length co45) y167) := ⟨by (with_reducible repeat (first | apply Kd.R_alloc | apply Kd.R_drewN | apply Kd.R_drew)); exact Kd.R_mono (Kd.R_far (p := ⟨go29, (t164 : Int).toNat, none⟩) (Kd.R_mono HO169.out (fun k_ hk => (⟨hk, fun e_ => hk (by rw [e_]; rfl)⟩ : _ ∧ k_ ≠ go29))) (fun _ hk => hk.2) (.int .i64 t170)) (fun _ hk => hk.1)⟩
 have n2_ : Aside0 ((w46.setCell ⟨go29, (t164 : Int).toNat, none⟩ (.int .i64 t170)).heap[gb143]? = some (.cells #[.int .i64 0, .int .i64 0, .slice none 0 0] 26 (0, 0))) := ⟨by (with_reducible repeat (first | apply zN | apply zD | apply zL)); refine zye ?_ (by have h_ := Kd.R_ne HO154.out BK143.out (by decide); intro e_; exact h_ (by rw [e_]; rfl)) _; (with_reducible repeat (first | apply zN | apply zD | apply zL)); exact BK143.out⟩
 have n3_ : Aside0 ((w46.setCell ⟨go29, (t164 : Int).toNat, none⟩ (.int .i64 t170)).heap[gb157]? = some (.cells #[.int .i64 t150, .int .i64 t151, .slice (some ⟨go29, 0, none⟩) t152.length co38] 26 (0, 0))) := ⟨by (with_reducible repeat (first | apply zN | apply zD | apply zL)); refine zye ?_ (by have h_ := Kd.R_ne HO154.out BK157.out (by decide); intro e_; exact h_ (by rw [e_]; rfl)) _; (with_reducible repeat (first | apply zN | apply zD | apply zL)); exact BK157.out⟩
 have n4_ : Aside0 (IsS46 w0 (w46.setCell ⟨go29, (t164 : Int).toNat, none⟩ (.int .i64 t170)) g s0_0 t171 t172) := ⟨(by repeat (first | (with_reducible first | exact HI0.out | apply zv1 | apply zv2 | apply zv3 | apply zv4 | apply zv5 | refine zv6 ?_ HN0_go29.out _ | refine zv6 ?_ NB0_143.out _ | refine zv6 ?_ NB0_157.out _) | exact HI0.out))⟩
 have n5_ : Aside0 (KeepBut w (w46.setCell ⟨go29, (t164 : Int).toNat, none⟩ (.int .i64 t170)) g none) := ⟨(by repeat (first | (with_reducible first | exact HK.out | apply KeepBut.set_ | apply keep_drewN | apply keep_drew | apply keep_alloc | refine keep_far ?_ GB29.out _ | refine keep_far ?_ GW143.out _ | refine keep_far ?_ GW157.out _) | exact HK.out))⟩
 have n6_ : Aside0 (Below w0.heap.size w0 (w46.setCell ⟨go29, (t164 : Int).toNat, none⟩ (.int .i64 t170))) := ⟨(by repeat (first | (with_reducible first | exact HB.out | apply zya | apply zyp | apply zyr | refine zys ?_ (Nat.le_trans HL.out GB29.out) | refine zys ?_ (IsS46.ge HI0.out) | refine zys ?_ GE143.out | refine zys ?_ GE157.out) | exact HB.out))⟩
 (try clear HO154)
 (try clear HO169)
 (try clear BK143)
 (try clear BK157)
 (try clear HI0)
 (try clear HK)
 (try clear HB)
 generalize (w46.setCell ⟨go29, (t164 : Int).toNat, none⟩ (.int .i64 t170)) = w48 at n0_ n1_ n2_ n3_ n4_ n5_ n6_ ⊢
 have HO154 := n0_
 have HO169 := n1_
 have BK143 := n2_
 have BK157 := n3_
 have HI0 := n4_
 have HK := n5_
 have HB := n6_
 clear n0_ n1_ n2_ n3_ n4_ n5_ n6_
 have hcz49_0 := bz BK157.out 0 (.int .i64 t150)
 have hcz49_1 := bz BK157.out 1 (.int .i64 t151)
 have hcz49_2 := bz BK157.out 2 (.slice (some ⟨go29, 0, none⟩) t152.length co38)
 have hfz49_0 := zyF BK157.out 0
 have hfz49_1 := zyF BK157.out 1
 have hfz49_2 := zyF BK157.out 2
 have hnb50 := NB143_0.out
 have hnc50 := NB0_143.out
 have hcz51_0 := bz BK143.out 0 (.int .i64 0)
 have hcz51_1 := bz BK143.out 1 (.int .i64 0)
 have hcz51_2 := bz BK143.out 2 (.slice none 0 0)
 have hfz51_0 := zyF BK143.out 0
 have hfz51_1 := zyF BK143.out 1
 have hfz51_2 := zyF BK143.out 2
 try go_wp2
 refine bodyPost_ret (results_cell_row rfl _ _ gb143 26 #[.int .i64 t150, .int .i64 t151, .slice (some ⟨go29, 0, none⟩) t152.length co38] (0, 0) _ rfl zq76 Try.underlying26 rfl (by kernel_rfl)) rfl ?_
 exact ⟨_, by first | rfl | (simp [errW_none, errW_some] <;> rfl) | (simp [*, errW_none, errW_some] <;> rfl), by (with_reducible repeat (first | apply Kd.R_alloc | apply Kd.R_drewN | apply Kd.R_drew)); exact Kd.R_mono (Kd.R_far (p := ⟨gb143, 2, none⟩) (Kd.R_far (p := ⟨gb143, 1, none⟩) (Kd.R_far (p := ⟨gb143, 0, none⟩) (Kd.R_types HO154.out BK143.out (by decide)) (fun _ hk => hk.2) (.int .i64 t150)) (fun _ hk => hk.2) (.int .i64 t151)) (fun _ hk => hk.2) (.slice (some ⟨go29, 0, none⟩) t152.length co38)) (fun _ hk => trivial), zq29, zq31, zq9⟩
end Go.Proofs.Ytfaihkhdbapjmaa.Q
