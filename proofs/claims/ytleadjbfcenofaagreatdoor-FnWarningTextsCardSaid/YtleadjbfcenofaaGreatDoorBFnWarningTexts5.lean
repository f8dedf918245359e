/- Texts of this claim, put together: walks of the program's functions, and plain facts. -/
import Derived.Test.YtleadjbfcenofaaGreatDoorZFnWarningTexts
import Derived.Test.YtleadjbfcenofaaGreatDoorBFnWarningTexts0
import Derived.Test.YtleadjbfcenofaaGreatDoorBFnWarningTexts1
import Derived.Test.YtleadjbfcenofaaGreatDoorBFnWarningTexts2
import Derived.Test.YtleadjbfcenofaaGreatDoorBFnWarningTexts3
namespace Go.Proofs.YtleadjbfcenofaaGreatDoor.Q
open Go.RowKit Go.Proofs.YtleadjbfcenofaaGreatDoorW.PrintWords Go.Proofs.YtleadjbfcenofaaGreatDoorW.PrintLast Go.Proofs.YtleadjbfcenofaaGreatDoorW.PrintMore
attribute [local go_sem] max2_int min2_int max_two min_two max_three min_three max_four min_four
set_option linter.unusedVariables false
set_option linter.unusedSimpArgs false
def spec_l1Cur_one.f (s0_0 : List Int) (s0_1 : Int) (s0_2 : Int) (a1 : Int) : Option (Bool × Int × Int) := (spec_l1Cur_pick.f s0_0 s0_1 s0_2 a1).bind fun bt280 => (some ((bt280.1 == 0), bt280.2.1, bt280.2.2))
set_option maxHeartbeats 8000000 in
set_option maxRecDepth 100000 in
theorem spec_l1Cur_one.calls (g : Nat) (s0_0 : List Int) (s0_1 : Int) (s0_2 : Int) (a1 : Int) (r1 : Bool) (r2 : Int) (r3 : Int) (w0 w : World) (hI : IsS45 w0 w g s0_0 s0_1 s0_2) (hB : Below w0.heap.size w0 w) (h : spec_l1Cur_one.f s0_0 s0_1 s0_2 a1 = some (r1, r2, r3)) :
  Calls Tryz.prog 30 #[.pointer (some ⟨g, 0, none⟩), .int .i64 a1] w fun e w' => e = .returned (.bool r1) ∧ IsS45 w0 w' g s0_0 r2 r3 ∧ Below w0.heap.size w0 w' ∧ KeepBut w w' g none := by
 have HI0 := zm hI
 have HK := zm (KeepBut.refl w g none)
 have HL := zm hB.size
 clear hI
 have HW0 := zm hB.size
 have HB := zm hB
 clear hB
 have H : ((spec_l1Cur_pick.f s0_0 s0_1 s0_2 a1).bind fun bt280 => (some ((bt280.1 == 0), bt280.2.1, bt280.2.2))) = some (r1, r2, r3) := h
 clear h
 obtain ⟨⟨t280, t281, t282⟩, A30, H⟩ := zob H
 replace H : (some ((t280 == 0), t281, t282)) = some (r1, r2, r3) := H
 have A3 := zm A30
 clear A30
 simp only [Option.some.injEq, Prod.mk.injEq] at H
 obtain ⟨rfl, rfl, rfl⟩ := H
 go_enter Tryz.func30, Tryz.ntmps30
 go_wp2_with (first | ((with_reducible refine gate_callee (f := 48) rfl ?_); refine goesL_ (some 7) rfl rfl Tryz.func48 (by kernel_rfl) rfl #[.pointer (some ⟨g, 0, none⟩), .int .i64 a1] rfl zq1 ?_; (with_reducible refine (spec_l1Cur_pick.calls g s0_0 s0_1 s0_2 a1 t280 t281 t282 w0 _ ?side1 ?side2 A3.out).mono ?_); (case side1 => exact zq7); (case side2 => exact zq6); rintro e w4 ⟨rfl, hi, hb, hk⟩; refine ⟨_, rfl, ?_⟩; replace HK := zm (KeepBut.trans zq5 hk (.inl rfl)); replace HB := zm (hb); replace HI0 := zm (hi); (try clear hb); (try clear hb2); (try clear hk); (try clear hi)))
 go_ret
 exact ⟨zqE, zq7, zq6, zq5⟩
def spec_l1Cur_spoilt.c.T7 : Bool × List (List Nat × List Nat) := (true, [([], []), ([], []), ([0, 1], [0, 1]), ([], []), ([2, 3], [2, 3]), ([], []), ([], []), ([5, 6], [5, 6]), ([4, 7], [4, 7]), ([8, 0, 1, 2, 3, 4, 5, 6, 7, 8], [8])])
def spec_l1Cur_spoilt.c.B7 : List Nat := [0, 0, 3, 0, 15, 0, 0, 96, 255, 511]
theorem spec_l1Cur_spoilt.c.tab7 : rtab .any (opsOf Tryz.f31 7) = spec_l1Cur_spoilt.c.T7 := by kernel_rfl
theorem spec_l1Cur_spoilt.c.bits7 : waitsOk spec_l1Cur_spoilt.c.T7.2 spec_l1Cur_spoilt.c.B7 = true := by kernel_rfl
def spec_l1Cur_spoilt.c.T9 : Bool × List (List Nat × List Nat) := (true, [([], []), ([], []), ([0, 1], [0, 1]), ([], []), ([2, 3], [2, 3]), ([], []), ([], []), ([6], [6]), ([5, 7], [5, 7]), ([4, 8], [4, 8]), ([9, 0, 1, 2, 3, 4, 5, 6, 7, 8, 9], [9])])
def spec_l1Cur_spoilt.c.B9 : List Nat := [0, 0, 3, 0, 15, 0, 0, 64, 224, 511, 1023]
theorem spec_l1Cur_spoilt.c.tab9 : rtab .any (opsOf Tryz.f31 9) = spec_l1Cur_spoilt.c.T9 := by kernel_rfl
theorem spec_l1Cur_spoilt.c.bits9 : waitsOk spec_l1Cur_spoilt.c.T9.2 spec_l1Cur_spoilt.c.B9 = true := by kernel_rfl
def spec_l1Cur_spoilt.c.T10 : Bool × List (List Nat × List Nat) := (true, [([], []), ([], []), ([0, 1], [0, 1]), ([], []), ([], []), ([4], [4]), ([3, 5], [3, 5]), ([2, 6], [2, 6]), ([7, 0, 1, 2, 3, 4, 5, 6, 7], [7])])
def spec_l1Cur_spoilt.c.B10 : List Nat := [0, 0, 3, 0, 0, 16, 56, 127, 255]
theorem spec_l1Cur_spoilt.c.tab10 : rtab .any (opsOf Tryz.f31 10) = spec_l1Cur_spoilt.c.T10 := by kernel_rfl
theorem spec_l1Cur_spoilt.c.bits10 : waitsOk spec_l1Cur_spoilt.c.T10.2 spec_l1Cur_spoilt.c.B10 = true := by kernel_rfl
def spec_l1Cur_spoilt.f (s0_0 : List Int) (s0_1 : Int) (s0_2 : Int) (a1 : ByteArray) (a2 : ByteArray) : Option (ByteArray × Int × Int) :=
 if a1.toList = ([] : List UInt8) then (if 1 ≤ a2.size then some (a2.extract 0 1, s0_1, s0_2) else none) else
 (spec_l1Cur_pick.f s0_0 s0_1 s0_2 (a1.size : Int)).bind fun p => (spec_l1Cur_pick.f s0_0 p.2.1 p.2.2 (a2.size : Int)).bind fun q => (spec_l1Cur_pick.f s0_0 q.2.1 q.2.2 3).bind fun r =>
 if 0 ≤ p.1 ∧ p.1 < a1.size ∧ 0 ≤ q.1 ∧ q.1 < a2.size ∧ a1.size ≤ 1000000 ∧ a2.size ≤ 1000000 then
  some ((if r.1 = 0 then ((a1.extract 0 p.1.toNat) ++ ((a2.extract q.1.toNat a2.size).extract 0 1)) ++ (a1.extract p.1.toNat a1.size) else if r.1 = 1 then ((a1.extract 0 p.1.toNat) ++ ((a2.extract q.1.toNat a2.size).extract 0 1)) ++ (a1.extract (p.1.toNat + 1) a1.size) else (a1.extract 0 p.1.toNat) ++ (a1.extract (p.1.toNat + 1) a1.size)), r.2.1, r.2.2) else none
set_option maxHeartbeats 4000000 in
set_option maxRecDepth 100000 in
theorem spec_l1Cur_spoilt.calls (g : Nat) (s0_0 : List Int) (s0_1 : Int) (s0_2 : Int) (a1 : ByteArray) (a2 : ByteArray) (r1 : ByteArray) (r2 : Int) (r3 : Int) (w0 w : World) (hI : IsS45 w0 w g s0_0 s0_1 s0_2) (hB : Below w0.heap.size w0 w) (h : spec_l1Cur_spoilt.f s0_0 s0_1 s0_2 a1 a2 = some (r1, r2, r3)) :
  Calls Tryz.prog 31 #[.pointer (some ⟨g, 0, none⟩), .string a1, .string a2] w fun e w' => e = .returned (.string r1) ∧ IsS45 w0 w' g s0_0 r2 r3 ∧ Below w0.heap.size w0 w' ∧ KeepBut w w' g none := by
 have HI0 := zm hI
 have HB0 := zm hB
 clear hI hB
 unfold spec_l1Cur_spoilt.f at h
 by_cases c4 : a1.toList = ([] : List UInt8)
 case pos =>
  rw [if_pos c4] at h
  split at h
  ·
   rename_i c6
   have c4b0 : (a1.toList == ([] : List UInt8)) = true := beq_iff_eq.mpr c4
   have c6b0 : (1 ≤ (a2.size : Int)) = True := eq_true (by omega)
   clear c4 c6
   simp only [Option.some.injEq, Prod.mk.injEq] at h
   obtain ⟨rfl, rfl, rfl⟩ := h
   go_enter Tryz.func31, Tryz.ntmps31
   go_wp2
   go_ret
   exact ⟨rfl, by first | exact HI0.out | exact HI0.out.drew | exact HI0.out.drewN _, by first | exact HB0.out | exact below_drew1 HB0.out | exact pw_below_drewN HB0.out _, by first | exact KeepBut.refl w g none | exact keep_drew (KeepBut.refl w g none) | exact keep_drewN (KeepBut.refl w g none) _⟩
  ·
   cases h
 rw [if_neg c4] at h
 have c4b0 : (a1.toList == ([] : List UInt8)) = false := beq_eq_false_iff_ne.mpr c4
 clear c4
 obtain ⟨⟨i, s1, q1⟩, e1, h⟩ := Option.bind_eq_some_iff.1 h
 obtain ⟨⟨j, s2, q2⟩, e2, h⟩ := Option.bind_eq_some_iff.1 h
 obtain ⟨⟨x, s3, q3⟩, e3, h⟩ := Option.bind_eq_some_iff.1 h
 dsimp only at e2 e3 h
 split at h
 ·
  rename_i hc
  obtain ⟨i0, i1, j0, j1, z1, z2⟩ := hc
  obtain ⟨i, rfl⟩ : ∃ n : Nat, i = (n : Int) := ⟨i.toNat, by omega⟩
  obtain ⟨j, rfl⟩ : ∃ n : Nat, j = (n : Int) := ⟨j.toNat, by omega⟩
  simp only [Option.some.injEq, Prod.mk.injEq, Int.toNat_natCast] at h
  obtain ⟨hr, rfl, rfl⟩ := h
  have HR := zm hr
  have E1 := zm e1
  have E2 := zm e2
  have E3 := zm e3
  clear hr e1 e2 e3
  go_enter Tryz.func31, Tryz.ntmps31
  go_wp2_with fail
  refine (spec_l1Cur_pick.calls g s0_0 s0_1 s0_2 (a1.size : Int) (i : Int) s1 q1 w0 _ HI0.out HB0.out E1.out).mono ?_
  rintro e w1 ⟨rfl, hi1, hb1, hk1⟩
  have HI1 := zm hi1
  have HB1 := zm hb1
  have HK1 := zm hk1
  clear hi1 hb1 hk1
  go_wp2_with fail
  refine (spec_l1Cur_pick.calls g s0_0 s1 q1 (a2.size : Int) (j : Int) s2 q2 w0 _ (by first | exact HI1.out | exact HI1.out.drew) (by first | exact HB1.out | exact below_drew1 HB1.out) E2.out).mono ?_
  rintro e w2 ⟨rfl, hi1, hb1, hk1⟩
  have HI2 := zm hi1
  have HB2 := zm hb1
  have HK2 := zm hk1
  clear hi1 hb1 hk1
  go_wp2_with fail
  refine (spec_l1Cur_pick.calls g s0_0 s2 q2 3 x s3 q3 w0 _ (by first | exact HI2.out | exact HI2.out.drew) (by first | exact HB2.out | exact below_drew1 HB2.out) E3.out).mono ?_
  rintro e w3 ⟨rfl, hi1, hb1, hk1⟩
  have HI3 := zm hi1
  have HB3 := zm hb1
  have HK3 := zm (KeepBut.trans (KeepBut.trans HK1.out HK2.out (.inl rfl)) hk1 (.inl rfl))
  clear hi1 hb1 hk1
  have F1 : (9223372036854775807 < (a1.extract 0 i).size + ((a2.extract j a2.size).extract 0 1).size) = False := eq_false (by simp only [ByteArray.size_extract]; omega)
  have F2 : (9223372036854775807 < (a1.extract 0 i).size + ((a2.extract j a2.size).extract 0 1).size + (a1.extract i a1.size).size) = False := eq_false (by simp only [ByteArray.size_extract]; omega)
  have F3 : (9223372036854775807 < (a1.extract 0 i).size + ((a2.extract j a2.size).extract 0 1).size + (a1.extract (i + 1) a1.size).size) = False := eq_false (by simp only [ByteArray.size_extract]; omega)
  have F4 : (9223372036854775807 < (a1.extract 0 i).size + (a1.extract (i + 1) a1.size).size) = False := eq_false (by simp only [ByteArray.size_extract]; omega)
  have f1 : (9223372036854775807 < i + min 1 (a2.size - j)) = False := eq_false (by omega)
  have f2 : (9223372036854775807 < i + min 1 (a2.size - j) + (a1.size - i)) = False := eq_false (by omega)
  have f3 : (9223372036854775807 < i + min 1 (a2.size - j) + (a1.size - (i + 1))) = False := eq_false (by omega)
  have f4 : (9223372036854775807 < i + (a1.size - (i + 1))) = False := eq_false (by omega)
  have K1 : i ≤ a1.size := by omega
  have K2 : i + 1 ≤ a1.size := by omega
  have K3 : (i : Int) + 1 ≤ (a1.size : Int) := by omega
  have K4 : (0 : Int) ≤ (i : Int) + 1 := by omega
  have K5 : ((i : Int) + 1).toNat = i + 1 := by omega
  have G1 : wrap64 ((i : Int) + 1) = (i : Int) + 1 := by unfold wrap64; omega
  by_cases c1 : x = 0
  case pos =>
   rw [if_pos c1] at HR
   have c1b : (x == 0) = true := beq_iff_eq.mpr c1
   go_wp2_with fail
   refine start_ (n := 10) (S := fun w' => True) (ds := []) #[zf, zf, zf, zf, zf, zf, zf, zf, zf, zf] (by kernel_rfl) rfl rfl trivial (fun hHeld => ?_)
   refine with_tabW spec_l1Cur_spoilt.c.tab7 spec_l1Cur_spoilt.c.bits7 (fun HT_ HW_ => ?_)
   refine zP 0 (some 28) #[zt, zf, zf, zf, zf, zf, zf, zf, zf, zf] ?_ rfl rfl HT_ (Or.inl ⟨by rfl, ?_⟩) ?_ ?_ ?_
   rotate_left; · exact zqB
   rotate_left; · exact zqA
   refine zP 1 (some 29) #[zt, zt, zf, zf, zf, zf, zf, zf, zf, zf] ?_ rfl rfl HT_ (Or.inl ⟨by rfl, ?_⟩) ?_ ?_ ?_
   rotate_left; · exact zqB
   rotate_left; · exact zqA
   refine zP 2 (some 30) #[zt, zt, zt, zf, zf, zf, zf, zf, zf, zf] ?_ rfl rfl HT_ (Or.inl ⟨by rfl, ?_⟩) ?_ ?_ ?_
   rotate_left; · exact zqB
   rotate_left; · exact zqA
   refine zP 3 (some 31) #[zt, zt, zt, zt, zf, zf, zf, zf, zf, zf] ?_ rfl rfl HT_ (Or.inl ⟨by rfl, ?_⟩) ?_ ?_ ?_
   rotate_left; · exact zqB
   rotate_left; · exact zqA
   refine zP 4 (some 32) #[zt, zt, zt, zt, zt, zf, zf, zf, zf, zf] ?_ rfl rfl HT_ (Or.inl ⟨by rfl, ?_⟩) ?_ ?_ ?_
   rotate_left; · exact zqB
   rotate_left; · exact zqA
   refine zP 5 (some 33) #[zt, zt, zt, zt, zt, zt, zf, zf, zf, zf] ?_ rfl rfl HT_ (Or.inl ⟨by rfl, ?_⟩) ?_ ?_ ?_
   rotate_left; · exact zqB
   rotate_left; · exact zqA
   refine zP 6 (some 34) #[zt, zt, zt, zt, zt, zt, zt, zf, zf, zf] ?_ rfl rfl HT_ (Or.inl ⟨by rfl, ?_⟩) ?_ ?_ ?_
   rotate_left; · exact zqB
   rotate_left; · exact zqA
   refine zP 7 (some 35) #[zt, zt, zt, zt, zt, zt, zt, zt, zf, zf] ?_ rfl rfl HT_ (Or.inl ⟨by rfl, ?_⟩) ?_ ?_ ?_
   rotate_left; · exact zqB
   rotate_left; · exact zqA
   refine zP 8 (some 36) #[zt, zt, zt, zt, zt, zt, zt, zt, zt, zf] ?_ rfl rfl HT_ (Or.inl ⟨by rfl, ?_⟩) ?_ ?_ ?_
   rotate_left; · exact zqB
   rotate_left; · exact zqA
   refine zP 9 (some 6) #[zt, zt, zt, zt, zt, zt, zt, zt, zt, zt] ?_ rfl rfl HT_ (Or.inl ⟨by rfl, ?_⟩) ?_ ?_ ?_
   rotate_left; · exact zqB
   rotate_left; · exact zqA
   refine done_ (done_of HT_.out (by kernel_rfl)) ?_
   go_wp2
   go_ret
   exact ⟨by first | (rw [← HR.out]; first | rfl | (simp; done)) | (simp [← HR.out]; done), by first | exact HI3.out | exact HI3.out.drew | exact HI3.out.drewN _, by first | exact HB3.out | exact below_drew1 HB3.out | exact pw_below_drewN HB3.out _, by first | exact HK3.out | exact keep_drew HK3.out | exact keep_drewN HK3.out _⟩
  rw [if_neg c1] at HR
  have c1b : (x == 0) = false := beq_eq_false_iff_ne.mpr c1
  by_cases c2 : x = 1
  case neg =>
   rw [if_neg c2] at HR
   have c2b : (x == 1) = false := beq_eq_false_iff_ne.mpr c2
   go_wp2_with fail
   refine start_ (n := 9) (S := fun w' => True) (ds := []) #[zf, zf, zf, zf, zf, zf, zf, zf, zf] (by kernel_rfl) rfl rfl trivial (fun hHeld => ?_)
   refine with_tabW spec_l1Cur_spoilt.c.tab10 spec_l1Cur_spoilt.c.bits10 (fun HT_ HW_ => ?_)
   refine zP 0 (some 49) #[zt, zf, zf, zf, zf, zf, zf, zf, zf] ?_ rfl rfl HT_ (Or.inl ⟨by rfl, ?_⟩) ?_ ?_ ?_
   rotate_left; · exact zqB
   rotate_left; · exact zqA
   refine zP 1 (some 50) #[zt, zt, zf, zf, zf, zf, zf, zf, zf] ?_ rfl rfl HT_ (Or.inl ⟨by rfl, ?_⟩) ?_ ?_ ?_
   rotate_left; · exact zqB
   rotate_left; · exact zqA
   refine zP 2 (some 51) #[zt, zt, zt, zf, zf, zf, zf, zf, zf] ?_ rfl rfl HT_ (Or.inl ⟨by rfl, ?_⟩) ?_ ?_ ?_
   rotate_left; · exact zqB
   rotate_left; · exact zqA
   refine zP 3 (some 52) #[zt, zt, zt, zt, zf, zf, zf, zf, zf] ?_ rfl rfl HT_ (Or.inl ⟨by rfl, ?_⟩) ?_ ?_ ?_
   rotate_left; · exact zqB
   rotate_left; · exact zqA
   refine zP 4 (some 53) #[zt, zt, zt, zt, zt, zf, zf, zf, zf] ?_ rfl rfl HT_ (Or.inl ⟨by rfl, ?_⟩) ?_ ?_ ?_
   rotate_left; · exact zqB
   rotate_left; · exact zqA
   refine zP 5 (some 54) #[zt, zt, zt, zt, zt, zt, zf, zf, zf] ?_ rfl rfl HT_ (Or.inl ⟨by rfl, ?_⟩) ?_ ?_ ?_
   rotate_left; · exact zqB
   rotate_left; · exact zqA
   refine zP 6 (some 55) #[zt, zt, zt, zt, zt, zt, zt, zf, zf] ?_ rfl rfl HT_ (Or.inl ⟨by rfl, ?_⟩) ?_ ?_ ?_
   rotate_left; · exact zqB
   rotate_left; · exact zqA
   refine zP 7 (some 56) #[zt, zt, zt, zt, zt, zt, zt, zt, zf] ?_ rfl rfl HT_ (Or.inl ⟨by rfl, ?_⟩) ?_ ?_ ?_
   rotate_left; · exact zqB
   rotate_left; · exact zqA
   refine zP 8 (some 6) #[zt, zt, zt, zt, zt, zt, zt, zt, zt] ?_ rfl rfl HT_ (Or.inl ⟨by rfl, ?_⟩) ?_ ?_ ?_
   rotate_left; · exact zqB
   rotate_left; · exact zqA
   refine done_ (done_of HT_.out (by kernel_rfl)) ?_
   go_wp2
   go_ret
   exact ⟨by first | (rw [← HR.out]; first | rfl | (simp; done)) | (simp [← HR.out]; done), by first | exact HI3.out | exact HI3.out.drew | exact HI3.out.drewN _, by first | exact HB3.out | exact below_drew1 HB3.out | exact pw_below_drewN HB3.out _, by first | exact HK3.out | exact keep_drew HK3.out | exact keep_drewN HK3.out _⟩
  rw [if_pos c2] at HR
  have c2b : (x == 1) = true := beq_iff_eq.mpr c2
  go_wp2_with fail
  refine start_ (n := 11) (S := fun w' => True) (ds := []) #[zf, zf, zf, zf, zf, zf, zf, zf, zf, zf, zf] (by kernel_rfl) rfl rfl trivial (fun hHeld => ?_)
  refine with_tabW spec_l1Cur_spoilt.c.tab9 spec_l1Cur_spoilt.c.bits9 (fun HT_ HW_ => ?_)
  refine zP 0 (some 39) #[zt, zf, zf, zf, zf, zf, zf, zf, zf, zf, zf] ?_ rfl rfl HT_ (Or.inl ⟨by rfl, ?_⟩) ?_ ?_ ?_
  rotate_left; · exact zqB
  rotate_left; · exact zqA
  refine zP 1 (some 40) #[zt, zt, zf, zf, zf, zf, zf, zf, zf, zf, zf] ?_ rfl rfl HT_ (Or.inl ⟨by rfl, ?_⟩) ?_ ?_ ?_
  rotate_left; · exact zqB
  rotate_left; · exact zqA
  refine zP 2 (some 41) #[zt, zt, zt, zf, zf, zf, zf, zf, zf, zf, zf] ?_ rfl rfl HT_ (Or.inl ⟨by rfl, ?_⟩) ?_ ?_ ?_
  rotate_left; · exact zqB
  rotate_left; · exact zqA
  refine zP 3 (some 42) #[zt, zt, zt, zt, zf, zf, zf, zf, zf, zf, zf] ?_ rfl rfl HT_ (Or.inl ⟨by rfl, ?_⟩) ?_ ?_ ?_
  rotate_left; · exact zqB
  rotate_left; · exact zqA
  refine zP 4 (some 43) #[zt, zt, zt, zt, zt, zf, zf, zf, zf, zf, zf] ?_ rfl rfl HT_ (Or.inl ⟨by rfl, ?_⟩) ?_ ?_ ?_
  rotate_left; · exact zqB
  rotate_left; · exact zqA
  refine zP 5 (some 44) #[zt, zt, zt, zt, zt, zt, zf, zf, zf, zf, zf] ?_ rfl rfl HT_ (Or.inl ⟨by rfl, ?_⟩) ?_ ?_ ?_
  rotate_left; · exact zqB
  rotate_left; · exact zqA
  refine zP 6 (some 45) #[zt, zt, zt, zt, zt, zt, zt, zf, zf, zf, zf] ?_ rfl rfl HT_ (Or.inl ⟨by rfl, ?_⟩) ?_ ?_ ?_
  rotate_left; · exact zqB
  rotate_left; · exact zqA
  refine zP 7 (some 46) #[zt, zt, zt, zt, zt, zt, zt, zt, zf, zf, zf] ?_ rfl rfl HT_ (Or.inl ⟨by rfl, ?_⟩) ?_ ?_ ?_
  rotate_left; · exact zqB
  rotate_left; · exact zqA
  refine zP 8 (some 47) #[zt, zt, zt, zt, zt, zt, zt, zt, zt, zf, zf] ?_ rfl rfl HT_ (Or.inl ⟨by rfl, ?_⟩) ?_ ?_ ?_
  rotate_left; · exact zqB
  rotate_left; · exact zqA
  refine zP 9 (some 48) #[zt, zt, zt, zt, zt, zt, zt, zt, zt, zt, zf] ?_ rfl rfl HT_ (Or.inl ⟨by rfl, ?_⟩) ?_ ?_ ?_
  rotate_left; · exact zqB
  rotate_left; · exact zqA
  refine zP 10 (some 6) #[zt, zt, zt, zt, zt, zt, zt, zt, zt, zt, zt] ?_ rfl rfl HT_ (Or.inl ⟨by rfl, ?_⟩) ?_ ?_ ?_
  rotate_left; · exact zqB
  rotate_left; · exact zqA
  refine done_ (done_of HT_.out (by kernel_rfl)) ?_
  go_wp2
  go_ret
  exact ⟨by first | (rw [← HR.out]; first | rfl | (simp; done)) | (simp [← HR.out]; done), by first | exact HI3.out | exact HI3.out.drew | exact HI3.out.drewN _, by first | exact HB3.out | exact below_drew1 HB3.out | exact pw_below_drewN HB3.out _, by first | exact HK3.out | exact keep_drew HK3.out | exact keep_drewN HK3.out _⟩
 ·
  cases h
def spec_DrawParseWarning.f (k : Nat) (l0 : List Int) : Option (ByteArray) := (spec_l1Cur_warning.f k l0 0 0).bind fun bt284 => ((spec_WarningText.f k bt284.1 bt284.2.1 bt284.2.2.1 bt284.2.2.2.1 bt284.2.2.2.2.1 bt284.2.2.2.2.2.1).bind fun bt292 => ((spec_l1Cur_one.f l0 bt284.2.2.2.2.2.2.1 bt284.2.2.2.2.2.2.2 4).bind fun bt294 => (if bt294.1 = true then ((spec_l1Cur_spoilt.f l0 bt294.2.1 bt294.2.2 bt292.1 (⟨#[32, 48, 46, 44, 82]⟩ : ByteArray)).bind fun bt297 => (some bt297.1)) else (some bt292.1))))
set_option maxHeartbeats 8000000 in
set_option maxRecDepth 100000 in
theorem spec_DrawParseWarning.calls (k : Nat) (A0 : Option Addr) (c0 : Nat) (l0 : List Int) (r : ByteArray) (w : World) (hr0 : Kd.C (Kd.int .u8) w A0 l0.length l0) (hc0 : l0.length ≤ c0) (h : spec_DrawParseWarning.f k l0 = some r) :
  Calls Tryz.prog 9 #[.slice A0 l0.length c0] w fun e w' => e = .returned (.string r) ∧ Below w.heap.size w w' := by
 have hu45 := Tryz.underlying45
 have HR0 := zm hr0
 have HC0 := zm hc0
 clear hr0 hc0
 have HB := zm (Below.refl w.heap.size w)
 have H : ((spec_l1Cur_warning.f k l0 0 0).bind fun bt284 => ((spec_WarningText.f k bt284.1 bt284.2.1 bt284.2.2.1 bt284.2.2.2.1 bt284.2.2.2.2.1 bt284.2.2.2.2.2.1).bind fun bt292 => ((spec_l1Cur_one.f l0 bt284.2.2.2.2.2.2.1 bt284.2.2.2.2.2.2.2 4).bind fun bt294 => (if bt294.1 = true then ((spec_l1Cur_spoilt.f l0 bt294.2.1 bt294.2.2 bt292.1 (⟨#[32, 48, 46, 44, 82]⟩ : ByteArray)).bind fun bt297 => (some bt297.1)) else (some bt292.1))))) = some r := h
 clear h
 obtain ⟨⟨t284, t285, t286, t287, t288, t289, t290, t291⟩, A20, H⟩ := zob H
 replace H : ((spec_WarningText.f k t284 t285 t286 t287 t288 t289).bind fun bt292 => ((spec_l1Cur_one.f l0 t290 t291 4).bind fun bt294 => (if bt294.1 = true then ((spec_l1Cur_spoilt.f l0 bt294.2.1 bt294.2.2 bt292.1 (⟨#[32, 48, 46, 44, 82]⟩ : ByteArray)).bind fun bt297 => (some bt297.1)) else (some bt292.1)))) = some r := H
 have A2 := zm A20
 clear A20
 obtain ⟨⟨t292, t293⟩, A30, H⟩ := zob H
 replace H : ((spec_l1Cur_one.f l0 t290 t291 4).bind fun bt294 => (if bt294.1 = true then ((spec_l1Cur_spoilt.f l0 bt294.2.1 bt294.2.2 t292 (⟨#[32, 48, 46, 44, 82]⟩ : ByteArray)).bind fun bt297 => (some bt297.1)) else (some t292))) = some r := H
 have A3 := zm A30
 clear A30
 obtain ⟨⟨t294, t295, t296⟩, A40, H⟩ := zob H
 replace H : (if t294 = true then ((spec_l1Cur_spoilt.f l0 t295 t296 t292 (⟨#[32, 48, 46, 44, 82]⟩ : ByteArray)).bind fun bt297 => (some bt297.1)) else (some t292)) = some r := H
 have A4 := zm A40
 clear A40
 by_cases c5 : t294 = true
 case neg =>
  replace c5 := Bool.eq_false_iff.mpr c5
  subst c5
  have H1 : (some t292) = some r := by rw [if_neg (show ¬ (false = true) by decide)] at H; exact H
  clear H
  have H := H1
  clear H1
  obtain rfl := Option.some.inj H
  go_enter Tryz.func9, Tryz.ntmps9
  go_wp2_with (first | ((with_reducible refine gate_dst (N := 8) rfl ?_); refine box_event ?hg (N := 8) ?hd (cs := #[.slice A0 l0.length c0, .int .i64 0, .int .u64 0]) (t := 45) ?hr ?_; (case hd => rfl); (case hg => rfl); (case hr => exact zqS); intro gb283 hg w12 hbox hb; have HI283 := zm ((show IsS45 w w12 gb283 l0 0 0 from ⟨_, _, hbox, (by rw [hg]; exact (below_size zq0) : w.heap.size ≤ gb283), HR0.out⟩)); have GW283 := zm ((by rw [hg]; exact (below_size zq0) : w.heap.size ≤ gb283)); replace HB := zm (below_step zq0 hb); have GE283 := GW283; clear hb hbox hg) | ((with_reducible refine gate_callee (f := 22) rfl ?_); refine goesL_ (some 11) rfl rfl Tryz.func22 (by kernel_rfl) rfl #[.pointer (some ⟨gb283, 0, none⟩)] rfl zq1 ?_; (with_reducible refine (spec_l1Cur_warning.calls k gb283 l0 0 0 t284 t285 t286 t287 t288 t289 t290 t291 w _ ?side1 ?side2 A2.out).mono ?_); (case side1 => exact zq44); (case side2 => exact zq34); rintro e w13 ⟨rfl, hi, hb, hk⟩; refine ⟨_, rfl, ?_⟩; replace HB := zm (hb); replace HI283 := zm (hi); (try clear hb); (try clear hb2); (try clear hk); (try clear hi)) | ((with_reducible refine gate_callee (f := 7) rfl ?_); refine goesL_ (some 12) rfl rfl Tryz.func7 (by kernel_rfl) rfl #[.agg #[.int .i64 t284, .int .i64 t285, .int .i64 t286, .int .i64 t287, .int .i64 t288, .int .i64 t289]] rfl zq1 ?_; (with_reducible refine (spec_WarningText.calls k t284 t285 t286 t287 t288 t289 t292 t293 _ A3.out).mono ?_); rintro e w14 ⟨rfl, hb⟩; refine ⟨_, rfl, ?_⟩; replace HB := zm (below_step zq34 hb); replace HI283 := zm (IsS45.below zq44 hb); (try clear hb); (try clear hb2); (try clear hk); (try clear hi)) | ((with_reducible refine gate_callee (f := 30) rfl ?_); refine goesL_ (some 16) rfl rfl Tryz.func30 (by kernel_rfl) rfl #[.pointer (some ⟨gb283, 0, none⟩), .int .i64 4] rfl zq1 ?_; (with_reducible refine (spec_l1Cur_one.calls gb283 l0 t290 t291 4 false t295 t296 w _ ?side1 ?side2 A4.out).mono ?_); (case side1 => exact zq44); (case side2 => exact zq34); rintro e w15 ⟨rfl, hi, hb, hk⟩; refine ⟨_, rfl, ?_⟩; replace HB := zm (hb); replace HI283 := zm (hi); (try clear hb); (try clear hb2); (try clear hk); (try clear hi)))
  go_ret
  exact ⟨zqE, zq34⟩
 subst c5
 have H1 : ((spec_l1Cur_spoilt.f l0 t295 t296 t292 (⟨#[32, 48, 46, 44, 82]⟩ : ByteArray)).bind fun bt297 => (some bt297.1)) = some r := by rw [if_pos rfl] at H; exact H
 clear H
 have H := H1
 clear H1
 obtain ⟨⟨t297, t298, t299⟩, A60, H⟩ := zob H
 replace H : (some t297) = some r := H
 have A6 := zm A60
 clear A60
 obtain rfl := Option.some.inj H
 go_enter Tryz.func9, Tryz.ntmps9
 go_wp2_with (first | ((with_reducible refine gate_dst (N := 8) rfl ?_); refine box_event ?hg (N := 8) ?hd (cs := #[.slice A0 l0.length c0, .int .i64 0, .int .u64 0]) (t := 45) ?hr ?_; (case hd => rfl); (case hg => rfl); (case hr => exact zqS); intro gb283 hg w7 hbox hb; have HI283 := zm ((show IsS45 w w7 gb283 l0 0 0 from ⟨_, _, hbox, (by rw [hg]; exact (below_size zq0) : w.heap.size ≤ gb283), HR0.out⟩)); have GW283 := zm ((by rw [hg]; exact (below_size zq0) : w.heap.size ≤ gb283)); replace HB := zm (below_step zq0 hb); have GE283 := GW283; clear hb hbox hg) | ((with_reducible refine gate_callee (f := 22) rfl ?_); refine goesL_ (some 11) rfl rfl Tryz.func22 (by kernel_rfl) rfl #[.pointer (some ⟨gb283, 0, none⟩)] rfl zq1 ?_; (with_reducible refine (spec_l1Cur_warning.calls k gb283 l0 0 0 t284 t285 t286 t287 t288 t289 t290 t291 w _ ?side1 ?side2 A2.out).mono ?_); (case side1 => exact zq44); (case side2 => exact zq34); rintro e w8 ⟨rfl, hi, hb, hk⟩; refine ⟨_, rfl, ?_⟩; replace HB := zm (hb); replace HI283 := zm (hi); (try clear hb); (try clear hb2); (try clear hk); (try clear hi)) | ((with_reducible refine gate_callee (f := 7) rfl ?_); refine goesL_ (some 12) rfl rfl Tryz.func7 (by kernel_rfl) rfl #[.agg #[.int .i64 t284, .int .i64 t285, .int .i64 t286, .int .i64 t287, .int .i64 t288, .int .i64 t289]] rfl zq1 ?_; (with_reducible refine (spec_WarningText.calls k t284 t285 t286 t287 t288 t289 t292 t293 _ A3.out).mono ?_); rintro e w9 ⟨rfl, hb⟩; refine ⟨_, rfl, ?_⟩; replace HB := zm (below_step zq34 hb); replace HI283 := zm (IsS45.below zq44 hb); (try clear hb); (try clear hb2); (try clear hk); (try clear hi)) | ((with_reducible refine gate_callee (f := 30) rfl ?_); refine goesL_ (some 16) rfl rfl Tryz.func30 (by kernel_rfl) rfl #[.pointer (some ⟨gb283, 0, none⟩), .int .i64 4] rfl zq1 ?_; (with_reducible refine (spec_l1Cur_one.calls gb283 l0 t290 t291 4 true t295 t296 w _ ?side1 ?side2 A4.out).mono ?_); (case side1 => exact zq44); (case side2 => exact zq34); rintro e w10 ⟨rfl, hi, hb, hk⟩; refine ⟨_, rfl, ?_⟩; replace HB := zm (hb); replace HI283 := zm (hi); (try clear hb); (try clear hb2); (try clear hk); (try clear hi)) | ((with_reducible refine gate_callee (f := 31) rfl ?_); refine goesL_ (some 19) rfl rfl Tryz.func31 (by kernel_rfl) rfl #[.pointer (some ⟨gb283, 0, none⟩), .string t292, .string (⟨#[32, 48, 46, 44, 82]⟩ : ByteArray)] rfl zq1 ?_; (with_reducible refine (spec_l1Cur_spoilt.calls gb283 l0 t295 t296 t292 (⟨#[32, 48, 46, 44, 82]⟩ : ByteArray) t297 t298 t299 w _ ?side1 ?side2 A6.out).mono ?_); (case side1 => exact zq44); (case side2 => exact zq34); rintro e w11 ⟨rfl, hi, hb, hk⟩; refine ⟨_, rfl, ?_⟩; replace HB := zm (hb); replace HI283 := zm (hi); (try clear hb); (try clear hb2); (try clear hk); (try clear hi)))
 go_ret
 exact ⟨zqE, zq34⟩
def spec_l16Cut.l0 : Nat → ByteArray → ByteArray → Int → Option (ByteArray × ByteArray × Bool)
 | 0, _, _, _ => none
 | k + 1, x0, x1, x7 => if (wrap64 (x7 + (x1.size : Int))) ≤ (x0.size : Int) then (if 0 ≤ x7 then (if x7 ≤ (wrap64 (x7 + (x1.size : Int))) then (if (x0.extract (x7 : Int).toNat ((wrap64 (x7 + (x1.size : Int))) : Int).toNat).toList = x1.toList then (if x7 ≤ (x0.size : Int) then (if 0 ≤ (wrap64 (x7 + (x1.size : Int))) then (some (x0.extract 0 (x7 : Int).toNat, x0.extract ((wrap64 (x7 + (x1.size : Int))) : Int).toNat x0.size, true)) else (none)) else (none)) else (spec_l16Cut.l0 k x0 x1 (wrap64 (x7 + 1)))) else (none)) else (none)) else (some (x0, (⟨#[]⟩ : ByteArray), false))
def spec_l16Cut.f (k : Nat) (a0 : ByteArray) (a1 : ByteArray) : Option (ByteArray × ByteArray × Bool) := spec_l16Cut.l0 k a0 a1 0
set_option maxHeartbeats 8000000 in
set_option maxRecDepth 100000 in
theorem spec_l16Cut.calls (k : Nat) (a0 : ByteArray) (a1 : ByteArray) (r1 : ByteArray) (r2 : ByteArray) (r3 : Bool) (w : World) (h : spec_l16Cut.f k a0 a1 = some (r1, r2, r3)) :
  Calls Tryz.prog 32 #[.string a0, .string a1] w fun e w' => e = .returned (.tuple #[.string r1, .string r2, .bool r3]) ∧ Drawn0 w w' := by
 have H : (spec_l16Cut.l0 k a0 a1 0) = some (r1, r2, r3) := h
 clear h
 have H' := zm H
 clear H
 go_enter Tryz.func32, Tryz.ntmps32
 go_wp2
 repeat (go_quiet (fail); try go_wp2)
 go_loopg [7] k (fun kq v7 w' => ∃ (x7_1 : Int), v7 = .int .i64 x7_1 ∧ Aside0 (spec_l16Cut.l0 kq a0 a1 x7_1 = some (r1, r2, r3)) ∧ Aside0 (kq ≤ k) ∧ Drawn0 w w')
 case atStart => exact ⟨(0), (by first | rfl | (simp; done) | (simp [*]; done)), H', ⟨Nat.le_refl _⟩, zq37⟩
 clear H'
 try clear p2
 obtain ⟨x7_1, rfl, HA, HK1, ⟨m1, rfl⟩⟩ := hrel
 cases gk with
 | zero => exact absurd HA.out (by simp [spec_l16Cut.l0])
 | succ k1 =>
  have H := HA.out
  clear HA
  simp only [spec_l16Cut.l0] at H
  by_cases c3 : (wrap64 (x7_1 + (a1.size : Int))) ≤ (a0.size : Int)
  case neg =>
   rw [if_neg c3] at H
   have c3b0 : decide ((wrap64 (x7_1 + (a1.size : Int))) ≤ (a0.size : Int)) = false := decide_eq_false c3
   clear c3
   simp only [Option.some.injEq, Prod.mk.injEq] at H
   obtain ⟨rfl, rfl, rfl⟩ := H
   go_wp2
   repeat (go_quiet (fail); try go_wp2)
   go_ret3
   exact ⟨by first | rfl | (simp; done) | (simp [*]; done), zq37⟩
  rw [if_pos c3] at H
  have c3b0 : decide ((wrap64 (x7_1 + (a1.size : Int))) ≤ (a0.size : Int)) = true := decide_eq_true c3
  clear c3
  by_cases c4 : 0 ≤ x7_1
  case neg =>
   rw [if_neg c4] at H
   exact absurd H (by simp)
  rw [if_pos c4] at H
  have c4b0 := eq_true c4
  have c4b1 : decide (0 ≤ x7_1) = true := decide_eq_true c4
  clear c4
  by_cases c5 : x7_1 ≤ (wrap64 (x7_1 + (a1.size : Int)))
  case neg =>
   rw [if_neg c5] at H
   exact absurd H (by simp)
  rw [if_pos c5] at H
  have c5b0 := eq_true c5
  have c5b1 : decide (x7_1 ≤ (wrap64 (x7_1 + (a1.size : Int)))) = true := decide_eq_true c5
  have c6b0 := eq_true (of_decide_eq_true zq8 : (wrap64 (x7_1 + (a1.size : Int))) ≤ (a0.size : Int))
  by_cases c7 : (a0.extract (x7_1 : Int).toNat ((wrap64 (x7_1 + (a1.size : Int))) : Int).toNat).toList = a1.toList
  case neg =>
   rw [if_neg c7] at H
   have c7b0 : ((a0.extract (x7_1 : Int).toNat ((wrap64 (x7_1 + (a1.size : Int))) : Int).toNat).toList == a1.toList) = false := beq_eq_false_iff_ne.mpr c7
   have c7b1 : ((a0.extract (x7_1 : Int).toNat ((wrap64 (x7_1 + (a1.size : Int))) : Int).toNat).toList != a1.toList) = true := bne_iff_ne.mpr c7
   have H' := zm H
   clear H
   go_wp2
   repeat (go_quiet (fail); try go_wp2)
   go_roundg k1
   case measure => have := HK1.out; omega
   case rel => exact ⟨(wrap64 (x7_1 + 1)), (by first | rfl | (simp; done) | (simp [*]; done)), H', ⟨by have := HK1.out; omega⟩, zq37⟩
  rw [if_pos c7] at H
  have c7b0 : ((a0.extract (x7_1 : Int).toNat ((wrap64 (x7_1 + (a1.size : Int))) : Int).toNat).toList == a1.toList) = true := beq_iff_eq.mpr c7
  have c7b1 : ((a0.extract (x7_1 : Int).toNat ((wrap64 (x7_1 + (a1.size : Int))) : Int).toNat).toList != a1.toList) = false := bne_eq_false_iff_eq.mpr c7
  clear c7
  have c8b0 := eq_true (of_decide_eq_true zq8 : 0 ≤ x7_1)
  by_cases c9 : x7_1 ≤ (a0.size : Int)
  case neg =>
   rw [if_neg c9] at H
   exact absurd H (by simp)
  rw [if_pos c9] at H
  have c9b0 := eq_true c9
  have c9b1 : decide (x7_1 ≤ (a0.size : Int)) = true := decide_eq_true c9
  clear c9
  obtain ⟨ji10, hji10⟩ : ∃ j_ : Int, (wrap64 (x7_1 + (a1.size : Int))) = j_ := ⟨_, rfl⟩
  replace H : (if 0 ≤ (ji10) then (some (a0.extract 0 (x7_1 : Int).toNat, a0.extract ((ji10) : Int).toNat a0.size, true)) else (none)) = some (r1, r2, r3) := by first | (rw [hji10] at H; exact H) | (simp only [hji10] at H ⊢; exact H)
  (try rw [hji10] at c3b0)
  (try rw [hji10] at c5b0)
  (try rw [hji10] at c5b1)
  (try rw [hji10] at c5)
  (try rw [hji10] at c7b0)
  (try rw [hji10] at c7b1)
  have hji10w : (IntKind.i64.wrap (x7_1 + (a1.size : Int))) = ji10 := (i64_w _).trans hji10
  by_cases c11 : 0 ≤ (ji10)
  case neg =>
   rw [if_neg c11] at H
   exact absurd H (by simp)
  rw [if_pos c11] at H
  have c11b0 := eq_true c11
  have c11b1 : decide (0 ≤ (ji10)) = true := decide_eq_true c11
  clear c11
  have c12b0 := eq_true (of_decide_eq_true zq8 : (ji10) ≤ (a0.size : Int))
  simp only [Option.some.injEq, Prod.mk.injEq] at H
  obtain ⟨rfl, rfl, rfl⟩ := H
  go_wp2
  repeat (go_quiet (fail); try go_wp2)
  go_ret3
  exact ⟨by first | rfl | (simp; done) | (simp only [← hji10] <;> (first | rfl | simp)) | (simp [*]; done), zq37⟩
def spec_l16Index.l0 : Nat → List ByteArray → ByteArray → Int → Option (Int)
 | 0, _, _, _ => none
 | k + 1, x0, x1, x5 => if x5 < (x0.length : Int) then (if 0 ≤ x5 then (if (rdOf ByteArray.empty x0 x5).toList = x1.toList then (some x5) else (spec_l16Index.l0 k x0 x1 (wrap64 (x5 + 1)))) else (none)) else (some 0)
def spec_l16Index.f (k : Nat) (l0 : List ByteArray) (a1 : ByteArray) : Option (Int) := spec_l16Index.l0 k l0 a1 1
set_option maxHeartbeats 8000000 in
set_option maxRecDepth 100000 in
theorem spec_l16Index.calls (k : Nat) (A0 : Option Addr) (c0 : Nat) (l0 : List ByteArray) (a1 : ByteArray) (r : Int) (w : World) (hr0 : Kd.C Kd.string w A0 l0.length l0) (hc0 : l0.length ≤ c0) (h : spec_l16Index.f k l0 a1 = some r) :
  Calls Tryz.prog 33 #[.slice A0 l0.length c0, .string a1] w fun e w' => e = .returned (.int .i64 r) ∧ Drawn0 w w' := by
 have HR0 := zm hr0
 have HC0 := zm hc0
 clear hr0 hc0
 have H : (spec_l16Index.l0 k l0 a1 1) = some r := h
 clear h
 have H' := zm H
 clear H
 go_enter Tryz.func33, Tryz.ntmps33
 go_wp2
 go_loopg [5] k (fun kq v5 w' => ∃ (x5_1 : Int), v5 = .int .i64 x5_1 ∧ Aside0 (spec_l16Index.l0 kq l0 a1 x5_1 = some r) ∧ Aside0 (kq ≤ k) ∧ Drawn0 w w')
 case atStart => exact ⟨(1), (by first | rfl | (simp; done) | (simp [*]; done)), H', ⟨Nat.le_refl _⟩, zq37⟩
 clear H'
 try clear p2
 obtain ⟨x5_1, rfl, HA, HK1, ⟨m1, rfl⟩⟩ := hrel
 cases gk with
 | zero => exact absurd HA.out (by simp [spec_l16Index.l0])
 | succ k1 =>
  have H := HA.out
  clear HA
  simp only [spec_l16Index.l0] at H
  by_cases c3 : x5_1 < (l0.length : Int)
  case neg =>
   rw [if_neg c3] at H
   have c3b0 : decide (x5_1 < (l0.length : Int)) = false := decide_eq_false c3
   clear c3
   obtain rfl := Option.some.inj H
   go_wp2
   go_ret
   exact ⟨by first | rfl | (simp; done) | (simp [*]; done), zq37⟩
  rw [if_pos c3] at H
  have c3b0 : decide (x5_1 < (l0.length : Int)) = true := decide_eq_true c3
  clear c3
  by_cases c4 : 0 ≤ x5_1
  case neg =>
   rw [if_neg c4] at H
   exact absurd H (by simp)
  rw [if_pos c4] at H
  have c4b0 : decide (0 ≤ x5_1) = true := decide_eq_true c4
  clear c4
  by_cases c5 : (rdOf ByteArray.empty l0 x5_1).toList = a1.toList
  case pos =>
   rw [if_pos c5] at H
   have c5b0 : ((rdOf ByteArray.empty l0 x5_1).toList == a1.toList) = true := beq_iff_eq.mpr c5
   have c5b1 : ((rdOf ByteArray.empty l0 x5_1).toList != a1.toList) = false := bne_eq_false_iff_eq.mpr c5
   clear c5
   obtain rfl := Option.some.inj H
   have p300 : 0 ≤ (x5_1 : Int) := of_decide_eq_true zq8
   have q300 : x5_1 < (l0.length : Int) := of_decide_eq_true zq8
   obtain ⟨ad300, e300, hx300_0⟩ := Kd.at_string HR0.out x5_1 p300 q300
   cases e300
   replace p300 := eq_true p300
   replace q300 := eq_true q300
   go_wp2
   go_ret
   exact ⟨by first | rfl | (simp; done) | (simp [*]; done), zq37⟩
  rw [if_neg c5] at H
  have c5b0 : ((rdOf ByteArray.empty l0 x5_1).toList == a1.toList) = false := beq_eq_false_iff_ne.mpr c5
  have c5b1 : ((rdOf ByteArray.empty l0 x5_1).toList != a1.toList) = true := bne_iff_ne.mpr c5
  have H' := zm H
  clear H
  have p300 : 0 ≤ (x5_1 : Int) := of_decide_eq_true zq8
  have q300 : x5_1 < (l0.length : Int) := of_decide_eq_true zq8
  obtain ⟨ad300, e300, hx300_0⟩ := Kd.at_string HR0.out x5_1 p300 q300
  cases e300
  replace p300 := eq_true p300
  replace q300 := eq_true q300
  go_wp2
  go_roundg k1
  case measure => have := HK1.out; omega
  case rel => exact ⟨(wrap64 (x5_1 + 1)), (by first | rfl | (simp; done) | (simp [*]; done)), H', ⟨by have := HK1.out; omega⟩, zq37⟩
mutual
def spec_l1Read.j0 : Nat → ByteArray → ByteArray → Bool → Option (Int × Bool)
 | 0, _, _, _ => none
 | k + 1, x0, x4, x15 => if x15 = true then (if 1 ≤ (x4.size : Int) then (spec_l1Read.j1 k x0 (x4.extract 1 x4.size)) else (none)) else (spec_l1Read.j1 k x0 x4)
def spec_l1Read.j1 : Nat → ByteArray → ByteArray → Option (Int × Bool)
 | 0, _, _ => none
 | k + 1, x0, x4 => (spec_l1In.f (x4.size : Int) 1 6).bind fun t301 => (if t301 = true then (spec_l1Read.l0 k x0 x4 0 0) else (some (0, false)))
def spec_l1Read.l0 : Nat → ByteArray → ByteArray → Int → Int → Option (Int × Bool)
 | 0, _, _, _, _ => none
 | k + 1, x0, x4, x5, x6 => if x6 < (x4.size : Int) then (if 0 ≤ x6 then (if (bt x4 x6) < 48 then (some (0, false)) else (if (bt x4 x6) > 57 then (some (0, false)) else (spec_l1Read.l0 k x0 x4 (wrap64 ((wrap64 (10 * x5)) + (((bt x4 x6) - 48) % 256))) (wrap64 (x6 + 1))))) else (none)) else (if (x4.size : Int) < (x0.size : Int) then ((spec_l1Num.f k (wrap64 (-x5))).bind fun t302 => (if t302.toList = x0.toList then (some (wrap64 (-x5), true)) else (some (0, false)))) else ((spec_l1Num.f k x5).bind fun t303 => (if t303.toList = x0.toList then (some (x5, true)) else (some (0, false)))))
end
def spec_l1Read.f (k : Nat) (a0 : ByteArray) : Option (Int × Bool) := if (a0.size : Int) > 1 then (if 0 < (a0.size : Int) then (spec_l1Read.j0 k a0 a0 ((bt a0 0) == 45)) else (none)) else (spec_l1Read.j0 k a0 a0 false)
set_option maxHeartbeats 8000000 in
set_option maxRecDepth 100000 in
theorem spec_l1Read.calls (k : Nat) (a0 : ByteArray) (r1 : Int) (r2 : Bool) (w : World) (h : spec_l1Read.f k a0 = some (r1, r2)) :
  Calls Tryz.prog 36 #[.string a0] w fun e w' => e = .returned (.tuple #[.int .i64 r1, .bool r2]) ∧ Below w.heap.size w w' := by
 have HB := zm (Below.refl w.heap.size w)
 have H : (if (a0.size : Int) > 1 then (if 0 < (a0.size : Int) then (spec_l1Read.j0 k a0 a0 ((bt a0 0) == 45)) else (none)) else (spec_l1Read.j0 k a0 a0 false)) = some (r1, r2) := h
 clear h
 have HC2 := zm H
 clear H
 go_enter Tryz.func36, Tryz.ntmps36
 go_upto_region 2 with (fail)
 go_cut [15] (fun v15 wc => ∃ (kq : Nat) (x15_1 : Bool), v15 = .bool x15_1 ∧ Aside0 (spec_l1Read.j0 kq a0 a0 x15_1 = some (r1, r2)) ∧ Aside0 (kq ≤ k) ∧ Aside0 (Below w.heap.size w wc))
 case first =>
  have H := HC2.out
  clear HC2
  by_cases c3 : (a0.size : Int) > 1
  case neg =>
   rw [if_neg c3] at H
   have c3b0 : decide (1 < (a0.size : Int)) = false := decide_eq_false c3
   have c3b1 : decide (1 < a0.size) = false := decide_eq_false (by omega)
   clear c3
   (first | rw [c3b0] | (simp only [i64_w, i32_w]; rw [c3b0]) | rw [c3b1] | skip)
   have H' := zm H
   clear H
   go_wp2
   go_meet
   case rel => exact ⟨_, (false), (by first | rfl | (simp; done) | (simp [*]; done)), H', ⟨by first | omega | exact Nat.le_refl _⟩, ⟨zq0⟩⟩
  rw [if_pos c3] at H
  have c3b0 : decide (1 < (a0.size : Int)) = true := decide_eq_true c3
  have c3b1 : decide (1 < a0.size) = true := decide_eq_true (by omega)
  clear c3
  (first | rw [c3b0] | (simp only [i64_w, i32_w]; rw [c3b0]) | rw [c3b1] | skip)
  by_cases c4 : 0 < (a0.size : Int)
  case neg =>
   rw [if_neg c4] at H
   exact absurd H (by simp)
  rw [if_pos c4] at H
  have c4b0 : decide (0 < (a0.size : Int)) = true := decide_eq_true c4
  have c4b1 : decide (0 < a0.size) = true := decide_eq_true (by omega)
  clear c4
  have H' := zm H
  clear H
  have p5 : 0 ≤ (0 : Int) := (by omega)
  have q5 : 0 < a0.size := (by have : (0 : Int) < (a0.size : Int) := of_decide_eq_true zq8; omega)
  have hx5 : ∀ h : 0 < a0.size, ((a0[0]'h).toNat : Int) = bt a0 0 := bt_at a0 0
  clear p5
  have qi5 : (0 < (a0.size : Int)) = True := eq_true (of_decide_eq_true zq8)
  replace q5 := eq_true q5
  go_wp2
  go_meet
  case rel => exact ⟨_, (((bt a0 0) == 45)), (by first | rfl | (simp; done) | (simp [*]; done)), H', ⟨by first | omega | exact Nat.le_refl _⟩, ⟨zq0⟩⟩
 clear HC2
 try clear p2
 try clear c3
 try clear c3b0
 try clear c3b1
 try clear c4
 try clear c4b0
 try clear c4b1
 try clear p5
 try clear q5
 try clear hx5
 try clear qi5
 try clear p5
 try clear q5
 obtain ⟨kq, x15_1, rfl, HA, HJ1, HB⟩ := hcut
 cases kq with
 | zero => exact absurd HA.out (by simp [spec_l1Read.j0])
 | succ kj1 =>
  have H := HA.out
  clear HA
  simp only [spec_l1Read.j0] at H
  have HC6 := zm H
  clear H
  go_upto_if 15 with (fail)
  go_cut [4] (fun v4 wc => ∃ (kq : Nat) (x4_5 : ByteArray), v4 = .string x4_5 ∧ Aside0 (spec_l1Read.j1 kq a0 x4_5 = some (r1, r2)) ∧ Aside0 (kq ≤ kj1) ∧ Aside0 (Below w.heap.size w wc))
  case first =>
   have H := HC6.out
   clear HC6
   by_cases c7 : x15_1 = true
   case neg =>
    replace c7 := Bool.eq_false_iff.mpr c7
    subst c7
    have H1 : (spec_l1Read.j1 kj1 a0 a0) = some (r1, r2) := by rw [if_neg (show ¬ (false = true) by decide)] at H; exact H
    clear H
    have H := H1
    clear H1
    have H' := zm H
    clear H
    go_wp2
    go_meet
    case rel => exact ⟨_, (a0), (by first | rfl | (simp; done) | (simp [*]; done)), H', ⟨by have := HJ1.out; first | omega | exact Nat.le_refl _⟩, ⟨zq0⟩⟩
   subst c7
   have H1 : (if 1 ≤ (a0.size : Int) then (spec_l1Read.j1 kj1 a0 (a0.extract 1 a0.size)) else (none)) = some (r1, r2) := by rw [if_pos rfl] at H; exact H
   clear H
   have H := H1
   clear H1
   by_cases c8 : 1 ≤ (a0.size : Int)
   case neg =>
    rw [if_neg c8] at H
    exact absurd H (by simp)
   rw [if_pos c8] at H
   have c8b0 := eq_true c8
   have c8b1 : decide (1 ≤ (a0.size : Int)) = true := decide_eq_true c8
   clear c8
   have H' := zm H
   clear H
   go_wp2
   go_meet
   case rel => exact ⟨_, (a0.extract 1 a0.size), (by first | rfl | (simp; done) | (simp [*]; done)), H', ⟨by have := HJ1.out; first | omega | exact Nat.le_refl _⟩, ⟨zq0⟩⟩
  clear HC6
  try clear p2
  try clear c3
  try clear c3b0
  try clear c3b1
  try clear c4
  try clear c4b0
  try clear c4b1
  try clear p5
  try clear q5
  try clear hx5
  try clear qi5
  try clear c7
  try clear c8
  try clear c8b0
  try clear c8b1
  try clear p2
  try clear p5
  try clear q5
  obtain ⟨kq, x4_5, rfl, HA, HJ5, HB⟩ := hcut
  cases kq with
  | zero => exact absurd HA.out (by simp [spec_l1Read.j1])
  | succ kj5 =>
   have H := HA.out
   clear HA
   simp only [spec_l1Read.j1] at H
   obtain ⟨t301, A90, H⟩ := zob H
   replace H : (if t301 = true then (spec_l1Read.l0 kj5 a0 x4_5 0 0) else (some (0, false))) = some (r1, r2) := H
   have A9 := zm A90
   clear A90
   by_cases c10 : t301 = true
   case neg =>
    replace c10 := Bool.eq_false_iff.mpr c10
    subst c10
    have H1 : (some (0, false)) = some (r1, r2) := by rw [if_neg (show ¬ (false = true) by decide)] at H; exact H
    clear H
    have H := H1
    clear H1
    simp only [Option.some.injEq, Prod.mk.injEq] at H
    obtain ⟨rfl, rfl⟩ := H
    go_wp2_with (first | ((with_reducible refine gate_callee (f := 51) rfl ?_); refine goesL_ (some 20) rfl rfl Tryz.func51 (by kernel_rfl) rfl #[.int .i64 (x4_5.size : Int), .int .i64 1, .int .i64 6] rfl zq1 ?_; (with_reducible refine (spec_l1In.calls (x4_5.size : Int) 1 6 false _ A9.out).mono ?_); rintro e w' ⟨rfl, ⟨nd, rfl⟩⟩; refine ⟨_, rfl, ?_⟩))
    go_ret2
    exact ⟨zqE, zq0⟩
   subst c10
   have H1 : (spec_l1Read.l0 kj5 a0 x4_5 0 0) = some (r1, r2) := by rw [if_pos rfl] at H; exact H
   clear H
   have H := H1
   clear H1
   have H' := zm H
   clear H
   go_wp2_with (first | ((with_reducible refine gate_callee (f := 51) rfl ?_); refine goesL_ (some 20) rfl rfl Tryz.func51 (by kernel_rfl) rfl #[.int .i64 (x4_5.size : Int), .int .i64 1, .int .i64 6] rfl zq1 ?_; (with_reducible refine (spec_l1In.calls (x4_5.size : Int) 1 6 true _ A9.out).mono ?_); rintro e w' ⟨rfl, ⟨nd, rfl⟩⟩; refine ⟨_, rfl, ?_⟩))
   go_loopg [5, 6] kj5 (fun kq v5 v6 w' => ∃ (x5_3 : Int) (x6_3 : Int), v5 = .int .i64 x5_3 ∧ v6 = .int .i64 x6_3 ∧ Aside0 (spec_l1Read.l0 kq a0 x4_5 x5_3 x6_3 = some (r1, r2)) ∧ Aside0 (kq ≤ kj5) ∧ Aside0 (Below w.heap.size w w'))
   case atStart => exact ⟨(0), (0), (by first | rfl | (simp; done) | (simp [*]; done)), (by first | rfl | (simp; done) | (simp [*]; done)), H', ⟨Nat.le_refl _⟩, ⟨zq0⟩⟩
   clear H'
   try clear c1
   try clear p2
   try clear c3
   try clear c3b0
   try clear c3b1
   try clear c4
   try clear c4b0
   try clear c4b1
   try clear c5
   try clear p5
   try clear q5
   try clear hx5
   try clear qi5
   try clear c7
   try clear c8
   try clear c8b0
   try clear c8b1
   try clear c10
   try clear p2
   try clear p5
   try clear q5
   obtain ⟨x5_3, x6_3, rfl, rfl, HA, HK3, HB⟩ := hrel
   cases gk with
   | zero => exact absurd HA.out (by simp [spec_l1Read.l0])
   | succ k3 =>
    have H := HA.out
    clear HA
    simp only [spec_l1Read.l0] at H
    by_cases c11 : x6_3 < (x4_5.size : Int)
    case neg =>
     rw [if_neg c11] at H
     have c11b0 : decide (x6_3 < (x4_5.size : Int)) = false := decide_eq_false c11
     clear c11
     by_cases c18 : (x4_5.size : Int) < (a0.size : Int)
     case neg =>
      rw [if_neg c18] at H
      have c18b0 : decide ((x4_5.size : Int) < (a0.size : Int)) = false := decide_eq_false c18
      have c18b1 : decide (x4_5.size < a0.size) = false := decide_eq_false (fun h => c18 (Int.ofNat_lt.mpr h))
      clear c18
      obtain ⟨t303, A230, H⟩ := zob H
      replace H : (if t303.toList = a0.toList then (some (x5_3, true)) else (some (0, false))) = some (r1, r2) := H
      have A23 := zm A230
      clear A230
      by_cases c24 : t303.toList = a0.toList
      case neg =>
       rw [if_neg c24] at H
       have c24b0 : (t303.toList == a0.toList) = false := beq_eq_false_iff_ne.mpr c24
       have c24b1 : (t303.toList != a0.toList) = true := bne_iff_ne.mpr c24
       simp only [Option.some.injEq, Prod.mk.injEq] at H
       obtain ⟨rfl, rfl⟩ := H
       go_wp2_with (first | ((with_reducible refine gate_callee (f := 54) rfl ?_); refine goesL_ (some 54) rfl rfl Tryz.func54 (by kernel_rfl) rfl #[.int .i64 x5_3] rfl zq1 ?_; (with_reducible refine (spec_l1Num.calls k3 x5_3 t303 _ A23.out).mono ?_); rintro e w26 ⟨rfl, hb⟩; refine ⟨_, rfl, ?_⟩; replace HB := zm (below_step zq0 hb); (try clear hb); (try clear hb2); (try clear hk); (try clear hi)))
       go_ret2
       exact ⟨zqE, zq0⟩
      rw [if_pos c24] at H
      have c24b0 : (t303.toList == a0.toList) = true := beq_iff_eq.mpr c24
      have c24b1 : (t303.toList != a0.toList) = false := bne_eq_false_iff_eq.mpr c24
      clear c24
      simp only [Option.some.injEq, Prod.mk.injEq] at H
      obtain ⟨rfl, rfl⟩ := H
      go_wp2_with (first | ((with_reducible refine gate_callee (f := 54) rfl ?_); refine goesL_ (some 54) rfl rfl Tryz.func54 (by kernel_rfl) rfl #[.int .i64 x5_3] rfl zq1 ?_; (with_reducible refine (spec_l1Num.calls k3 x5_3 t303 _ A23.out).mono ?_); rintro e w25 ⟨rfl, hb⟩; refine ⟨_, rfl, ?_⟩; replace HB := zm (below_step zq0 hb); (try clear hb); (try clear hb2); (try clear hk); (try clear hi)))
      go_ret2
      exact ⟨zqE, zq0⟩
     rw [if_pos c18] at H
     have c18b0 : decide ((x4_5.size : Int) < (a0.size : Int)) = true := decide_eq_true c18
     have c18b1 : decide (x4_5.size < a0.size) = true := decide_eq_true (Int.ofNat_lt.mp c18)
     clear c18
     obtain ⟨t302, A190, H⟩ := zob H
     replace H : (if t302.toList = a0.toList then (some (wrap64 (-x5_3), true)) else (some (0, false))) = some (r1, r2) := H
     have A19 := zm A190
     clear A190
     by_cases c20 : t302.toList = a0.toList
     case neg =>
      rw [if_neg c20] at H
      have c20b0 : (t302.toList == a0.toList) = false := beq_eq_false_iff_ne.mpr c20
      have c20b1 : (t302.toList != a0.toList) = true := bne_iff_ne.mpr c20
      simp only [Option.some.injEq, Prod.mk.injEq] at H
      obtain ⟨rfl, rfl⟩ := H
      go_wp2_with (first | ((with_reducible refine gate_callee (f := 54) rfl ?_); refine goesL_ (some 54) rfl rfl Tryz.func54 (by kernel_rfl) rfl #[.int .i64 (wrap64 (-x5_3))] rfl zq1 ?_; (with_reducible refine (spec_l1Num.calls k3 (wrap64 (-x5_3)) t302 _ A19.out).mono ?_); rintro e w22 ⟨rfl, hb⟩; refine ⟨_, rfl, ?_⟩; replace HB := zm (below_step zq0 hb); (try clear hb); (try clear hb2); (try clear hk); (try clear hi)))
      go_ret2
      exact ⟨zqE, zq0⟩
     rw [if_pos c20] at H
     have c20b0 : (t302.toList == a0.toList) = true := beq_iff_eq.mpr c20
     have c20b1 : (t302.toList != a0.toList) = false := bne_eq_false_iff_eq.mpr c20
     clear c20
     simp only [Option.some.injEq, Prod.mk.injEq] at H
     obtain ⟨rfl, rfl⟩ := H
     go_wp2_with (first | ((with_reducible refine gate_callee (f := 54) rfl ?_); refine goesL_ (some 54) rfl rfl Tryz.func54 (by kernel_rfl) rfl #[.int .i64 (wrap64 (-x5_3))] rfl zq1 ?_; (with_reducible refine (spec_l1Num.calls k3 (wrap64 (-x5_3)) t302 _ A19.out).mono ?_); rintro e w21 ⟨rfl, hb⟩; refine ⟨_, rfl, ?_⟩; replace HB := zm (below_step zq0 hb); (try clear hb); (try clear hb2); (try clear hk); (try clear hi)))
     go_ret2
     exact ⟨zqE, zq0⟩
    rw [if_pos c11] at H
    have c11b0 : decide (x6_3 < (x4_5.size : Int)) = true := decide_eq_true c11
    clear c11
    by_cases c12 : 0 ≤ x6_3
    case neg =>
     rw [if_neg c12] at H
     exact absurd H (by simp)
    rw [if_pos c12] at H
    have c12b0 : decide (0 ≤ x6_3) = true := decide_eq_true c12
    clear c12
    by_cases c14 : (bt x4_5 x6_3) < 48
    case pos =>
     rw [if_pos c14] at H
     have c14b0 : decide ((bt x4_5 x6_3) < 48) = true := decide_eq_true c14
     clear c14
     simp only [Option.some.injEq, Prod.mk.injEq] at H
     obtain ⟨rfl, rfl⟩ := H
     have p13 : 0 ≤ (x6_3 : Int) := of_decide_eq_true zq8
     have q13 : x6_3 < (x4_5.size : Int) := of_decide_eq_true zq8
     have hx13 := bt_at x4_5 x6_3
     replace p13 := eq_true p13
     replace q13 := eq_true q13
     go_wp2
     go_ret2
     exact ⟨zqE, zq0⟩
    rw [if_neg c14] at H
    have c14b0 : decide ((bt x4_5 x6_3) < 48) = false := decide_eq_false c14
    clear c14
    by_cases c16 : (bt x4_5 x6_3) > 57
    case pos =>
     rw [if_pos c16] at H
     have c16b0 : decide (57 < (bt x4_5 x6_3)) = true := decide_eq_true c16
     clear c16
     simp only [Option.some.injEq, Prod.mk.injEq] at H
     obtain ⟨rfl, rfl⟩ := H
     have p13 : 0 ≤ (x6_3 : Int) := of_decide_eq_true zq8
     have q13 : x6_3 < (x4_5.size : Int) := of_decide_eq_true zq8
     have hx13 := bt_at x4_5 x6_3
     replace p13 := eq_true p13
     replace q13 := eq_true q13
     have p15 : 0 ≤ (x6_3 : Int) := of_decide_eq_true zq8
     have q15 : x6_3 < (x4_5.size : Int) := of_decide_eq_true zq8
     have hx15 := bt_at x4_5 x6_3
     replace p15 := eq_true p15
     replace q15 := eq_true q15
     go_wp2
     go_ret2
     exact ⟨zqE, zq0⟩
    rw [if_neg c16] at H
    have c16b0 : decide (57 < (bt x4_5 x6_3)) = false := decide_eq_false c16
    clear c16
    have H' := zm H
    clear H
    have p13 : 0 ≤ (x6_3 : Int) := of_decide_eq_true zq8
    have q13 : x6_3 < (x4_5.size : Int) := of_decide_eq_true zq8
    have hx13 := bt_at x4_5 x6_3
    replace p13 := eq_true p13
    replace q13 := eq_true q13
    have p15 : 0 ≤ (x6_3 : Int) := of_decide_eq_true zq8
    have q15 : x6_3 < (x4_5.size : Int) := of_decide_eq_true zq8
    have hx15 := bt_at x4_5 x6_3
    replace p15 := eq_true p15
    replace q15 := eq_true q15
    have p17 : 0 ≤ (x6_3 : Int) := of_decide_eq_true zq8
    have q17 : x6_3 < (x4_5.size : Int) := of_decide_eq_true zq8
    have hx17 := bt_at x4_5 x6_3
    replace p17 := eq_true p17
    replace q17 := eq_true q17
    go_wp2
    go_roundg k3
    case measure => have := HJ1.out; have := HJ5.out; have := HK3.out; omega
    case rel => exact ⟨(wrap64 ((wrap64 (10 * x5_3)) + (((bt x4_5 x6_3) - 48) % 256))), (wrap64 (x6_3 + 1)), (by first | rfl | (simp; done) | (simp [*]; done)), (by first | rfl | (simp; done) | (simp [*]; done)), H', ⟨by have := HJ1.out; have := HJ5.out; have := HK3.out; omega⟩, ⟨zq0⟩⟩
def spec_ParseHour.l0 : Nat → ByteArray → Int → Option (Int × Bool)
 | 0, _, _ => none
 | k + 1, x0, x4 => if x4 ≤ 240 then ((spec_l16Hour.f k x4).bind fun t304 => (if t304.toList = x0.toList then (some (x4, true)) else (spec_ParseHour.l0 k x0 (wrap64 (x4 + 1))))) else (some (0, false))
def spec_ParseHour.f (k : Nat) (a0 : ByteArray) : Option (Int × Bool) := spec_ParseHour.l0 k a0 0
set_option maxHeartbeats 8000000 in
set_option maxRecDepth 100000 in
theorem spec_ParseHour.calls (k : Nat) (a0 : ByteArray) (r1 : Int) (r2 : Bool) (w : World) (h : spec_ParseHour.f k a0 = some (r1, r2)) :
  Calls Tryz.prog 37 #[.string a0] w fun e w' => e = .returned (.tuple #[.int .i64 r1, .bool r2]) ∧ Below w.heap.size w w' := by
 have HB := zm (Below.refl w.heap.size w)
 have H : (spec_ParseHour.l0 k a0 0) = some (r1, r2) := h
 clear h
 have H' := zm H
 clear H
 go_enter Tryz.func37, Tryz.ntmps37
 go_wp2
 go_loopg [4] k (fun kq v4 w' => ∃ (x4_1 : Int), v4 = .int .i64 x4_1 ∧ Aside0 (spec_ParseHour.l0 kq a0 x4_1 = some (r1, r2)) ∧ Aside0 (kq ≤ k) ∧ Aside0 (Below w.heap.size w w'))
 case atStart => exact ⟨(0), (by first | rfl | (simp; done) | (simp [*]; done)), H', ⟨Nat.le_refl _⟩, ⟨zq0⟩⟩
 clear H'
 obtain ⟨x4_1, rfl, HA, HK1, HB⟩ := hrel
 cases gk with
 | zero => exact absurd HA.out (by simp [spec_ParseHour.l0])
 | succ k1 =>
  have H := HA.out
  clear HA
  simp only [spec_ParseHour.l0] at H
  by_cases c2 : x4_1 ≤ 240
  case neg =>
   rw [if_neg c2] at H
   have c2b0 : decide (x4_1 ≤ 240) = false := decide_eq_false c2
   clear c2
   simp only [Option.some.injEq, Prod.mk.injEq] at H
   obtain ⟨rfl, rfl⟩ := H
   go_wp2
   go_ret2
   exact ⟨zqE, zq0⟩
  rw [if_pos c2] at H
  have c2b0 : decide (x4_1 ≤ 240) = true := decide_eq_true c2
  clear c2
  obtain ⟨t304, A30, H⟩ := zob H
  replace H : (if t304.toList = a0.toList then (some (x4_1, true)) else (spec_ParseHour.l0 k1 a0 (wrap64 (x4_1 + 1)))) = some (r1, r2) := H
  have A3 := zm A30
  clear A30
  by_cases c4 : t304.toList = a0.toList
  case neg =>
   rw [if_neg c4] at H
   have c4b0 : (t304.toList == a0.toList) = false := beq_eq_false_iff_ne.mpr c4
   have c4b1 : (t304.toList != a0.toList) = true := bne_iff_ne.mpr c4
   have H' := zm H
   clear H
   go_wp2_with (first | ((with_reducible refine gate_callee (f := 52) rfl ?_); refine goesL_ (some 10) rfl rfl Tryz.func52 (by kernel_rfl) rfl #[.int .i64 x4_1] rfl zq1 ?_; (with_reducible refine (spec_l16Hour.calls k1 x4_1 t304 _ A3.out).mono ?_); rintro e w6 ⟨rfl, hb⟩; refine ⟨_, rfl, ?_⟩; replace HB := zm (below_step zq0 hb); (try clear hb); (try clear hb2); (try clear hk); (try clear hi)))
   go_roundg k1
   case measure => have := HK1.out; omega
   case rel => exact ⟨(wrap64 (x4_1 + 1)), (by first | rfl | (simp; done) | (simp [*]; done)), H', ⟨by have := HK1.out; omega⟩, ⟨zq0⟩⟩
  rw [if_pos c4] at H
  have c4b0 : (t304.toList == a0.toList) = true := beq_iff_eq.mpr c4
  have c4b1 : (t304.toList != a0.toList) = false := bne_eq_false_iff_eq.mpr c4
  clear c4
  simp only [Option.some.injEq, Prod.mk.injEq] at H
  obtain ⟨rfl, rfl⟩ := H
  go_wp2_with (first | ((with_reducible refine gate_callee (f := 52) rfl ?_); refine goesL_ (some 10) rfl rfl Tryz.func52 (by kernel_rfl) rfl #[.int .i64 x4_1] rfl zq1 ?_; (with_reducible refine (spec_l16Hour.calls k1 x4_1 t304 _ A3.out).mono ?_); rintro e w5 ⟨rfl, hb⟩; refine ⟨_, rfl, ?_⟩; replace HB := zm (below_step zq0 hb); (try clear hb); (try clear hb2); (try clear hk); (try clear hi)))
  go_ret2
  exact ⟨zqE, zq0⟩
end Go.Proofs.YtleadjbfcenofaaGreatDoor.Q
