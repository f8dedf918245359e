/- Texts of this claim, put together: walks of the program's functions, and plain facts. -/
import Derived.Test.YtleadjbfcenofaaGreatDoorZFnWarningTexts
import Derived.Test.YtleadjbfcenofaaGreatDoorBFnWarningTexts0
import Derived.Test.YtleadjbfcenofaaGreatDoorBFnWarningTexts1
import Derived.Test.YtleadjbfcenofaaGreatDoorBFnWarningTexts2
namespace Go.Proofs.YtleadjbfcenofaaGreatDoor.Q
open Go.RowKit Go.Proofs.YtleadjbfcenofaaGreatDoorW.PrintWords Go.Proofs.YtleadjbfcenofaaGreatDoorW.PrintLast Go.Proofs.YtleadjbfcenofaaGreatDoorW.PrintMore
attribute [local go_sem] max2_int min2_int max_two min_two max_three min_three max_four min_four
set_option linter.unusedVariables false
set_option linter.unusedSimpArgs false
def spec_DrawHourText.f (l0 : List Int) : Option (Int) := (some (([0, 1, 9, 10, 23, 24, 47, 48, 239, 240, (-1), 241] : List Int) : List Int)).bind fun y486 => ((spec_l1Cur_pick.f l0 0 0 24).bind fun bt489 => (if 0 ≤ (wrap64 (10 + (wrap64 (Int.tdiv bt489.1 11)))) then (if (wrap64 (10 + (wrap64 (Int.tdiv bt489.1 11)))) ≤ (y486.length : Int) then ((spec_l1Cur_among.f l0 bt489.2.1 bt489.2.2 (y486.take ((wrap64 (10 + (wrap64 (Int.tdiv bt489.1 11)))) : Int).toNat)).bind fun bt496 => (some bt496.1)) else (none)) else (none)))
set_option maxHeartbeats 8000000 in
set_option maxRecDepth 100000 in
theorem spec_DrawHourText.calls (A0 : Option Addr) (c0 : Nat) (l0 : List Int) (r : Int) (w : World) (hr0 : Kd.C (Kd.int .u8) w A0 l0.length l0) (hc0 : l0.length ≤ c0) (h : spec_DrawHourText.f l0 = some r) :
  Calls Tryz.prog 18 #[.slice A0 l0.length c0] w fun e w' => e = .returned (.int .i64 r) ∧ Below w.heap.size w w' := by
 have hu45 := Tryz.underlying45
 have HR0 := zm hr0
 have HC0 := zm hc0
 clear hr0 hc0
 have HB := zm (Below.refl w.heap.size w)
 have H : ((some (([0, 1, 9, 10, 23, 24, 47, 48, 239, 240, (-1), 241] : List Int) : List Int)).bind fun y486 => ((spec_l1Cur_pick.f l0 0 0 24).bind fun bt489 => (if 0 ≤ (wrap64 (10 + (wrap64 (Int.tdiv bt489.1 11)))) then (if (wrap64 (10 + (wrap64 (Int.tdiv bt489.1 11)))) ≤ (y486.length : Int) then ((spec_l1Cur_among.f l0 bt489.2.1 bt489.2.2 (y486.take ((wrap64 (10 + (wrap64 (Int.tdiv bt489.1 11)))) : Int).toNat)).bind fun bt496 => (some bt496.1)) else (none)) else (none)))) = some r := h
 clear h
 obtain ⟨y486, hy486⟩ : ∃ y_ : List Int, y_ = (([0, 1, 9, 10, 23, 24, 47, 48, 239, 240, (-1), 241] : List Int)) := ⟨_, rfl⟩
 replace H : ((spec_l1Cur_pick.f l0 0 0 24).bind fun bt489 => (if 0 ≤ (wrap64 (10 + (wrap64 (Int.tdiv bt489.1 11)))) then (if (wrap64 (10 + (wrap64 (Int.tdiv bt489.1 11)))) ≤ (y486.length : Int) then ((spec_l1Cur_among.f l0 bt489.2.1 bt489.2.2 (y486.take ((wrap64 (10 + (wrap64 (Int.tdiv bt489.1 11)))) : Int).toNat)).bind fun bt496 => (some bt496.1)) else (none)) else (none))) = some r := zqH hy486 H
 have Ny486 := zm hy486
 clear hy486
 obtain ⟨⟨t489, t490, t491⟩, A20, H⟩ := zob H
 replace H : (if 0 ≤ (wrap64 (10 + (wrap64 (Int.tdiv t489 11)))) then (if (wrap64 (10 + (wrap64 (Int.tdiv t489 11)))) ≤ (y486.length : Int) then ((spec_l1Cur_among.f l0 t490 t491 (y486.take ((wrap64 (10 + (wrap64 (Int.tdiv t489 11)))) : Int).toNat)).bind fun bt496 => (some bt496.1)) else (none)) else (none)) = some r := H
 have A2 := zm A20
 clear A20
 obtain ⟨ji3, hji3⟩ : ∃ j_ : Int, (wrap64 (10 + (wrap64 (Int.tdiv t489 11)))) = j_ := ⟨_, rfl⟩
 replace H : (if 0 ≤ (ji3) then (if (ji3) ≤ (y486.length : Int) then ((spec_l1Cur_among.f l0 t490 t491 (y486.take ((ji3) : Int).toNat)).bind fun bt496 => (some bt496.1)) else (none)) else (none)) = some r := by first | (rw [hji3] at H; exact H) | (simp only [hji3] at H ⊢; exact H)
 (try rw [hji3] at A2)
 have hji3w : (IntKind.i64.wrap (10 + (wrap64 (Int.tdiv t489 11)))) = ji3 := (i64_w _).trans hji3
 by_cases c4 : 0 ≤ (ji3)
 case neg =>
  rw [if_neg c4] at H
  exact absurd H (by simp)
 rw [if_pos c4] at H
 have c4b0 := eq_true c4
 have c4b1 : decide (0 ≤ (ji3)) = true := decide_eq_true c4
 clear c4
 by_cases c5 : (ji3) ≤ (y486.length : Int)
 case neg =>
  rw [if_neg c5] at H
  exact absurd H (by simp)
 rw [if_pos c5] at H
 have c5b0 := eq_true c5
 have c5b1 : decide ((ji3) ≤ (y486.length : Int)) = true := decide_eq_true c5
 clear c5
 obtain ⟨y492, hy492⟩ : ∃ y_ : List Int, y_ = (y486.take ((ji3) : Int).toNat) := ⟨_, rfl⟩
 replace H : ((spec_l1Cur_among.f l0 t490 t491 y492).bind fun bt496 => (some bt496.1)) = some r := zqH hy492 H
 have Ny492 := zm hy492
 clear hy492
 obtain ⟨⟨t496, t497, t498⟩, A60, H⟩ := zob H
 replace H : (some t496) = some r := H
 have A6 := zm A60
 clear A60
 obtain rfl := Option.some.inj H
 go_enter Tryz.func18, Tryz.ntmps18
 go_wp2_with (first | ((with_reducible refine gate_dst (N := 6) rfl ?_); refine box_event ?hg (N := 6) ?hd (cs := #[.slice A0 l0.length c0, .int .i64 0, .int .u64 0]) (t := 45) ?hr ?_; (case hd => rfl); (case hg => rfl); (case hr => exact zqS); intro gb485 hg w7 hbox hb; have HI485 := zm ((show IsS45 w w7 gb485 l0 0 0 from ⟨_, _, hbox, (by rw [hg]; exact (below_size zq0) : w.heap.size ≤ gb485), HR0.out⟩)); have GW485 := zm ((by rw [hg]; exact (below_size zq0) : w.heap.size ≤ gb485)); replace HB := zm (below_step zq0 hb); have GE485 := GW485; clear hb hbox hg) | ((with_reducible refine gate_dst (N := 8) rfl ?_); refine Kd.R_lit (Kd.int .i64) _ 3 ?hg (N := 8) ?hd (xs := ([0, 1, 9, 10, 23, 24, 47, 48, 239, 240, (-1), 241] : List Int)) (inner := [.int .i64 0, .int .i64 1, .int .i64 9, .int .i64 10, .int .i64 23, .int .i64 24, .int .i64 47, .int .i64 48, .int .i64 239, .int .i64 240, .int .i64 (-1), .int .i64 241]) (ok := fun _ => True) (okp := fun _ => True) ?hr ?hp (fun _ hk => hk) trivial (Below.refl _ _) (Nat.le_refl _) (by simp) ?_; (case hd => rfl); (case hg => rfl); (case hr => exact zqS); (case hp => exact (Reps.one (show Kd.M (Kd.int .i64) _ _ _ 0 [.int .i64 0] from rfl) (Reps.one (show Kd.M (Kd.int .i64) _ _ _ 1 [.int .i64 1] from rfl) (Reps.one (show Kd.M (Kd.int .i64) _ _ _ 9 [.int .i64 9] from rfl) (Reps.one (show Kd.M (Kd.int .i64) _ _ _ 10 [.int .i64 10] from rfl) (Reps.one (show Kd.M (Kd.int .i64) _ _ _ 23 [.int .i64 23] from rfl) (Reps.one (show Kd.M (Kd.int .i64) _ _ _ 24 [.int .i64 24] from rfl) (Reps.one (show Kd.M (Kd.int .i64) _ _ _ 47 [.int .i64 47] from rfl) (Reps.one (show Kd.M (Kd.int .i64) _ _ _ 48 [.int .i64 48] from rfl) (Reps.one (show Kd.M (Kd.int .i64) _ _ _ 239 [.int .i64 239] from rfl) (Reps.one (show Kd.M (Kd.int .i64) _ _ _ 240 [.int .i64 240] from rfl) (Reps.one (show Kd.M (Kd.int .i64) _ _ _ (-1) [.int .i64 (-1)] from rfl) (Reps.one (show Kd.M (Kd.int .i64) _ _ _ 241 [.int .i64 241] from rfl) (Reps.none _ _)))))))))))))); intro v487 w8 ho9 hb hg_ hnew_; clear hg_ hnew_; (first | rw [← Ny486.out] at ho9 | (simp only [Int.reduceToNat] at ho9; rw [← Ny486.out] at ho9)); have HO488 := zm (Kd.R_lower ho9 (below_size zq50)); replace HB := zm (below_step zq50 hb); replace HI485 := zm (IsS45.below zq69 hb); clear hb ho9) | ((with_reducible refine gate_callee (f := 48) rfl ?_); refine goesL_ (some 10) rfl rfl Tryz.func48 (by kernel_rfl) rfl #[.pointer (some ⟨gb485, 0, none⟩), .int .i64 24] rfl zq1 ?_; (with_reducible refine (spec_l1Cur_pick.calls gb485 l0 0 0 24 t489 t490 t491 w _ ?side1 ?side2 A2.out).mono ?_); (case side1 => exact zq69); (case side2 => exact zq50); rintro e w10 ⟨rfl, hi, hb, hk⟩; refine ⟨_, rfl, ?_⟩; replace HO488 := zm (Kd.R_mono (Kd.R_keep (IsS45.apart (show IsS45 w _ gb485 l0 0 0 from by repeat (first | (with_reducible first | exact HI485.out | apply IsS45.alloc | apply IsS45.drewN | apply IsS45.drew | apply IsS45.set_1 | apply IsS45.set_2) | exact HI485.out)) (zqR HO488.out) (by decide)) hk (fun _ h => h.2)) (fun _ h => h.1)); replace HB := zm (hb); replace HI485 := zm (hi); (try clear hb); (try clear hb2); (try clear hk); (try clear hi); obtain ⟨Ao12, co12, eo12⟩ := Kd.R_slice HO488.out; subst eo12; have q11 : ((ji3) : Int) ≤ ((y486.length : Int) : Int) := of_decide_eq_true zq8; obtain ⟨i011, hi011, _, hsz11, _⟩ := info_parts info3; have hroom11 : y486.length ≤ co12 := (Kd.R_reads' HO488.out).2.1; have hC11 : Kd.C (Kd.int .i64) _ Ao12 y486.length y486 := (Kd.R_reads' HO488.out).2.2; have hcut11 := cut_to (P := Tryz.prog) 51 3 .i64 Tryz.underlying51 hi011 Ao12 y486.length co12 (ji3) (of_decide_eq_true zq8) q11 hroom11; have hr11 := Kd.C_take (m := ((ji3) : Int).toNat) hC11 (by omega); have hy11 : y492.length = ((ji3) : Int).toNat := (by rw [Ny492.out, List.length_take]; omega); rw [← Ny492.out] at hr11; rw [← hy11] at hcut11; have HR495 := zm hr11; have HC495 := zm (show y492.length ≤ co12 from by omega); clear hr11 hC11 hroom11 hi011 hsz11; have KY11 := zm hy11; clear hy11; have KL11 := zm (show ((ji3) : Int).toNat ≤ y486.length from by omega); replace q11 := eq_true q11) | ((with_reducible refine gate_callee (f := 47) rfl ?_); refine goesL_ (some 14) rfl rfl Tryz.func47 (by kernel_rfl) rfl #[.pointer (some ⟨gb485, 0, none⟩), .slice Ao12 y492.length co12] rfl zq1 ?_; (with_reducible refine (spec_l1Cur_among.calls gb485 l0 t490 t491 _ _ y492 t496 t497 t498 w _ ?side1 ?side2 ?side3 ?side4 ?side5 A6.out).mono ?_); (case side1 => exact zq69); (case side2 => exact zq50); (case side3 => repeat (first | exact (by repeat (first | (with_reducible exact HR495.out) | (with_reducible refine Kd.C_alloc ?_ _) | (with_reducible refine Kd.C_drewN ?_ _) | (with_reducible refine Kd.C_drew ?_) | exact HR495.out)) | (with_reducible refine Kd.C_alloc ?_ _) | (with_reducible refine Kd.C_drewN ?_ _) | (with_reducible refine Kd.C_drew ?_))); (case side4 => exact HC495.out); (case side5 => intro ad e_ _ q_; have o_ := HO488.out; have ne_ := IsS45.own_ne (e := 3) HI485.out o_ (by decide); rw [e_] at ne_; exact ne_ (by simp [Value.ownBlock, q_])); rintro e w13 ⟨rfl, hi, hb, hk⟩; refine ⟨_, rfl, ?_⟩; replace HO488 := zm (Kd.R_mono (Kd.R_keep (IsS45.apart (show IsS45 w _ gb485 l0 t490 t491 from by repeat (first | (with_reducible first | exact HI485.out | apply IsS45.alloc | apply IsS45.drewN | apply IsS45.drew | apply IsS45.set_1 | apply IsS45.set_2) | exact HI485.out)) (zqR HO488.out) (by decide)) hk (fun _ h => h.2)) (fun _ h => h.1)); replace HB := zm (hb); replace HI485 := zm (hi); (try clear hb); (try clear hb2); (try clear hk); (try clear hi)))
 go_ret
 exact ⟨by first | rfl | (simp [errW_none, errW_some] <;> rfl) | (simp only [← hji3]; first | rfl | (simp [errW_none, errW_some] <;> rfl)) | (simp [*, errW_none, errW_some] <;> rfl), zq50⟩
def impl_HourText.f (a0 : Int) : Option (ByteArray × Bool) := (impl_within.f a0 0 240).bind fun t499 => (if t499 = true then ((impl_hourText.f a0).bind fun t500 => (some (t500, true))) else (some ((⟨#[]⟩ : ByteArray), false)))
set_option maxHeartbeats 8000000 in
set_option maxRecDepth 100000 in
theorem impl_HourText.calls (a0 : Int) (r1 : ByteArray) (r2 : Bool) (w : World) (htN : TabN w) (h : impl_HourText.f a0 = some (r1, r2)) :
  Calls Tryz.prog 19 #[.int .i64 a0] w fun e w' => e = .returned (.tuple #[.string r1, .bool r2]) ∧ Below w.heap.size w w' := by
 have HTN := zm htN
 clear htN
 have HB := zm (Below.refl w.heap.size w)
 have H : ((impl_within.f a0 0 240).bind fun t499 => (if t499 = true then ((impl_hourText.f a0).bind fun t500 => (some (t500, true))) else (some ((⟨#[]⟩ : ByteArray), false)))) = some (r1, r2) := h
 clear h
 obtain ⟨t499, A20, H⟩ := zob H
 replace H : (if t499 = true then ((impl_hourText.f a0).bind fun t500 => (some (t500, true))) else (some ((⟨#[]⟩ : ByteArray), false))) = some (r1, r2) := H
 have A2 := zm A20
 clear A20
 by_cases c3 : t499 = true
 case neg =>
  replace c3 := Bool.eq_false_iff.mpr c3
  subst c3
  have H1 : (some ((⟨#[]⟩ : ByteArray), false)) = some (r1, r2) := by rw [if_neg (show ¬ (false = true) by decide)] at H; exact H
  clear H
  have H := H1
  clear H1
  simp only [Option.some.injEq, Prod.mk.injEq] at H
  obtain ⟨rfl, rfl⟩ := H
  go_enter Tryz.func19, Tryz.ntmps19
  go_wp2_with (first | ((with_reducible refine gate_callee (f := 49) rfl ?_); refine goesL_ (some 5) rfl rfl Tryz.func49 (by kernel_rfl) rfl #[.int .i64 a0, .int .i64 0, .int .i64 240] rfl zq1 ?_; (with_reducible refine (impl_within.calls a0 0 240 false _ A2.out).mono ?_); rintro e w' ⟨rfl, ⟨nd, rfl⟩⟩; refine ⟨_, rfl, ?_⟩))
  go_ret2
  exact ⟨zqE, zq0⟩
 subst c3
 have H1 : ((impl_hourText.f a0).bind fun t500 => (some (t500, true))) = some (r1, r2) := by rw [if_pos rfl] at H; exact H
 clear H
 have H := H1
 clear H1
 obtain ⟨t500, A40, H⟩ := zob H
 replace H : (some (t500, true)) = some (r1, r2) := H
 have A4 := zm A40
 clear A40
 simp only [Option.some.injEq, Prod.mk.injEq] at H
 obtain ⟨rfl, rfl⟩ := H
 go_enter Tryz.func19, Tryz.ntmps19
 go_wp2_with (first | ((with_reducible refine gate_callee (f := 49) rfl ?_); refine goesL_ (some 5) rfl rfl Tryz.func49 (by kernel_rfl) rfl #[.int .i64 a0, .int .i64 0, .int .i64 240] rfl zq1 ?_; (with_reducible refine (impl_within.calls a0 0 240 true _ A2.out).mono ?_); rintro e w' ⟨rfl, ⟨nd, rfl⟩⟩; refine ⟨_, rfl, ?_⟩) | ((with_reducible refine gate_callee (f := 50) rfl ?_); refine goesL_ (some 8) rfl rfl Tryz.func50 (by kernel_rfl) rfl #[.int .i64 a0] rfl zq1 ?_; (with_reducible refine (impl_hourText.calls a0 t500 _ (HTN.out.below zq0) A4.out).mono ?_); rintro e w5 ⟨rfl, hb⟩; refine ⟨_, rfl, ?_⟩; replace HB := zm (below_step zq0 hb); (try clear hb); (try clear hb2); (try clear hk); (try clear hi)))
 go_ret2
 exact ⟨zqE, zq0⟩
def spec_HourText.f (k : Nat) (a0 : Int) : Option (ByteArray × Bool) := (spec_l1In.f a0 0 240).bind fun t501 => (if t501 = true then ((spec_l16Hour.f k a0).bind fun t502 => (some (t502, true))) else (some ((⟨#[]⟩ : ByteArray), false)))
set_option maxHeartbeats 8000000 in
set_option maxRecDepth 100000 in
theorem spec_HourText.calls (k : Nat) (a0 : Int) (r1 : ByteArray) (r2 : Bool) (w : World) (h : spec_HourText.f k a0 = some (r1, r2)) :
  Calls Tryz.prog 21 #[.int .i64 a0] w fun e w' => e = .returned (.tuple #[.string r1, .bool r2]) ∧ Below w.heap.size w w' := by
 have HB := zm (Below.refl w.heap.size w)
 have H : ((spec_l1In.f a0 0 240).bind fun t501 => (if t501 = true then ((spec_l16Hour.f k a0).bind fun t502 => (some (t502, true))) else (some ((⟨#[]⟩ : ByteArray), false)))) = some (r1, r2) := h
 clear h
 obtain ⟨t501, A20, H⟩ := zob H
 replace H : (if t501 = true then ((spec_l16Hour.f k a0).bind fun t502 => (some (t502, true))) else (some ((⟨#[]⟩ : ByteArray), false))) = some (r1, r2) := H
 have A2 := zm A20
 clear A20
 by_cases c3 : t501 = true
 case neg =>
  replace c3 := Bool.eq_false_iff.mpr c3
  subst c3
  have H1 : (some ((⟨#[]⟩ : ByteArray), false)) = some (r1, r2) := by rw [if_neg (show ¬ (false = true) by decide)] at H; exact H
  clear H
  have H := H1
  clear H1
  simp only [Option.some.injEq, Prod.mk.injEq] at H
  obtain ⟨rfl, rfl⟩ := H
  go_enter Tryz.func21, Tryz.ntmps21
  go_wp2_with (first | ((with_reducible refine gate_callee (f := 51) rfl ?_); refine goesL_ (some 5) rfl rfl Tryz.func51 (by kernel_rfl) rfl #[.int .i64 a0, .int .i64 0, .int .i64 240] rfl zq1 ?_; (with_reducible refine (spec_l1In.calls a0 0 240 false _ A2.out).mono ?_); rintro e w' ⟨rfl, ⟨nd, rfl⟩⟩; refine ⟨_, rfl, ?_⟩))
  go_ret2
  exact ⟨zqE, zq0⟩
 subst c3
 have H1 : ((spec_l16Hour.f k a0).bind fun t502 => (some (t502, true))) = some (r1, r2) := by rw [if_pos rfl] at H; exact H
 clear H
 have H := H1
 clear H1
 obtain ⟨t502, A40, H⟩ := zob H
 replace H : (some (t502, true)) = some (r1, r2) := H
 have A4 := zm A40
 clear A40
 simp only [Option.some.injEq, Prod.mk.injEq] at H
 obtain ⟨rfl, rfl⟩ := H
 go_enter Tryz.func21, Tryz.ntmps21
 go_wp2_with (first | ((with_reducible refine gate_callee (f := 51) rfl ?_); refine goesL_ (some 5) rfl rfl Tryz.func51 (by kernel_rfl) rfl #[.int .i64 a0, .int .i64 0, .int .i64 240] rfl zq1 ?_; (with_reducible refine (spec_l1In.calls a0 0 240 true _ A2.out).mono ?_); rintro e w' ⟨rfl, ⟨nd, rfl⟩⟩; refine ⟨_, rfl, ?_⟩) | ((with_reducible refine gate_callee (f := 52) rfl ?_); refine goesL_ (some 8) rfl rfl Tryz.func52 (by kernel_rfl) rfl #[.int .i64 a0] rfl zq1 ?_; (with_reducible refine (spec_l16Hour.calls k a0 t502 _ A4.out).mono ?_); rintro e w5 ⟨rfl, hb⟩; refine ⟨_, rfl, ?_⟩; replace HB := zm (below_step zq0 hb); (try clear hb); (try clear hb2); (try clear hk); (try clear hi)))
 go_ret2
 exact ⟨zqE, zq0⟩
end Go.Proofs.YtleadjbfcenofaaGreatDoor.Q
