/- Hours as text: both programs write the same. -/
import Derived.Test.YtnibkkfjgmfpnaaDoorQf11
import Derived.Test.YtnibkkfjgmfpnaaDoorQf41
import Derived.Test.YtnibkkfjgmfpnaaDoorLaNum
namespace Go.Proofs.YtnibkkfjgmfpnaaDoor.Q
open Go.RowKit Go.Proofs.YtnibkkfjgmfpnaaDoorW.PrintWords Go.Proofs.YtnibkkfjgmfpnaaDoor.Gen
set_option linter.unusedVariables false
set_option linter.unusedSimpArgs false
def sDay : ByteArray := ⟨#[100, 97, 121, 32]⟩
def sComma : ByteArray := ⟨#[44, 32]⟩
def sZero : ByteArray := ⟨#[58, 48, 48]⟩
def s0 : ByteArray := ⟨#[48]⟩
/-- An hour as it is written. -/
def hourS (n : Nat) : ByteArray := ((((sDay ++ decN (n / 24 + 1)) ++ sComma) ++ decN (n % 24 / 10)) ++ decN (n % 24 % 10)) ++ sZero
theorem two_digits (x : Nat) : decN (x / 10) ++ decN (x % 10) = if x < 10 then s0 ++ decN x else decN x := by
  by_cases h : x < 10
  · rw [if_pos h, show x / 10 = 0 from by omega, show x % 10 = x from by omega, decN_small (n := 0) (by omega)]
    rfl
  · rw [if_neg h, decN_big h, decN_small (n := x % 10) (Nat.mod_lt _ (by omega))]
theorem hourS_eq (n : Nat) : hourS n = (((sDay ++ decN (n / 24 + 1)) ++ sComma) ++ (if n % 24 < 10 then s0 ++ decN (n % 24) else decN (n % 24))) ++ sZero := by
  unfold hourS
  rw [← two_digits, ← ba_assoc]
theorem div_i (n d : Nat) (h : n ≤ 4611686018427387904) : wrap64 (Int.tdiv (n : Int) (d : Int)) = ((n / d : Nat) : Int) := by
  rw [show Int.tdiv (n : Int) (d : Int) = ((n / d : Nat) : Int) from (Int.ofNat_tdiv n d).symm]
  have hd := Nat.div_le_self n d
  generalize n / d = q at hd ⊢
  unfold wrap64; omega
theorem mod_i (n d : Nat) : Int.tmod (n : Int) (d : Int) = ((n % d : Nat) : Int) := (Int.ofNat_tmod n d).symm
theorem add_i (n m : Nat) (h : n + m ≤ 4611686018427387904) : wrap64 ((n : Int) + (m : Int)) = ((n + m : Nat) : Int) := by unfold wrap64; omega
theorem sz4 : (⟨#[100, 97, 121, 32]⟩ : ByteArray).size = 4 := rfl
theorem sz2 : (⟨#[44, 32]⟩ : ByteArray).size = 2 := rfl
theorem sz3 : (⟨#[58, 48, 48]⟩ : ByteArray).size = 3 := rfl
theorem sz1 : (⟨#[48]⟩ : ByteArray).size = 1 := rfl
theorem implHour_f (n : Nat) (h : n ≤ 100000) : impl_hourText.f (n : Int) = some (hourS n) := by
  unfold impl_hourText.f
  have d1 := div_i n 24 (by omega)
  have m1 := mod_i n 24
  have d2 := div_i (n % 24) 10 (by omega)
  have m2 := mod_i (n % 24) 10
  have a1 := add_i (n / 24) 1 (by omega)
  simp only [Int.cast_ofNat_Int] at d1 m1 d2 m2 a1
  rw [d1, m1, d2, m2, a1, itoa_f _ (by omega) (by omega), itoa_f _ (by omega) (by omega), itoa_f _ (by omega) (by omega), decS_nat, decS_nat, decS_nat]
  have h1 := decN_size (n / 24 + 1) (by omega)
  have h2 := decN_size (n % 24 / 10) (by omega)
  have h3 := decN_size (n % 24 % 10) (by omega)
  rw [Option.bind_some, if_pos (by omega), if_pos (by simp only [ba_size_app, sz4]; omega), Option.bind_some, if_pos (by simp only [ba_size_app, sz4, sz2]; omega), Option.bind_some, if_pos (by simp only [ba_size_app, sz4, sz2]; omega), if_pos (by simp only [ba_size_app, sz4, sz2]; omega)]
  rfl
theorem ev_specHour (n : Nat) (h : n ≤ 100000) : Ev (fun k => spec_l16Hour.f k (n : Int)) (hourS n) := by
  unfold spec_l16Hour.f
  have d1 := div_i n 24 (by omega)
  have m1 := mod_i n 24
  have a1 := add_i (n / 24) 1 (by omega)
  simp only [Int.cast_ofNat_Int] at d1 m1 a1
  rw [d1, m1, a1]
  have h1 := decN_size (n / 24 + 1) (by omega)
  have h2 := decN_size (n % 24) (by omega)
  refine Ev.bind (f := fun k t => _) (ev_num (n % 24) (by omega)) ?_
  by_cases c : n % 24 < 10
  · have e := (decN_size_one (n % 24)).2 c
    refine Ev.congr (fun k => if_pos (by omega)) (Ev.congr (fun k => if_pos (by omega)) ?_)
    refine Ev.bind (f := fun k t => _) (ev_num (n / 24 + 1) (by omega)) ?_
    refine Ev.congr (fun k => if_pos (by omega)) (Ev.congr (fun k => if_pos (by simp only [ba_size_app, sz4]; omega)) (Ev.congr (fun k => if_pos (by simp only [ba_size_app, sz4, sz2, sz1]; omega)) (Ev.congr (fun k => if_pos (by simp only [ba_size_app, sz4, sz2, sz1]; omega)) ?_)))
    rw [hourS_eq, if_pos c]
    exact Ev.now _
  · have e : ¬ (decN (n % 24)).size = 1 := fun q => c ((decN_size_one _).1 q)
    refine Ev.congr (fun k => if_neg (by omega)) ?_
    refine Ev.bind (f := fun k t => _) (ev_num (n / 24 + 1) (by omega)) ?_
    refine Ev.congr (fun k => if_pos (by omega)) (Ev.congr (fun k => if_pos (by simp only [ba_size_app, sz4]; omega)) (Ev.congr (fun k => if_pos (by simp only [ba_size_app, sz4, sz2]; omega)) (Ev.congr (fun k => if_pos (by simp only [ba_size_app, sz4, sz2]; omega)) ?_)))
    rw [hourS_eq, if_neg c]
    exact Ev.now _
theorem hourS_size (n : Nat) (h : n ≤ 100000) : (hourS n).size ≤ 80 := by
  unfold hourS sDay sComma sZero
  simp only [ba_size_app, sz4, sz2, sz3]
  have h1 := decN_size (n / 24 + 1) (by omega)
  have h2 := decN_size (n % 24 / 10) (by omega)
  have h3 := decN_size (n % 24 % 10) (by omega)
  omega
end Go.Proofs.YtnibkkfjgmfpnaaDoor.Q
