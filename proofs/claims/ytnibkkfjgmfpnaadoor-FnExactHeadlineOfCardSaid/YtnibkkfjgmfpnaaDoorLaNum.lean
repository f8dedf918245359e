/- Numbers as text: both programs write the same numerals. -/
import Derived.Test.YtnibkkfjgmfpnaaDoorQf40
import Derived.Test.YtnibkkfjgmfpnaaDoorQf11
import Derived.Test.YtnibkkfjgmfpnaaDoorTabs
import Derived.Test.YtnibkkfjgmfpnaaDoorLaGen
import Derived.Lib.ItoaMem
namespace Go.Proofs.YtnibkkfjgmfpnaaDoor.Q
open Go.RowKit Go.Proofs.YtnibkkfjgmfpnaaDoorW.PrintWords Go.Proofs.YtnibkkfjgmfpnaaDoor.Gen
set_option linter.unusedVariables false
set_option linter.unusedSimpArgs false
def decN (n : Nat) : ByteArray := ⟨(Lib.decDigits n).toArray⟩
theorem decS_nat (n : Nat) : decS (n : Int) = decN n := by unfold decS decN; rw [Lib.itoa_nonneg]
def digN (d : Nat) : ByteArray := ⟨#[UInt8.ofNat (48 + d)]⟩
theorem ba_ext {a b : ByteArray} (h : a.data.toList = b.data.toList) : a = b := by
  cases a with
  | mk a => cases b with
    | mk b =>
      have h' : a.toList = b.toList := h
      rw [show a = b from Array.toList_inj.1 h']
theorem ba_app (a b : ByteArray) : (a ++ b).data.toList = a.data.toList ++ b.data.toList := by simp
theorem ba_assoc (a b c : ByteArray) : (a ++ b) ++ c = a ++ (b ++ c) := ba_ext (by rw [ba_app, ba_app, ba_app, ba_app, List.append_assoc])
theorem ba_size_app (a b : ByteArray) : (a ++ b).size = a.size + b.size := ByteArray.size_append
theorem decN_small {n : Nat} (h : n < 10) : decN n = digN n := by
  unfold decN digN
  rw [Lib.decDigits, dif_pos h]
theorem decN_big {n : Nat} (h : ¬ n < 10) : decN n = decN (n / 10) ++ digN (n % 10) := by
  apply ba_ext
  rw [ba_app]
  unfold decN digN
  conv => lhs; rw [Lib.decDigits, dif_neg h]
theorem decN_size_pos (n : Nat) : 0 < (decN n).size := by
  by_cases h : n < 10
  · rw [decN_small h]; exact Nat.one_pos
  · rw [decN_big h, ba_size_app]; exact Nat.add_pos_right _ Nat.one_pos
theorem decN_size_one (n : Nat) : (decN n).size = 1 ↔ n < 10 := by
  constructor
  · intro h
    by_cases h2 : n < 10
    · exact h2
    · rw [decN_big h2, ba_size_app] at h
      have := decN_size_pos (n / 10)
      have e : (digN (n % 10)).size = 1 := rfl
      omega
  · intro h; rw [decN_small h]; rfl
theorem decN_size (n : Nat) (h : n ≤ 9223372036854775807) : (decN n).size ≤ 21 := by
  rw [← decS_nat]; exact decS_size _ (by omega) (by omega)
theorem cut_digit : ∀ d : Nat, d < 10 → (⟨#[48, 49, 50, 51, 52, 53, 54, 55, 56, 57]⟩ : ByteArray).extract d (d + 1) = digN d := by
  intro d hd
  have : d = 0 ∨ d = 1 ∨ d = 2 ∨ d = 3 ∨ d = 4 ∨ d = 5 ∨ d = 6 ∨ d = 7 ∨ d = 8 ∨ d = 9 := by omega
  rcases this with rfl | rfl | rfl | rfl | rfl | rfl | rfl | rfl | rfl | rfl <;> (apply ba_ext; decide +kernel)
theorem num_f : ∀ (k n : Nat), n < 10 ^ k → n ≤ 4611686018427387904 → ∀ j, k + 1 ≤ j → spec_l1Num.f j (n : Int) = some (decN n) := by
  intro k
  induction k with
  | zero =>
    intro n hn _ j hj
    obtain ⟨j, rfl⟩ : ∃ q, j = q + 1 := ⟨j - 1, by omega⟩
    have h : n < 10 := by
      have : n < 1 := by simpa using hn
      omega
    simp only [spec_l1Num.f]
    rw [if_neg (by omega), if_pos (by omega), if_pos (by omega), show wrap64 ((n : Int) + 1) = ((n + 1 : Nat) : Int) from by unfold wrap64; omega, if_pos (by omega), if_pos (by omega), Int.toNat_natCast, Int.toNat_natCast, cut_digit n h, decN_small h]
  | succ k ih =>
    intro n hn hb j hj
    obtain ⟨j, rfl⟩ : ∃ q, j = q + 1 := ⟨j - 1, by omega⟩
    by_cases h : n < 10
    · simp only [spec_l1Num.f]
      rw [if_neg (by omega), if_pos (by omega), if_pos (by omega), show wrap64 ((n : Int) + 1) = ((n + 1 : Nat) : Int) from by unfold wrap64; omega, if_pos (by omega), if_pos (by omega), Int.toNat_natCast, Int.toNat_natCast, cut_digit n h, decN_small h]
    · have hd : n / 10 < 10 ^ k := by rw [Nat.pow_succ] at hn; omega
      have hi := ih (n / 10) hd (by omega) j (by omega)
      have hs := decN_size (n / 10) (by omega)
      have hm : n % 10 < 10 := Nat.mod_lt _ (by omega)
      simp only [spec_l1Num.f]
      rw [if_neg (by omega), if_neg (by omega), show Int.tdiv (n : Int) 10 = ((n / 10 : Nat) : Int) from (Int.ofNat_tdiv n 10).symm, show Int.tmod (n : Int) 10 = ((n % 10 : Nat) : Int) from (Int.ofNat_tmod n 10).symm, show wrap64 ((n / 10 : Nat) : Int) = ((n / 10 : Nat) : Int) from by unfold wrap64; omega, hi, Option.bind_some]
      rw [if_pos (by omega), show wrap64 (((n % 10 : Nat) : Int) + 1) = ((n % 10 + 1 : Nat) : Int) from by unfold wrap64; omega, if_pos (by omega), if_pos (by omega), Int.toNat_natCast, Int.toNat_natCast, cut_digit _ hm]
      have e1 : (digN (n % 10)).size = 1 := rfl
      rw [if_pos (by omega), decN_big h]
theorem ev_num (n : Nat) (h : n < 1000000) : Ev (fun k => spec_l1Num.f k (n : Int)) (decN n) := ⟨7, fun k hk => num_f 6 n (by omega) (by omega) k hk⟩
end Go.Proofs.YtnibkkfjgmfpnaaDoor.Q
