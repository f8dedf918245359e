/- The two programs write a warning in short alike: for every warning. -/
import Derived.Test.YtnfcflekbnfmhaaDoorQf7
import Derived.Test.YtnfcflekbnfmhaaDoorLaText
import Derived.Test.YtnfcflekbnfmhaaDoorLaJoinS
import Derived.Test.YtnfcflekbnfmhaaDoorArgs
set_option linter.unusedVariables false
set_option linter.unusedSimpArgs false
namespace Go.Proofs.YtnfcflekbnfmhaaDoor.Q
open Go.RowKit Go.Proofs.YtnfcflekbnfmhaaDoorW.PrintWords Go.Proofs.YtnfcflekbnfmhaaDoor.Gen
theorem szS1 : (⟨#[47]⟩ : ByteArray).size = 1 := rfl
theorem szS2 : (⟨#[45]⟩ : ByteArray).size = 1 := rfl
theorem letter_size (i : Int) : (rdOf ByteArray.empty letterT i).size ≤ 10 := by
  unfold rdOf
  generalize i.toNat = n
  match n with
  | 0 | 1 | 2 | 3 | 4 | 5 => decide +kernel
  | n + 6 => exact Nat.zero_le _
def shortS (a b c d e f : Int) : ByteArray := ((((((((wordS levelT c).extract 0 1 ++ (⟨#[47]⟩ : ByteArray)) ++ decN d.toNat) ++ (⟨#[47]⟩ : ByteArray)) ++ rdOf ByteArray.empty letterT b) ++ (⟨#[47]⟩ : ByteArray)) ++ decN e.toNat) ++ (⟨#[45]⟩ : ByteArray)) ++ decN f.toNat
def swR (a b c d e f : Int) : ByteArray × Bool := if okB a b c d e f = true then (shortS a b c d e f, true) else (⟨#[]⟩, false)
theorem ext_size (x : ByteArray) (h : x.size ≤ 10) : (x.extract 0 1).size ≤ 1 := by
  rw [ByteArray.size_extract]; omega
theorem ev_specSW (a b c d e f : Int) : Ev (fun k => spec_ShortWarning.f k a b c d e f) (swR a b c d e f) := by
  unfold spec_ShortWarning.f swR
  refine Ev.bind (f := fun k t => _) (Ev.eq_now fun k => good_f a b c d e f) ?_
  by_cases o : okB a b c d e f = true
  · rw [if_pos o]
    refine Ev.congr (fun k => if_pos o) ?_
    have hb := of_decide_eq_true o
    obtain ⟨nd, rfl⟩ : ∃ n : Nat, d = (n : Int) := ⟨d.toNat, by omega⟩
    obtain ⟨ne, rfl⟩ : ∃ n : Nat, e = (n : Int) := ⟨e.toNat, by omega⟩
    obtain ⟨nf, rfl⟩ : ∃ n : Nat, f = (n : Int) := ⟨f.toNat, by omega⟩
    have h1 := decN_size nd (by omega)
    have h2 := decN_size ne (by omega)
    have h3 := decN_size nf (by omega)
    have hL := ext_size _ (wordL_size c)
    have hP := wordL_pos c (by omega) (by omega)
    have hT := letter_size b
    have l4 : (LV.length : Int) = 4 := rfl
    have l6 : (letterT.length : Int) = 6 := rfl
    refine Ev.bind (f := fun k t => _) (Ev.eq_now fun k => (rfl : _ = some letterT)) ?_
    refine Ev.bind (f := fun k t => _) (Ev.eq_now fun k => (show spec_l16Levels.f = some LV from rfl)) ?_
    rw [rdLV c (by omega) (by omega)]
    refine Ev.congr (fun k => if_pos (by omega)) (Ev.congr (fun k => if_pos (by omega)) (Ev.congr (fun k => if_pos (by omega)) (Ev.congr (fun k => if_pos (by omega)) (Ev.congr (fun k => if_pos (by omega)) ?_))))
    refine Ev.bind (f := fun k t => _) (ev_num nd (by omega)) ?_
    refine Ev.congr (fun k => if_pos (by simp only [ba_size_app, szS1]; omega)) (Ev.congr (fun k => if_pos (by simp only [ba_size_app, szS1]; omega)) (Ev.congr (fun k => if_pos (by omega)) (Ev.congr (fun k => if_pos (by omega)) (Ev.congr (fun k => if_pos (by simp only [ba_size_app, szS1]; omega)) (Ev.congr (fun k => if_pos (by simp only [ba_size_app, szS1]; omega)) ?_)))))
    refine Ev.bind (f := fun k t => _) (ev_num ne (by omega)) ?_
    refine Ev.congr (fun k => if_pos (by simp only [ba_size_app, szS1]; omega)) (Ev.congr (fun k => if_pos (by simp only [ba_size_app, szS1]; omega)) ?_)
    refine Ev.bind (f := fun k t => _) (ev_num nf (by omega)) ?_
    refine Ev.congr (fun k => if_pos (by simp only [ba_size_app, szS1, szS2]; omega)) ?_
    exact Ev.now _
  · rw [if_neg o]
    exact Ev.congr (fun k => if_neg o) (Ev.now _)
theorem ev_implSW (a b c d e f : Int) : Ev (fun k => impl_ShortWarning.f k a b c d e f) (swR a b c d e f) := by
  unfold impl_ShortWarning.f swR
  refine Ev.bind (f := fun k t => _) (Ev.eq_now fun k => valid_f a b c d e f) ?_
  by_cases o : okB a b c d e f = true
  · rw [if_pos o]
    refine Ev.congr (fun k => if_pos o) ?_
    have hb := of_decide_eq_true o
    obtain ⟨nd, rfl⟩ : ∃ n : Nat, d = (n : Int) := ⟨d.toNat, by omega⟩
    obtain ⟨ne, rfl⟩ : ∃ n : Nat, e = (n : Int) := ⟨e.toNat, by omega⟩
    obtain ⟨nf, rfl⟩ : ∃ n : Nat, f = (n : Int) := ⟨f.toNat, by omega⟩
    have h1 := decN_size nd (by omega)
    have h2 := decN_size ne (by omega)
    have h3 := decN_size nf (by omega)
    refine Ev.congr (fun k => if_pos (by omega)) ?_
    refine Ev.bind (f := fun k t => _) (Ev.eq_now fun k => (show strconv_Itoa.f (nd : Int) = some (decN nd) by rw [itoa_f _ (by omega) (by omega), decS_nat])) ?_
    refine Ev.bind (f := fun k t => _) (ev_joinInts2 ne nf (by omega) (by omega) (⟨#[45]⟩ : ByteArray) (by rw [szS2]; decide)) ?_
    refine Ev.congr (fun k => if_pos (by simp only [ba_size_app, szS2]; omega)) ?_
    refine Ev.eq_now fun k => ?_
    unfold shortS
    simp only [Int.toNat_natCast, ba_assoc]
  · rw [if_neg o]
    exact Ev.congr (fun k => if_neg o) (Ev.now _)
end Go.Proofs.YtnfcflekbnfmhaaDoor.Q
namespace Go.Proofs.YtnfcflekbnfmhaaDoor.Pure
open Go.RowKit Go.Proofs.YtnfcflekbnfmhaaDoorW.PrintWords Go.Proofs.YtnfcflekbnfmhaaDoor.Tells Go.Proofs.YtnfcflekbnfmhaaDoor.Q Go.Proofs.YtnfcflekbnfmhaaDoor.Gen
theorem FnExactShortWarning : ∀ (x0 : S36), G36 x0 → ∃ k, laws_FnExactShortWarning.f k x0.f0 x0.f1 x0.f2 x0.f3 x0.f4 x0.f5 = some true := by
  intro x _
  refine Ev.rounds ?_
  unfold laws_FnExactShortWarning.f
  refine Ev.bind (f := fun k t => _) (Ev.eq_now fun k => (show laws_toWarning.f x.f0 x.f1 x.f2 x.f3 x.f4 x.f5 = some (x.f0, x.f1, x.f2, x.f3, x.f4, x.f5) from rfl)) ?_
  refine Ev.bind (f := fun k t => _) (ev_specSW x.f0 x.f1 x.f2 x.f3 x.f4 x.f5) ?_
  refine Ev.bind (f := fun k t => _) (Ev.eq_now fun k => (show laws_toWarning.f x.f0 x.f1 x.f2 x.f3 x.f4 x.f5 = some (x.f0, x.f1, x.f2, x.f3, x.f4, x.f5) from rfl)) ?_
  refine Ev.bind (f := fun k t => _) (ev_implSW x.f0 x.f1 x.f2 x.f3 x.f4 x.f5) ?_
  exact Ev.congr (fun k => if_pos rfl) (Ev.congr (fun k => if_neg (by simp)) (Ev.now _))
end Go.Proofs.YtnfcflekbnfmhaaDoor.Pure
