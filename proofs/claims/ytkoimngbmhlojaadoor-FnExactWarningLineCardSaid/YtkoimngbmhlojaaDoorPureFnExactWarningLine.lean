/- The two programs write the same line of a warning: for every warning. -/
import Derived.Test.YtkoimngbmhlojaaDoorQf10
import Derived.Test.YtkoimngbmhlojaaDoorLaGood
import Derived.Test.YtkoimngbmhlojaaDoorLaJoinS
import Derived.Test.YtkoimngbmhlojaaDoorArgs
set_option linter.unusedVariables false
set_option linter.unusedSimpArgs false
namespace Go.Proofs.YtkoimngbmhlojaaDoor.Q
open Go.RowKit Go.Proofs.YtkoimngbmhlojaaDoorW.PrintWords Go.Proofs.YtkoimngbmhlojaaDoor.Gen
theorem szN0 : (⟨#[58, 32]⟩ : ByteArray).size = 2 := rfl
theorem szN1 : (⟨#[32]⟩ : ByteArray).size = 1 := rfl
theorem szN2 : (⟨#[44, 32, 97, 114, 101, 97, 32]⟩ : ByteArray).size = 7 := rfl
theorem szN3 : (⟨#[44, 32, 104, 111, 117, 114, 115, 32]⟩ : ByteArray).size = 8 := rfl
theorem szN4 : (⟨#[45]⟩ : ByteArray).size = 1 := rfl
def LVl : List ByteArray := [(⟨#[]⟩ : ByteArray), (⟨#[121, 101, 108, 108, 111, 119]⟩ : ByteArray), (⟨#[111, 114, 97, 110, 103, 101]⟩ : ByteArray), (⟨#[114, 101, 100]⟩ : ByteArray)]
def TVl : List ByteArray := [(⟨#[]⟩ : ByteArray), (⟨#[119, 105, 110, 100]⟩ : ByteArray), (⟨#[114, 97, 105, 110]⟩ : ByteArray), (⟨#[115, 110, 111, 119]⟩ : ByteArray), (⟨#[104, 101, 97, 116]⟩ : ByteArray), (⟨#[115, 116, 111, 114, 109]⟩ : ByteArray)]
theorem rdTVl (c : Int) (h : 1 ≤ c) (h2 : c ≤ 5) : rdOf ByteArray.empty TVl c = wordS topicT c := by
  have : c = 1 ∨ c = 2 ∨ c = 3 ∨ c = 4 ∨ c = 5 := by omega
  rcases this with rfl | rfl | rfl | rfl | rfl <;> rfl
theorem lower_f (c : Int) (h : 1 ≤ c) (h2 : c ≤ 3) : strings_ToLower.f (wordS levelT c) = some (rdOf ByteArray.empty LVl c) := by
  have : c = 1 ∨ c = 2 ∨ c = 3 := by omega
  rcases this with rfl | rfl | rfl <;> (unfold strings_ToLower.f; rw [if_pos (by decide +kernel)]; apply congrArg some; apply ba_ext; decide +kernel)
theorem low_size (i : Int) : (rdOf ByteArray.empty LVl i).size ≤ 10 := by
  unfold rdOf
  generalize i.toNat = n
  match n with
  | 0 | 1 | 2 | 3 => decide +kernel
  | n + 4 => exact Nat.zero_le _
def lineS (a b c d e f : Int) : ByteArray := ((((((((((decN a.toNat ++ (⟨#[58, 32]⟩ : ByteArray)) ++ rdOf ByteArray.empty LVl c) ++ (⟨#[32]⟩ : ByteArray)) ++ wordS topicT b) ++ (⟨#[44, 32, 97, 114, 101, 97, 32]⟩ : ByteArray)) ++ decN d.toNat) ++ (⟨#[44, 32, 104, 111, 117, 114, 115, 32]⟩ : ByteArray)) ++ decN e.toNat) ++ (⟨#[45]⟩ : ByteArray)) ++ decN f.toNat)
def lineR (a b c d e f : Int) : ByteArray × Bool := if okB a b c d e f = true then (lineS a b c d e f, true) else (⟨#[]⟩, false)
theorem ev_specLine (a b c d e f : Int) (o : okB a b c d e f = true) : Ev (fun k => spec_l17Line.f k a b c d e f) (lineS a b c d e f) := by
  have hb := of_decide_eq_true o
  obtain ⟨na, rfl⟩ : ∃ n : Nat, a = (n : Int) := ⟨a.toNat, by omega⟩
  obtain ⟨nd, rfl⟩ : ∃ n : Nat, d = (n : Int) := ⟨d.toNat, by omega⟩
  obtain ⟨ne, rfl⟩ : ∃ n : Nat, e = (n : Int) := ⟨e.toNat, by omega⟩
  obtain ⟨nf, rfl⟩ : ∃ n : Nat, f = (n : Int) := ⟨f.toNat, by omega⟩
  have h1 := decN_size nd (by omega)
  have h2 := decN_size ne (by omega)
  have h3 := decN_size nf (by omega)
  have h4 := decN_size na (by omega)
  have hL := low_size c
  have hO := wordO_size7 b
  have l4 : (LVl.length : Int) = 4 := rfl
  have l6 : (TVl.length : Int) = 6 := rfl
  unfold spec_l17Line.f
  refine Ev.bind (f := fun k t => _) (ev_num na (by omega)) ?_
  refine Ev.congr (fun k => if_pos (by omega)) ?_
  refine Ev.bind (f := fun k t => _) (Ev.eq_now fun k => (show spec_l17Levels.f = some LVl from rfl)) ?_
  refine Ev.congr (fun k => if_pos (by omega)) (Ev.congr (fun k => if_pos (by omega)) (Ev.congr (fun k => if_pos (by simp only [ba_size_app, szN0, szN1, szN2, szN3, szN4]; omega)) (Ev.congr (fun k => if_pos (by simp only [ba_size_app, szN0, szN1, szN2, szN3, szN4]; omega)) ?_)))
  refine Ev.bind (f := fun k t => _) (Ev.eq_now fun k => (show spec_l17Topics.f = some TVl from rfl)) ?_
  rw [rdTVl b (by omega) (by omega)]
  refine Ev.congr (fun k => if_pos (by omega)) (Ev.congr (fun k => if_pos (by omega)) (Ev.congr (fun k => if_pos (by simp only [ba_size_app, szN0, szN1, szN2, szN3, szN4]; omega)) (Ev.congr (fun k => if_pos (by simp only [ba_size_app, szN0, szN1, szN2, szN3, szN4]; omega)) ?_)))
  refine Ev.bind (f := fun k t => _) (ev_num nd (by omega)) ?_
  refine Ev.congr (fun k => if_pos (by simp only [ba_size_app, szN0, szN1, szN2, szN3, szN4]; omega)) (Ev.congr (fun k => if_pos (by simp only [ba_size_app, szN0, szN1, szN2, szN3, szN4]; omega)) ?_)
  refine Ev.bind (f := fun k t => _) (ev_num ne (by omega)) ?_
  refine Ev.congr (fun k => if_pos (by simp only [ba_size_app, szN0, szN1, szN2, szN3, szN4]; omega)) (Ev.congr (fun k => if_pos (by simp only [ba_size_app, szN0, szN1, szN2, szN3, szN4]; omega)) ?_)
  refine Ev.bind (f := fun k t => _) (ev_num nf (by omega)) ?_
  refine Ev.congr (fun k => if_pos (by simp only [ba_size_app, szN0, szN1, szN2, szN3, szN4]; omega)) ?_
  exact Ev.now _
theorem ev_implLine (a b c d e f : Int) (o : okB a b c d e f = true) : Ev (fun k => impl_warningLine.f k a b c d e f) (lineS a b c d e f) := by
  have hb := of_decide_eq_true o
  obtain ⟨na, rfl⟩ : ∃ n : Nat, a = (n : Int) := ⟨a.toNat, by omega⟩
  obtain ⟨nd, rfl⟩ : ∃ n : Nat, d = (n : Int) := ⟨d.toNat, by omega⟩
  obtain ⟨ne, rfl⟩ : ∃ n : Nat, e = (n : Int) := ⟨e.toNat, by omega⟩
  obtain ⟨nf, rfl⟩ : ∃ n : Nat, f = (n : Int) := ⟨f.toNat, by omega⟩
  have h1 := decN_size nd (by omega)
  have h2 := decN_size ne (by omega)
  have h3 := decN_size nf (by omega)
  have h4 := decN_size na (by omega)
  have hL := low_size c
  unfold impl_warningLine.f
  refine Ev.congr (fun k => if_pos (by omega)) ?_
  refine Ev.bind (f := fun k t => _) (Ev.eq_now fun k => (show strconv_Itoa.f (na : Int) = some (decN na) by rw [itoa_f _ (by omega) (by omega), decS_nat])) ?_
  refine Ev.bind (f := fun k t => _) (Ev.eq_now fun k => lower_f c (by omega) (by omega)) ?_
  refine Ev.bind (f := fun k t => _) (Ev.eq_now fun k => (show strconv_Itoa.f (nd : Int) = some (decN nd) by rw [itoa_f _ (by omega) (by omega), decS_nat])) ?_
  refine Ev.bind (f := fun k t => _) (ev_joinInts2 ne nf (by omega) (by omega) (⟨#[45]⟩ : ByteArray) (by rw [szN4]; decide)) ?_
  refine Ev.congr (fun k => if_pos (by simp only [ba_size_app, szN0, szN1, szN2, szN3, szN4]; omega)) ?_
  refine Ev.eq_now fun k => ?_
  unfold lineS
  simp only [Int.toNat_natCast, ba_assoc]
theorem ev_specWL (a b c d e f : Int) : Ev (fun k => spec_WarningLine.f k a b c d e f) (lineR a b c d e f) := by
  unfold spec_WarningLine.f lineR
  refine Ev.bind (f := fun k t => _) (Ev.eq_now fun k => good_f a b c d e f) ?_
  by_cases o : okB a b c d e f = true
  · rw [if_pos o]
    refine Ev.congr (fun k => if_pos o) ?_
    exact Ev.bind (f := fun k t => _) (ev_specLine a b c d e f o) (Ev.now _)
  · rw [if_neg o]
    exact Ev.congr (fun k => if_neg o) (Ev.now _)
theorem ev_implWL (a b c d e f : Int) : Ev (fun k => impl_WarningLine.f k a b c d e f) (lineR a b c d e f) := by
  unfold impl_WarningLine.f lineR
  refine Ev.bind (f := fun k t => _) (Ev.eq_now fun k => valid_f a b c d e f) ?_
  by_cases o : okB a b c d e f = true
  · rw [if_pos o]
    refine Ev.congr (fun k => if_pos o) ?_
    exact Ev.bind (f := fun k t => _) (ev_implLine a b c d e f o) (Ev.now _)
  · rw [if_neg o]
    exact Ev.congr (fun k => if_neg o) (Ev.now _)
end Go.Proofs.YtkoimngbmhlojaaDoor.Q
namespace Go.Proofs.YtkoimngbmhlojaaDoor.Pure
open Go.RowKit Go.Proofs.YtkoimngbmhlojaaDoorW.PrintWords Go.Proofs.YtkoimngbmhlojaaDoor.Tells Go.Proofs.YtkoimngbmhlojaaDoor.Q Go.Proofs.YtkoimngbmhlojaaDoor.Gen
theorem FnExactWarningLine : ∀ (x0 : S23), G23 x0 → ∃ k, laws_FnExactWarningLine.f k x0.f0 x0.f1 x0.f2 x0.f3 x0.f4 x0.f5 = some true := by
  intro x _
  refine Ev.rounds ?_
  unfold laws_FnExactWarningLine.f
  refine Ev.bind (f := fun k t => _) (Ev.eq_now fun k => (show laws_toWarning.f x.f0 x.f1 x.f2 x.f3 x.f4 x.f5 = some (x.f0, x.f1, x.f2, x.f3, x.f4, x.f5) from rfl)) ?_
  refine Ev.bind (f := fun k t => _) (ev_specWL x.f0 x.f1 x.f2 x.f3 x.f4 x.f5) ?_
  refine Ev.bind (f := fun k t => _) (Ev.eq_now fun k => (show laws_toWarning.f x.f0 x.f1 x.f2 x.f3 x.f4 x.f5 = some (x.f0, x.f1, x.f2, x.f3, x.f4, x.f5) from rfl)) ?_
  refine Ev.bind (f := fun k t => _) (ev_implWL x.f0 x.f1 x.f2 x.f3 x.f4 x.f5) ?_
  exact Ev.congr (fun k => if_pos rfl) (Ev.congr (fun k => if_neg (by simp)) (Ev.now _))
end Go.Proofs.YtkoimngbmhlojaaDoor.Pure
