/- The two programs write the same code of a warning: for every warning. -/
import Derived.Test.YtkoimngbmhlojaaDoorQf8
import Derived.Test.YtkoimngbmhlojaaDoorLaGood
import Derived.Test.YtkoimngbmhlojaaDoorLaJoinS
import Derived.Test.YtkoimngbmhlojaaDoorArgs
set_option linter.unusedVariables false
set_option linter.unusedSimpArgs false
namespace Go.Proofs.YtkoimngbmhlojaaDoor.Q
open Go.RowKit Go.Proofs.YtkoimngbmhlojaaDoorW.PrintWords Go.Proofs.YtkoimngbmhlojaaDoor.Gen
theorem szDot : (⟨#[46]⟩ : ByteArray).size = 1 := rfl
def preL (c : Int) : ByteArray := (⟨#[89, 79, 82]⟩ : ByteArray).extract (c - 1).toNat c.toNat
def preT (b : Int) : ByteArray := (⟨#[87, 82, 83, 72, 84]⟩ : ByteArray).extract (b - 1).toNat b.toNat
theorem pre_eq (b c : Int) (h1 : 1 ≤ c) (h2 : c ≤ 3) (h3 : 1 ≤ b) (h4 : b ≤ 5) : strOfNums [bt (⟨#[32, 89, 79, 82]⟩ : ByteArray) c, bt (⟨#[32, 87, 82, 83, 72, 84]⟩ : ByteArray) b] = preL c ++ preT b := by
  have hc : c = 1 ∨ c = 2 ∨ c = 3 := by omega
  have hb : b = 1 ∨ b = 2 ∨ b = 3 ∨ b = 4 ∨ b = 5 := by omega
  rcases hc with rfl | rfl | rfl <;> rcases hb with rfl | rfl | rfl | rfl | rfl <;> (apply ba_ext; decide +kernel)
theorem preL_size (c : Int) : (preL c).size ≤ 3 := by
  unfold preL
  rw [ByteArray.size_extract, show (⟨#[89, 79, 82]⟩ : ByteArray).size = 3 from rfl]; omega
theorem preT_size (b : Int) : (preT b).size ≤ 5 := by
  unfold preT
  rw [ByteArray.size_extract, show (⟨#[87, 82, 83, 72, 84]⟩ : ByteArray).size = 5 from rfl]; omega
def codeS (a b c d e f : Int) : ByteArray := (((((((preL c ++ preT b) ++ decN d.toNat) ++ (⟨#[46]⟩ : ByteArray)) ++ decN e.toNat) ++ (⟨#[46]⟩ : ByteArray)) ++ decN f.toNat) ++ (⟨#[46]⟩ : ByteArray)) ++ decN a.toNat
def codeR (a b c d e f : Int) : ByteArray × Bool := if okB a b c d e f = true then (codeS a b c d e f, true) else (⟨#[]⟩, false)
theorem ev_specCode (a b c d e f : Int) (o : okB a b c d e f = true) : Ev (fun k => spec_l17Code.f k a b c d e f) (codeS a b c d e f) := by
  have hb := of_decide_eq_true o
  obtain ⟨na, rfl⟩ : ∃ n : Nat, a = (n : Int) := ⟨a.toNat, by omega⟩
  obtain ⟨nd, rfl⟩ : ∃ n : Nat, d = (n : Int) := ⟨d.toNat, by omega⟩
  obtain ⟨ne, rfl⟩ : ∃ n : Nat, e = (n : Int) := ⟨e.toNat, by omega⟩
  obtain ⟨nf, rfl⟩ : ∃ n : Nat, f = (n : Int) := ⟨f.toNat, by omega⟩
  have h1 := decN_size nd (by omega)
  have h2 := decN_size ne (by omega)
  have h3 := decN_size nf (by omega)
  have h4 := decN_size na (by omega)
  have p1 := preL_size c
  have p2 := preT_size b
  have w1 : wrap64 (c - 1) = c - 1 := by unfold wrap64; omega
  have w2 : wrap64 (b - 1) = b - 1 := by unfold wrap64; omega
  unfold spec_l17Code.f
  rw [w1, w2, show (⟨#[89, 79, 82]⟩ : ByteArray).extract (c - 1).toNat c.toNat = preL c from rfl, show (⟨#[87, 82, 83, 72, 84]⟩ : ByteArray).extract (b - 1).toNat b.toNat = preT b from rfl]
  unfold codeS
  generalize preL c = P at p1 ⊢
  generalize preT b = T at p2 ⊢
  refine Ev.congr (fun k => if_pos (by omega)) (Ev.congr (fun k => if_pos (by omega)) (Ev.congr (fun k => if_pos (by omega)) (Ev.congr (fun k => if_pos (by omega)) (Ev.congr (fun k => if_pos (by omega)) (Ev.congr (fun k => if_pos (by omega)) (Ev.congr (fun k => if_pos (by omega)) ?_))))))
  refine Ev.bind (f := fun k t => _) (ev_num nd (by omega)) ?_
  refine Ev.congr (fun k => if_pos (by simp only [ba_size_app, szDot]; omega)) (Ev.congr (fun k => if_pos (by simp only [ba_size_app, szDot]; omega)) ?_)
  refine Ev.bind (f := fun k t => _) (ev_num ne (by omega)) ?_
  refine Ev.congr (fun k => if_pos (by simp only [ba_size_app, szDot]; omega)) (Ev.congr (fun k => if_pos (by simp only [ba_size_app, szDot]; omega)) ?_)
  refine Ev.bind (f := fun k t => _) (ev_num nf (by omega)) ?_
  refine Ev.congr (fun k => if_pos (by simp only [ba_size_app, szDot]; omega)) (Ev.congr (fun k => if_pos (by simp only [ba_size_app, szDot]; omega)) ?_)
  refine Ev.bind (f := fun k t => _) (ev_num na (by omega)) ?_
  refine Ev.congr (fun k => if_pos (by simp only [ba_size_app, szDot]; omega)) ?_
  exact Ev.now _
theorem ev_implCode (a b c d e f : Int) (o : okB a b c d e f = true) : Ev (fun k => impl_warningCode.f k a b c d e f) (codeS a b c d e f) := by
  have hb := of_decide_eq_true o
  obtain ⟨na, rfl⟩ : ∃ n : Nat, a = (n : Int) := ⟨a.toNat, by omega⟩
  obtain ⟨nd, rfl⟩ : ∃ n : Nat, d = (n : Int) := ⟨d.toNat, by omega⟩
  obtain ⟨ne, rfl⟩ : ∃ n : Nat, e = (n : Int) := ⟨e.toNat, by omega⟩
  obtain ⟨nf, rfl⟩ : ∃ n : Nat, f = (n : Int) := ⟨f.toNat, by omega⟩
  have h1 := decN_size nd (by omega)
  have h2 := decN_size ne (by omega)
  have h3 := decN_size nf (by omega)
  have h4 := decN_size na (by omega)
  have p1 := preL_size c
  have p2 := preT_size b
  unfold impl_warningCode.f
  refine Ev.congr (fun k => if_pos (by omega)) (Ev.congr (fun k => if_pos (by omega)) (Ev.congr (fun k => if_pos (by omega)) (Ev.congr (fun k => if_pos (by omega)) ?_)))
  refine Ev.bind (f := fun k t => _) (Ev.eq_now fun k => rfl) ?_
  refine Ev.bind (f := fun k t => _) (ev_joinInts4 nd ne nf na (by omega) (by omega) (by omega) (by omega) (⟨#[46]⟩ : ByteArray) (by rw [szDot]; decide)) ?_
  rw [pre_eq b c (by omega) (by omega) (by omega) (by omega)]
  refine Ev.congr (fun k => if_pos (by simp only [ba_size_app, szDot]; omega)) ?_
  refine Ev.eq_now fun k => ?_
  unfold codeS
  simp only [Int.toNat_natCast, ba_assoc]
theorem ev_specWC (a b c d e f : Int) : Ev (fun k => spec_WarningCode.f k a b c d e f) (codeR a b c d e f) := by
  unfold spec_WarningCode.f codeR
  refine Ev.bind (f := fun k t => _) (Ev.eq_now fun k => good_f a b c d e f) ?_
  by_cases o : okB a b c d e f = true
  · rw [if_pos o]
    refine Ev.congr (fun k => if_pos o) ?_
    exact Ev.bind (f := fun k t => _) (ev_specCode a b c d e f o) (Ev.now _)
  · rw [if_neg o]
    exact Ev.congr (fun k => if_neg o) (Ev.now _)
theorem ev_implWC (a b c d e f : Int) : Ev (fun k => impl_WarningCode.f k a b c d e f) (codeR a b c d e f) := by
  unfold impl_WarningCode.f codeR
  refine Ev.bind (f := fun k t => _) (Ev.eq_now fun k => valid_f a b c d e f) ?_
  by_cases o : okB a b c d e f = true
  · rw [if_pos o]
    refine Ev.congr (fun k => if_pos o) ?_
    exact Ev.bind (f := fun k t => _) (ev_implCode a b c d e f o) (Ev.now _)
  · rw [if_neg o]
    exact Ev.congr (fun k => if_neg o) (Ev.now _)
end Go.Proofs.YtkoimngbmhlojaaDoor.Q
namespace Go.Proofs.YtkoimngbmhlojaaDoor.Pure
open Go.RowKit Go.Proofs.YtkoimngbmhlojaaDoorW.PrintWords Go.Proofs.YtkoimngbmhlojaaDoor.Tells Go.Proofs.YtkoimngbmhlojaaDoor.Q Go.Proofs.YtkoimngbmhlojaaDoor.Gen
theorem FnExactWarningCode : ∀ (x0 : S23), G23 x0 → ∃ k, laws_FnExactWarningCode.f k x0.f0 x0.f1 x0.f2 x0.f3 x0.f4 x0.f5 = some true := by
  intro x _
  refine Ev.rounds ?_
  unfold laws_FnExactWarningCode.f
  refine Ev.bind (f := fun k t => _) (Ev.eq_now fun k => (show laws_toWarning.f x.f0 x.f1 x.f2 x.f3 x.f4 x.f5 = some (x.f0, x.f1, x.f2, x.f3, x.f4, x.f5) from rfl)) ?_
  refine Ev.bind (f := fun k t => _) (ev_specWC x.f0 x.f1 x.f2 x.f3 x.f4 x.f5) ?_
  refine Ev.bind (f := fun k t => _) (Ev.eq_now fun k => (show laws_toWarning.f x.f0 x.f1 x.f2 x.f3 x.f4 x.f5 = some (x.f0, x.f1, x.f2, x.f3, x.f4, x.f5) from rfl)) ?_
  refine Ev.bind (f := fun k t => _) (ev_implWC x.f0 x.f1 x.f2 x.f3 x.f4 x.f5) ?_
  exact Ev.congr (fun k => if_pos rfl) (Ev.congr (fun k => if_neg (by simp)) (Ev.now _))
end Go.Proofs.YtkoimngbmhlojaaDoor.Pure
