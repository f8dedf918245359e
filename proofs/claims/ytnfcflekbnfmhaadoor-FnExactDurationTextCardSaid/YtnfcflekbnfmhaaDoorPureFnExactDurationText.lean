/- The two programs write the same text of a warning's hours: for every warning. -/
import Derived.Test.YtnfcflekbnfmhaaDoorQf8
import Derived.Test.YtnfcflekbnfmhaaDoorLaHour
import Derived.Test.YtnfcflekbnfmhaaDoorLaGood
import Derived.Test.YtnfcflekbnfmhaaDoorArgs
set_option linter.unusedVariables false
set_option linter.unusedSimpArgs false
namespace Go.Proofs.YtnfcflekbnfmhaaDoor.Q
open Go.RowKit Go.Proofs.YtnfcflekbnfmhaaDoorW.PrintWords Go.Proofs.YtnfcflekbnfmhaaDoor.Gen
def manyS (n : Nat) (s : ByteArray) : ByteArray := if n = 1 then (⟨#[49, 32]⟩ : ByteArray) ++ s else ((decN n ++ (⟨#[32]⟩ : ByteArray)) ++ s) ++ (⟨#[115]⟩ : ByteArray)
theorem szB1 : (⟨#[32]⟩ : ByteArray).size = 1 := rfl
theorem szB2 : (⟨#[49, 32]⟩ : ByteArray).size = 2 := rfl
theorem szB3 : (⟨#[115]⟩ : ByteArray).size = 1 := rfl
theorem manyS_size (n : Nat) (h : n ≤ 1000) (s : ByteArray) (hs : s.size ≤ 10) : (manyS n s).size ≤ 40 := by
  unfold manyS
  have := decN_size n (by omega)
  split <;> simp only [ba_size_app, szB1, szB2, szB3] <;> omega
theorem count_f (n : Nat) (h : n ≤ 1000) (s : ByteArray) (hs : s.size ≤ 10) : impl_countText.f (n : Int) s = some (manyS n s) := by
  unfold impl_countText.f manyS
  by_cases c : n = 1
  · rw [if_pos (by omega), if_pos (by omega), if_pos c]
  · have h1 := decN_size n (by omega)
    rw [if_neg (by omega), if_neg c, itoa_f _ (by omega) (by omega), decS_nat, Option.bind_some, if_pos (by omega), if_pos (by simp only [ba_size_app, szB1]; omega), if_pos (by simp only [ba_size_app, szB1]; omega)]
theorem ev_many (n : Nat) (h : n ≤ 1000) (s : ByteArray) (hs : s.size ≤ 10) : Ev (fun k => spec_l16Many.f k (n : Int) s) (manyS n s) := by
  unfold spec_l16Many.f manyS
  by_cases c : n = 1
  · rw [if_pos c]
    exact Ev.congr (fun k => if_pos (by omega)) (Ev.congr (fun k => if_pos (by omega)) (Ev.now _))
  · have h1 := decN_size n (by omega)
    rw [if_neg c]
    refine Ev.congr (fun k => if_neg (by omega)) ?_
    refine Ev.bind (f := fun k t => _) (ev_num n (by omega)) ?_
    exact Ev.congr (fun k => if_pos (by omega)) (Ev.congr (fun k => if_pos (by simp only [ba_size_app, szB1]; omega)) (Ev.congr (fun k => if_pos (by simp only [ba_size_app, szB1]; omega)) (Ev.now _)))
def sDayW : ByteArray := ⟨#[100, 97, 121]⟩
def sHourW : ByteArray := ⟨#[104, 111, 117, 114]⟩
def sAnd : ByteArray := ⟨#[32, 97, 110, 100, 32]⟩
theorem szD : (⟨#[100, 97, 121]⟩ : ByteArray).size = 3 := rfl
theorem szH : (⟨#[104, 111, 117, 114]⟩ : ByteArray).size = 4 := rfl
theorem szA : (⟨#[32, 97, 110, 100, 32]⟩ : ByteArray).size = 5 := rfl
/-- Hours in words. -/
def durS (n : Nat) : ByteArray := if n % 24 = 0 then manyS (n / 24) sDayW else if n / 24 = 0 then manyS (n % 24) sHourW else (manyS (n / 24) sDayW ++ sAnd) ++ manyS (n % 24) sHourW
theorem joinS_one (x s : ByteArray) : joinS [x] s = x := by
  apply ba_ext
  show Lib.join [x.data.toList] s.data.toList = _
  rw [Lib.join_one]
theorem joinS_two (x y s : ByteArray) : joinS [x, y] s = (x ++ s) ++ y := by
  apply ba_ext
  show Lib.join [x.data.toList, y.data.toList] s.data.toList = _
  rw [Lib.join_cons, ba_app, ba_app]
  simp [Lib.joinTail]
theorem join1_f (x s : ByteArray) (h : x.size ≤ 1000) : strings_Join.f [x] s = some x := by
  unfold strings_Join.f
  have e : (Lib.join (([x] : List ByteArray).map (·.data.toList)) s.data.toList).length = x.size := by
    show (Lib.join [x.data.toList] s.data.toList).length = _
    rw [Lib.join_one]; rfl
  rw [if_pos ⟨(show 1 ≤ 140737488355328 by decide), by rw [e]; omega⟩, joinS_one]
theorem join2_f (x y s : ByteArray) (h : x.size ≤ 1000) (h2 : y.size ≤ 1000) (h3 : s.size ≤ 1000) : strings_Join.f [x, y] s = some ((x ++ s) ++ y) := by
  unfold strings_Join.f
  have e : (Lib.join (([x, y] : List ByteArray).map (·.data.toList)) s.data.toList).length = x.size + s.size + y.size := by
    have q : (joinS [x, y] s).size = x.size + s.size + y.size := by rw [joinS_two, ba_size_app, ba_size_app]
    exact q
  rw [if_pos ⟨(show 2 ≤ 140737488355328 by decide), by rw [e]; omega⟩, joinS_two]
def durR (a b c d e f : Int) : ByteArray × Bool := if okB a b c d e f = true then (durS (f - e).toNat, true) else (⟨#[]⟩, false)
theorem ev_specDur (a b c d e f : Int) : Ev (fun k => spec_DurationText.f k a b c d e f) (durR a b c d e f) := by
  unfold spec_DurationText.f durR
  refine Ev.bind (f := fun k t => _) (Ev.eq_now fun k => good_f a b c d e f) ?_
  by_cases o : okB a b c d e f = true
  · rw [if_pos o]
    refine Ev.congr (fun k => if_pos o) ?_
    have hb := of_decide_eq_true o
    obtain ⟨n, hn⟩ : ∃ n : Nat, f - e = (n : Int) := ⟨(f - e).toNat, by omega⟩
    have hw : wrap64 (n : Int) = (n : Int) := by unfold wrap64; omega
    rw [hn, Int.toNat_natCast, hw]
    have hnb : n ≤ 240 := by omega
    have d1 := div_i n 24 (by omega)
    have m1 := mod_i n 24
    simp only [Int.cast_ofNat_Int] at d1 m1
    rw [d1, m1]
    unfold durS
    by_cases c1 : n % 24 = 0
    · rw [if_pos c1]
      refine Ev.congr (fun k => if_pos (by omega)) ?_
      exact Ev.bind (f := fun k t => _) (ev_many (n / 24) (by omega) _ (by decide)) (Ev.now _)
    · rw [if_neg c1]
      refine Ev.congr (fun k => if_neg (by omega)) ?_
      by_cases c2 : n / 24 = 0
      · rw [if_pos c2]
        refine Ev.congr (fun k => if_pos (by omega)) ?_
        exact Ev.bind (f := fun k t => _) (ev_many (n % 24) (by omega) _ (by decide)) (Ev.now _)
      · rw [if_neg c2]
        refine Ev.congr (fun k => if_neg (by omega)) ?_
        have s1 := manyS_size (n / 24) (by omega) sDayW (by decide)
        have s2 := manyS_size (n % 24) (by omega) sHourW (by decide)
        refine Ev.bind (f := fun k t => _) (ev_many (n / 24) (by omega) sDayW (by decide)) ?_
        refine Ev.congr (fun k => if_pos (by omega)) ?_
        refine Ev.bind (f := fun k t => _) (ev_many (n % 24) (by omega) sHourW (by decide)) ?_
        exact Ev.congr (fun k => if_pos (by simp only [ba_size_app, szA]; omega)) (Ev.now _)
  · rw [if_neg o]
    exact Ev.congr (fun k => if_neg o) (Ev.now _)
theorem ev_implDur (a b c d e f : Int) : Ev (fun k => impl_DurationText.f k a b c d e f) (durR a b c d e f) := by
  unfold impl_DurationText.f durR
  refine Ev.bind (f := fun k t => _) (Ev.eq_now fun k => valid_f a b c d e f) ?_
  by_cases o : okB a b c d e f = true
  · rw [if_pos o]
    refine Ev.congr (fun k => if_pos o) ?_
    have hb := of_decide_eq_true o
    obtain ⟨n, hn⟩ : ∃ n : Nat, f - e = (n : Int) := ⟨(f - e).toNat, by omega⟩
    have hw : wrap64 (n : Int) = (n : Int) := by unfold wrap64; omega
    rw [hn, Int.toNat_natCast, hw]
    have hnb : n ≤ 240 ∧ 0 < n := by omega
    have d1 := div_i n 24 (by omega)
    have m1 := mod_i n 24
    simp only [Int.cast_ofNat_Int] at d1 m1
    have s1 := manyS_size (n / 24) (by omega) sDayW (by decide)
    have s2 := manyS_size (n % 24) (by omega) sHourW (by decide)
    rw [d1]
    unfold durS
    by_cases c2 : n / 24 = 0
    · refine Ev.congr (fun k => if_neg (by omega)) (Ev.unr ?_)
      have c1 : ¬ n % 24 = 0 := by omega
      rw [if_neg c1, if_pos c2]
      refine Ev.eq_now fun k => ?_
      simp only [impl_DurationText.j0]
      rw [m1, if_pos (by omega), count_f (n % 24) (by omega) _ (by decide), Option.bind_some, if_pos (by decide)]
      rw [List.nil_append, join1_f _ _ (by unfold sHourW at s2; omega), Option.bind_some]
      rfl
    · refine Ev.congr (fun k => if_pos (by omega)) ?_
      refine Ev.bind (f := fun k t => _) (Ev.eq_now fun k => count_f (n / 24) (by omega) _ (by decide)) ?_
      refine Ev.congr (fun k => if_pos (by decide)) (Ev.unr ?_)
      refine Ev.eq_now fun k => ?_
      simp only [impl_DurationText.j0]
      rw [m1, List.nil_append]
      by_cases c1 : n % 24 = 0
      · rw [if_pos c1, if_neg (by omega), join1_f _ _ (by unfold sDayW at s1; omega), Option.bind_some]
        rfl
      · rw [if_neg c1, if_neg c2, if_pos (by omega), count_f (n % 24) (by omega) _ (by decide), Option.bind_some, if_pos (by show 1 < 8796093022208; decide)]
        rw [List.singleton_append, join2_f _ _ _ (by unfold sDayW at s1; omega) (by unfold sHourW at s2; omega) (by rw [szA]; decide), Option.bind_some]
        rfl
  · rw [if_neg o]
    exact Ev.congr (fun k => if_neg o) (Ev.now _)
end Go.Proofs.YtnfcflekbnfmhaaDoor.Q
namespace Go.Proofs.YtnfcflekbnfmhaaDoor.Pure
open Go.RowKit Go.Proofs.YtnfcflekbnfmhaaDoorW.PrintWords Go.Proofs.YtnfcflekbnfmhaaDoor.Tells Go.Proofs.YtnfcflekbnfmhaaDoor.Q Go.Proofs.YtnfcflekbnfmhaaDoor.Gen
theorem FnExactDurationText : ∀ (x0 : S36), G36 x0 → ∃ k, laws_FnExactDurationText.f k x0.f0 x0.f1 x0.f2 x0.f3 x0.f4 x0.f5 = some true := by
  intro x _
  refine Ev.rounds ?_
  unfold laws_FnExactDurationText.f
  refine Ev.bind (f := fun k t => _) (Ev.eq_now fun k => (show laws_toWarning.f x.f0 x.f1 x.f2 x.f3 x.f4 x.f5 = some (x.f0, x.f1, x.f2, x.f3, x.f4, x.f5) from rfl)) ?_
  refine Ev.bind (f := fun k t => _) (ev_specDur x.f0 x.f1 x.f2 x.f3 x.f4 x.f5) ?_
  refine Ev.bind (f := fun k t => _) (Ev.eq_now fun k => (show laws_toWarning.f x.f0 x.f1 x.f2 x.f3 x.f4 x.f5 = some (x.f0, x.f1, x.f2, x.f3, x.f4, x.f5) from rfl)) ?_
  refine Ev.bind (f := fun k t => _) (ev_implDur x.f0 x.f1 x.f2 x.f3 x.f4 x.f5) ?_
  exact Ev.congr (fun k => if_pos rfl) (Ev.congr (fun k => if_neg (by simp)) (Ev.now _))
end Go.Proofs.YtnfcflekbnfmhaaDoor.Pure
