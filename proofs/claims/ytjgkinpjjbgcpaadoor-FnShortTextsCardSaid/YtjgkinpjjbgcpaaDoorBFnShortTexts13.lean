/- Texts of this seat, put together: LaW, LaDrawW, LaDrawS, PureFnShortTexts. -/
import Derived.Test.YtjgkinpjjbgcpaaDoorZFnShortTexts
import Derived.Test.YtjgkinpjjbgcpaaDoorBFnShortTexts0
import Derived.Test.YtjgkinpjjbgcpaaDoorBFnShortTexts1
import Derived.Test.YtjgkinpjjbgcpaaDoorBFnShortTexts2
import Derived.Test.YtjgkinpjjbgcpaaDoorBFnShortTexts5
import Derived.Test.YtjgkinpjjbgcpaaDoorBFnShortTexts7
import Derived.Test.YtjgkinpjjbgcpaaDoorBFnShortTexts8
import Derived.Test.YtjgkinpjjbgcpaaDoorBFnShortTexts11
import Derived.Test.YtjgkinpjjbgcpaaDoorBFnShortTexts12
/- Lists of warnings in plain words: which are valid, which lists are consistent; what both programs say of it. -/
namespace Go.Proofs.YtjgkinpjjbgcpaaDoor.Q
open Go.RowKit Go.Proofs.YtjgkinpjjbgcpaaDoorW.PrintWords Go.Proofs.YtjgkinpjjbgcpaaDoor.Gen Go.Proofs.YtjgkinpjjbgcpaaDoor.Tells
set_option linter.unusedVariables false
set_option linter.unusedSimpArgs false

def okW (x : S25) : Bool := decide (1 ≤ x.f0 ∧ x.f0 ≤ 999 ∧ 1 ≤ x.f1 ∧ x.f1 ≤ 5 ∧ 1 ≤ x.f2 ∧ x.f2 ≤ 3 ∧ 1 ≤ x.f3 ∧ x.f3 ≤ 9 ∧ 0 ≤ x.f4 ∧ x.f4 < x.f5 ∧ x.f5 ≤ 240)
theorem l1In_f (a b c : Int) : spec_l1In.f a b c = some (decide (b ≤ a ∧ a ≤ c)) := by
  unfold spec_l1In.f
  by_cases h1 : a ≥ b <;> by_cases h2 : a ≤ c <;> simp [h1, h2] <;> omega
theorem l14Good_f (x : S25) : spec_l14Good.f x.f0 x.f1 x.f2 x.f3 x.f4 x.f5 = some (okW x) := by
  unfold spec_l14Good.f okW
  simp only [l1In_f, Option.bind_some, decide_eq_true_eq]
  repeat' split
  all_goals (congr 1; first | (apply decide_eq_decide.2; unfold wrap64; omega) | (symm; apply decide_eq_false; omega))
theorem isValidW_f (x : S25) : impl_IsValidWarning.f x.f0 x.f1 x.f2 x.f3 x.f4 x.f5 = some (okW x) := by
  unfold impl_IsValidWarning.f okW
  simp only [within_f, Option.bind_some, decide_eq_true_eq]
  repeat' split
  all_goals (congr 1; first | (apply decide_eq_decide.2; omega) | (symm; apply decide_eq_false; omega))
def meetB (a b : S25) : Bool := decide (a.f1 = b.f1) && (decide (a.f3 = b.f3) && (decide (a.f4 < b.f5) && decide (b.f4 < a.f5)))
theorem l14Meet_f (a b : S25) : spec_l14Meet.f a.f0 a.f1 a.f2 a.f3 a.f4 a.f5 b.f0 b.f1 b.f2 b.f3 b.f4 b.f5 = some (meetB a b) := by
  unfold spec_l14Meet.f meetB
  by_cases h1 : a.f1 = b.f1 <;> by_cases h2 : a.f3 = b.f3 <;> by_cases h3 : a.f4 < b.f5 <;> simp [h1, h2, h3]
theorem meetB_comm (a b : S25) : meetB a b = meetB b a := by
  unfold meetB
  rw [Bool.eq_iff_iff]
  simp only [Bool.and_eq_true, decide_eq_true_eq]
  constructor <;> (rintro ⟨h1, h2, h3, h4⟩; exact ⟨h1.symm, h2.symm, h4, h3⟩)
theorem rdW (l : List S25) (i : Nat) : rd_T25 l (i : Int) = l.getD i z25 := rfl

/-- The warning at place i is valid and its number is greater than the one before. -/
def stepB (l : List S25) (i : Nat) : Bool := okW (l.getD i z25) && (i == 0 || decide ((l.getD (i - 1) z25).f0 < (l.getD i z25).f0))
def clearB (l : List S25) (i : Nat) : Bool := !((l.take i).any fun o => meetB (l.getD i z25) o)
/-- A consistent list of warnings. -/
def consB (l : List S25) : Bool := decide (l.length ≤ 12) && decide (∀ j, j < l.length → (stepB l j && clearB l j) = true)

theorem any_take (l : List S25) (q : S25 → Bool) (i : Nat) (hi : i ≤ l.length) : (l.take i).any q = decide (∃ j, j < i ∧ q (l.getD j z25) = true) := by
  rw [Bool.eq_iff_iff, List.any_eq_true, decide_eq_true_eq]
  constructor
  · rintro ⟨x, hx, hq⟩
    obtain ⟨j, hj, rfl⟩ := List.getElem_of_mem hx
    have hj' : j < i := by rw [List.length_take] at hj; omega
    refine ⟨j, hj', ?_⟩
    rw [getD_lt l _ j (by omega)]
    simpa using hq
  · rintro ⟨j, hj, hq⟩
    refine ⟨l.getD j z25, ?_, hq⟩
    rw [getD_lt l _ j (by omega)]
    exact List.mem_take_iff_getElem.2 ⟨j, by omega, rfl⟩

/-- The inner loop of the reference: does a warning before place i meet it? -/
theorem ev_l14_l1 (l : List S25) (hl : l.length ≤ 12) (i : Nat) (hi : i < l.length) (r : Bool) (hr : Ev (fun k => spec_l14List.l0 k l ((i + 1 : Nat) : Int)) r) :
    Ev (fun k => spec_l14List.l1 k l (i : Int) 0) (if clearB l i = true then r else false) := by
  have key := ev_run (fun k (_ : Unit) j => spec_l14List.l1 k l (i : Int) j) i (fun j _ => if (!(meetB (l.getD j z25) (l.getD i z25))) = true then .inr () else .inl false) (fun _ => r) (fun _ _ => True)
    (by
      intro j s b hj _ h
      have hm : meetB (l.getD j z25) (l.getD i z25) = true := by
        cases hm : meetB (l.getD j z25) (l.getD i z25)
        · rw [hm] at h; simp at h
        · rfl
      have hb : b = false := by rw [hm] at h; simp at h; exact h
      subst hb
      refine Ev.eq_now fun k => ?_
      simp only [spec_l14List.l1]
      rw [if_pos (by omega), if_pos (by omega), if_pos (by omega), if_pos (by omega), if_pos (by omega), rdW, rdW, l14Meet_f, hm]
      rfl)
    (by
      intro j s s' r' hj _ h
      have hm : meetB (l.getD j z25) (l.getD i z25) = false := by
        cases hm : meetB (l.getD j z25) (l.getD i z25)
        · rfl
        · rw [hm] at h; simp at h
      refine ⟨trivial, fun he => ?_⟩
      refine Ev.congr (fun k => ?_) he
      simp only [spec_l14List.l1]
      rw [if_pos (by omega), if_pos (by omega), if_pos (by omega), if_pos (by omega), if_pos (by omega), rdW, rdW, l14Meet_f, hm, wrapS j (by omega)]
      rfl)
    (by
      intro s _
      refine Ev.congr (fun k => ?_) hr
      simp only [spec_l14List.l1]
      rw [if_neg (by omega), wrapS i (by omega)])
    i 0 () (by omega) trivial
  rw [run_all (fun j => !(meetB (l.getD j z25) (l.getD i z25))) false r i i 0 (by omega)] at key
  have e : (∀ j, j < i → 0 ≤ j → (!(meetB (l.getD j z25) (l.getD i z25))) = true) ↔ clearB l i = true := by
    unfold clearB
    rw [any_take l _ i (by omega)]
    simp only [Bool.not_eq_true', decide_eq_false_iff_not, not_exists, not_and, Bool.not_eq_true]
    constructor
    · intro h j hj; rw [meetB_comm]; exact h j hj (Nat.zero_le _)
    · intro h j hj _; rw [meetB_comm]; exact h j hj
  by_cases hc : clearB l i = true
  · rw [if_pos hc]; rw [if_pos (e.2 hc)] at key; exact key
  · rw [if_neg hc]; rw [if_neg (fun h => hc (e.1 h))] at key; exact key

theorem l14_round (l : List S25) (hl : l.length ≤ 12) (i : Nat) (hi : i < l.length) (k : Nat) : spec_l14List.l0 (k + 1) l (i : Int) = spec_l14List.j1 k l (i : Int) (!stepB l i) := by
  simp only [spec_l14List.l0]
  rw [if_pos (by omega), if_pos (by omega), rdW, l14Good_f]
  simp only [Option.bind_some]
  unfold stepB
  cases hg : okW (l.getD i z25) with
  | false => rfl
  | true =>
    rw [if_pos rfl]
    by_cases h0 : i = 0
    · subst h0
      rw [if_neg (by omega)]
      rfl
    · rw [if_pos (by omega), wrapP i (by omega) (by omega), if_pos (by omega), if_pos (by omega), rdW]
      congr 1
      rw [show (i == 0) = false from by simpa using h0]
      by_cases hlt : (l.getD (i - 1) z25).f0 < (l.getD i z25).f0
      · rw [decide_eq_false (by omega), decide_eq_true hlt]; rfl
      · rw [decide_eq_true (by omega), decide_eq_false hlt]; rfl

theorem ev_l14List (l : List S25) : Ev (fun k => spec_l14List.f k l) (consB l) := by
  unfold spec_l14List.f consB
  by_cases hl : l.length ≤ 12
  · refine Ev.congr (f := fun k => spec_l14List.l0 k l ((0 : Nat) : Int)) (fun k => by rw [if_neg (by omega)]; rfl) ?_
    have key := ev_run (fun k (_ : Unit) i => spec_l14List.l0 k l i) l.length (fun j _ => if (stepB l j && clearB l j) = true then .inr () else .inl false) (fun _ => true) (fun _ _ => True)
      (by
        intro i s b hi _ h
        have hm : (stepB l i && clearB l i) = false := by
          cases hm : (stepB l i && clearB l i)
          · rfl
          · rw [hm] at h; simp at h
        have hb : b = false := by rw [hm] at h; simp at h; exact h
        subst hb
        refine Ev.congr (l14_round l hl i hi) (Ev.unr ?_)
        cases hs : stepB l i with
        | false => exact Ev.eq_now fun k => by simp only [spec_l14List.j1]; rfl
        | true =>
          refine Ev.congr (f := fun k => spec_l14List.l1 k l (i : Int) 0) (fun k => by simp only [spec_l14List.j1]; rfl) ?_
          have hc : clearB l i = false := by rw [hs] at hm; simpa using hm
          obtain ⟨K, hK⟩ : ∃ K : Nat, True := ⟨0, trivial⟩
          have key := ev_run (fun k (_ : Unit) j => spec_l14List.l1 k l (i : Int) j) i (fun j _ => if (!(meetB (l.getD j z25) (l.getD i z25))) = true then .inr () else .inl false) (fun _ => false) (fun j _ => ∃ q, j ≤ q ∧ q < i ∧ meetB (l.getD q z25) (l.getD i z25) = true)
            (by
              intro j s b hj _ h
              have hm : meetB (l.getD j z25) (l.getD i z25) = true := by
                cases hm : meetB (l.getD j z25) (l.getD i z25)
                · rw [hm] at h; simp at h
                · rfl
              have hb : b = false := by rw [hm] at h; simp at h; exact h
              subst hb
              refine Ev.eq_now fun k => ?_
              simp only [spec_l14List.l1]
              rw [if_pos (by omega), if_pos (by omega), if_pos (by omega), if_pos (by omega), if_pos (by omega), rdW, rdW, l14Meet_f, hm]
              rfl)
            (by
              intro j s s' r' hj hI h
              have hm : meetB (l.getD j z25) (l.getD i z25) = false := by
                cases hm : meetB (l.getD j z25) (l.getD i z25)
                · rfl
                · rw [hm] at h; simp at h
              obtain ⟨q, h1, h2, h3⟩ := hI
              refine ⟨⟨q, ?_, h2, h3⟩, fun he => ?_⟩
              · have : q ≠ j := by rintro rfl; rw [hm] at h3; cases h3
                omega
              refine Ev.congr (fun k => ?_) he
              simp only [spec_l14List.l1]
              rw [if_pos (by omega), if_pos (by omega), if_pos (by omega), if_pos (by omega), if_pos (by omega), rdW, rdW, l14Meet_f, hm, wrapS j (by omega)]
              rfl)
            (by
              rintro s ⟨q, h1, h2, _⟩
              omega)
            i 0 () (by omega) (by
              unfold clearB at hc
              rw [any_take l _ i (by omega)] at hc
              simp only [Bool.not_eq_false', decide_eq_true_eq] at hc
              obtain ⟨q, h1, h2⟩ := hc
              exact ⟨q, Nat.zero_le _, h1, by rw [meetB_comm]; exact h2⟩)
          have hv : run (fun j (_ : Unit) => if (!(meetB (l.getD j z25) (l.getD i z25))) = true then .inr () else .inl false) (fun _ => false) i 0 () = false :=
            run_inv (n := i) (fun _ _ => True) (fun b => b = false) (fun j s b _ _ h => by
              split at h
              · cases h
              · exact (Sum.inl.inj h).symm) (fun _ _ _ _ _ _ => trivial) (fun _ _ => rfl) i 0 () (by omega) trivial
          rw [hv] at key
          exact key)
      (by
        intro i s s' r hi _ h
        have hm : stepB l i = true ∧ clearB l i = true := by
          cases h1 : stepB l i <;> cases h2 : clearB l i <;> simp [h1, h2] at h <;> simp
        refine ⟨trivial, fun he => Ev.congr (l14_round l hl i hi) (Ev.unr ?_)⟩
        rw [hm.1]
        refine Ev.congr (f := fun k => spec_l14List.l1 k l (i : Int) 0) (fun k => by simp only [spec_l14List.j1]; rfl) ?_
        have key := ev_l14_l1 l hl i hi r he
        rw [if_pos hm.2] at key
        exact key)
      (by
        intro s _
        refine Ev.eq_now fun k => ?_
        simp only [spec_l14List.l0]
        rw [if_neg (by omega)])
      l.length 0 () (by omega) trivial
    rw [run_all (fun j => stepB l j && clearB l j) false true l.length l.length 0 (by omega)] at key
    rw [decide_eq_true hl, Bool.true_and]
    by_cases hp : ∀ j, j < l.length → (stepB l j && clearB l j) = true
    · rw [decide_eq_true hp]
      rw [if_pos (fun j hj _ => hp j hj)] at key
      exact key
    · rw [decide_eq_false hp]
      rw [if_neg (fun h => hp (fun j hj => h j hj (Nat.zero_le _)))] at key
      exact key
  · refine Ev.eq_now fun k => ?_
    rw [if_pos (by omega), decide_eq_false hl]
    rfl

end Go.Proofs.YtjgkinpjjbgcpaaDoor.Q
/- Drawn warnings: each draw comes to an end. -/
namespace Go.Proofs.YtjgkinpjjbgcpaaDoor.Q
open Go.RowKit Go.Proofs.YtjgkinpjjbgcpaaDoorW.PrintWords Go.Proofs.YtjgkinpjjbgcpaaDoor.Gen
set_option linter.unusedVariables false
set_option linter.unusedSimpArgs false
theorem warning_j0 {l : List Int} (h : Cod l) (s q : Int) (h0 : 0 ≤ s) (h1 : s ≤ 999999100) (x7 a b c d e f : Int) : ∃ a' b' c' d' e' f' s' q', Ev (fun k => spec_l1Cur_warning.j0 k x7 l s q a b c d e f) (a', b', c', d', e', f', s', q') ∧ s ≤ s' ∧ s' ≤ s + 2 := by
  by_cases c0 : x7 = 0
  · obtain ⟨y, s8, q8, e8, _, u8, v8⟩ := among_ok h s q (by omega) (by omega) [0, 999, 1000] (by simp)
    refine ⟨y, b, c, d, e, f, s8, q8, Ev.unr (Ev.eq_now fun k => ?_), u8, v8⟩
    simp only [spec_l1Cur_warning.j0, e8, Option.bind_some]
    rw [if_pos c0]
  · by_cases c1 : x7 = 1
    · obtain ⟨y, s8, q8, e8, _, u8, v8⟩ := among_ok h s q (by omega) (by omega) [0, 5, 6] (by simp)
      refine ⟨a, y, c, d, e, f, s8, q8, Ev.unr (Ev.eq_now fun k => ?_), u8, v8⟩
      simp only [spec_l1Cur_warning.j0, e8, Option.bind_some]
      rw [if_neg c0, if_pos c1]
    · by_cases c2 : x7 = 2
      · obtain ⟨y, s8, q8, e8, _, u8, v8⟩ := among_ok h s q (by omega) (by omega) [0, 4] (by simp)
        refine ⟨a, b, y, d, e, f, s8, q8, Ev.unr (Ev.eq_now fun k => ?_), u8, v8⟩
        simp only [spec_l1Cur_warning.j0, e8, Option.bind_some]
        rw [if_neg c0, if_neg c1, if_pos c2]
      · by_cases c3 : x7 = 3
        · obtain ⟨y, s8, q8, e8, _, u8, v8⟩ := among_ok h s q (by omega) (by omega) [0, 9, 10] (by simp)
          refine ⟨a, b, c, y, e, f, s8, q8, Ev.unr (Ev.eq_now fun k => ?_), u8, v8⟩
          simp only [spec_l1Cur_warning.j0, e8, Option.bind_some]
          rw [if_neg c0, if_neg c1, if_neg c2, if_pos c3]
        · by_cases c4 : x7 = 4
          · obtain ⟨y, s8, q8, e8, _, u8, v8⟩ := among_ok h s q (by omega) (by omega) [e, 240, 241] (by simp)
            refine ⟨a, b, c, d, e, y, s8, q8, Ev.unr (Ev.eq_now fun k => ?_), u8, v8⟩
            simp only [spec_l1Cur_warning.j0, e8, Option.bind_some]
            rw [if_neg c0, if_neg c1, if_neg c2, if_neg c3, if_pos c4]
          · refine ⟨a, b, c, d, e, f, s, q, Ev.unr (Ev.eq_now fun k => ?_), by omega, by omega⟩
            simp only [spec_l1Cur_warning.j0]
            rw [if_neg c0, if_neg c1, if_neg c2, if_neg c3, if_neg c4]
theorem warning_ok {l : List Int} (h : Cod l) (s q : Int) (h0 : 0 ≤ s) (h1 : s ≤ 999999000) : ∃ a b c d e f s' q', Ev (fun k => spec_l1Cur_warning.f k l s q) (a, b, c, d, e, f, s', q') ∧ s ≤ s' ∧ s' ≤ s + 16 := by
  unfold spec_l1Cur_warning.f
  obtain ⟨x1, s1, q1, e1, _, _, u1, v1⟩ := pick_ok h s q h0 (by omega) 30
  obtain ⟨x2, s2, q2, e2, _, _, u2, v2⟩ := pick_ok h s1 q1 (by omega) (by omega) 9
  obtain ⟨x3, s3, q3, e3, _, _, u3, v3⟩ := pick_ok h s2 q2 (by omega) (by omega) 3
  obtain ⟨x4, s4, q4, e4, _, _, u4, v4⟩ := pick_ok h s3 q3 (by omega) (by omega) 3
  obtain ⟨x5, s5, q5, e5, _, _, u5, v5⟩ := pick_ok h s4 q4 (by omega) (by omega) 3
  obtain ⟨x6, s6, q6, e6, _, _, u6, v6⟩ := pick_ok h s5 q5 (by omega) (by omega) 12
  obtain ⟨x7, s7, q7, e7, _, _, u7, v7⟩ := pick_ok h s6 q6 (by omega) (by omega) 24
  simp only [e1, e2, e3, e4, e5, e6, e7, Option.bind_some]
  obtain ⟨a, b, c, d, e, f, s8, q8, e8, u8, v8⟩ := warning_j0 h s7 q7 (by omega) (by omega) x7 (wrap64 (1 + x2)) (wrap64 (1 + x3)) (wrap64 (1 + x4)) (wrap64 (1 + x5)) x1 (wrap64 ((wrap64 (x1 + 1)) + x6))
  exact ⟨a, b, c, d, e, f, s8, q8, e8, by omega, by omega⟩
theorem warnings_l1 {l : List Int} (h : Cod l) : ∀ (d n : Nat) (x : List S25) (s q : Int), n + d = 14 → 0 ≤ s → s + 2 * (d + 1 : Nat) ≤ 999999000 → x.length + d ≤ 1000 → ∃ L s' q', Ev (fun k => spec_l1Cur_warnings.l1 k x (n : Int) l s q) (L, s', q') ∧ L.length ≤ x.length + d ∧ s ≤ s' ∧ s' ≤ s + 2 * (d + 1 : Nat) := by
  intro d
  induction d with
  | zero =>
    intro n x s q hn h0 h1 hx
    obtain ⟨y, s1, q1, e1, _, _, u1, v1⟩ := pick_ok h s q h0 (by omega) 2
    refine ⟨x, s1, q1, Ev.unr (Ev.eq_now fun k => ?_), by omega, by omega, by omega⟩
    simp only [spec_l1Cur_warnings.l1, e1, Option.bind_some]
    by_cases c : (x.length : Int) < wrap64 (12 + y)
    · rw [if_pos c, if_neg (by omega)]
    · rw [if_neg c]
  | succ d ih =>
    intro n x s q hn h0 h1 hx
    obtain ⟨y, s1, q1, e1, _, _, u1, v1⟩ := pick_ok h s q h0 (by omega) 2
    by_cases c : (x.length : Int) < wrap64 (12 + y)
    · obtain ⟨L, s2, q2, e2, hL, u2, v2⟩ := ih (n + 1) (x ++ [(⟨wrap64 (100 + (n : Int)), 5, 1, 9, wrap64 (10 * (n : Int)), wrap64 ((wrap64 (10 * (n : Int))) + 5)⟩ : S25)]) s1 q1 (by omega) (by omega) (by omega) (by simp; omega)
      refine ⟨L, s2, q2, Ev.unr ?_, by simp at hL; omega, by omega, by omega⟩
      simp only [spec_l1Cur_warnings.l1, e1, Option.bind_some]
      refine Ev.congr (fun k => if_pos c) ?_
      refine Ev.congr (fun k => if_pos (by omega)) ?_
      refine Ev.congr (fun k => if_pos (by simp; omega)) ?_
      rw [wrapS n (by omega)]
      exact e2
    · refine ⟨x, s1, q1, Ev.unr (Ev.eq_now fun k => ?_), by omega, by omega, by omega⟩
      simp only [spec_l1Cur_warnings.l1, e1, Option.bind_some]
      rw [if_neg c]
theorem warnings_l0 {l : List Int} (h : Cod l) : ∀ (n : Nat) (x : List S25) (i s q : Int), 0 ≤ s → s + 40 * (n : Int) + 40 ≤ 999999000 → x.length + n ≤ 900 → ∃ L s' q', Ev (fun k => spec_l1Cur_warnings.l0 k x i (n : Int) l s q) (L, s', q') ∧ L.length ≤ x.length + n + 14 ∧ s ≤ s' ∧ s' ≤ s + 40 * (n : Int) + 40 := by
  intro n
  induction n with
  | zero =>
    intro x i s q h0 h1 hx
    obtain ⟨y, s1, q1, e1, _, _, u1, v1⟩ := pick_ok h s q h0 (by omega) 24
    by_cases c0 : y = 0
    · obtain ⟨a, b, c, d, e, f, s2, q2, e2, u2, v2⟩ := warning_ok h s1 q1 (by omega) (by omega)
      refine ⟨x ++ [(⟨a, b, c, d, e, f⟩ : S25)], s2, q2, Ev.unr ?_, by simp, by omega, by omega⟩
      simp only [spec_l1Cur_warnings.l0, e1, Option.bind_some]
      refine Ev.congr (fun k => (if_neg (by omega)).trans (if_pos c0)) (Ev.bind (f := fun k t => _) e2 ?_)
      exact Ev.congr (fun k => if_pos (by simp; omega)) (Ev.now _)
    · by_cases c1 : y = 1
      · obtain ⟨L, s2, q2, e2, hL, u2, v2⟩ := warnings_l1 h 14 0 x s1 q1 (by omega) (by omega) (by omega) (by omega)
        refine ⟨L, s2, q2, Ev.unr ?_, by omega, by omega, by omega⟩
        simp only [spec_l1Cur_warnings.l0, e1, Option.bind_some]
        exact Ev.congr (fun k => by rw [if_neg (by omega), if_neg c0, if_pos c1]; rfl) e2
      · refine ⟨x, s1, q1, Ev.unr (Ev.eq_now fun k => ?_), by omega, by omega, by omega⟩
        simp only [spec_l1Cur_warnings.l0, e1, Option.bind_some]
        rw [if_neg (by omega), if_neg c0, if_neg c1]
  | succ n ih =>
    intro x i s q h0 h1 hx
    obtain ⟨a, b, c, d, e, f, s2, q2, e2, u2, v2⟩ := warning_ok h s q h0 (by omega)
    obtain ⟨y, s1, q1, e1, _, _, u1, v1⟩ := pick_ok h s2 q2 (by omega) (by omega) 2
    have key : ∀ z : List S25, z.length ≤ x.length + 1 → ∃ L s' q', Ev (fun k => spec_l1Cur_warnings.l0 k z (wrap64 ((wrap64 (i + 1)) + y)) (n : Int) l s1 q1) (L, s', q') ∧ L.length ≤ x.length + (n + 1) + 14 ∧ s ≤ s' ∧ s' ≤ s + 40 * ((n + 1 : Nat) : Int) + 40 := fun z hz => by
      obtain ⟨L, s3, q3, e3, hL, u3, v3⟩ := ih z (wrap64 ((wrap64 (i + 1)) + y)) s1 q1 (by omega) (by omega) (by omega)
      exact ⟨L, s3, q3, e3, by omega, by omega, by omega⟩
    have hn : wrap64 (((n + 1 : Nat) : Int) - 1) = (n : Int) := by unfold wrap64; omega
    have nx : ∀ (z : List S25) (b' : Bool), z = x ++ [(⟨wrap64 ((wrap64 (i + 1)) + y), b, c, d, e, f⟩ : S25)] → b' = consB z → ∃ L s' q', Ev (fun k => spec_l1Cur_warnings.j1 k x (wrap64 ((wrap64 (i + 1)) + y)) ((n + 1 : Nat) : Int) z b' l s1 q1) (L, s', q') ∧ L.length ≤ x.length + (n + 1) + 14 ∧ s ≤ s' ∧ s' ≤ s + 40 * ((n + 1 : Nat) : Int) + 40 := by
      intro z b' hz _
      cases b' with
      | true =>
        obtain ⟨L, s3, q3, e3, hL, u3, v3⟩ := key z (by rw [hz]; simp)
        refine ⟨L, s3, q3, Ev.unr ?_, hL, u3, v3⟩
        simp only [spec_l1Cur_warnings.j1, hn]
        exact Ev.congr (fun k => if_pos (by trivial)) e3
      | false =>
        obtain ⟨L, s3, q3, e3, hL, u3, v3⟩ := key x (by omega)
        refine ⟨L, s3, q3, Ev.unr ?_, hL, u3, v3⟩
        simp only [spec_l1Cur_warnings.j1, hn]
        exact Ev.congr (fun k => if_neg (by simp)) e3
    obtain ⟨L, s3, q3, e3, hL, u3, v3⟩ := nx _ _ rfl rfl
    refine ⟨L, s3, q3, Ev.unr ?_, hL, u3, v3⟩
    simp only [spec_l1Cur_warnings.l0]
    refine Ev.congr (fun k => if_pos (by omega)) (Ev.bind (f := fun k t => _) e2 ?_)
    simp only [e1, Option.bind_some, List.nil_append, List.length_nil]
    refine Ev.congr (fun k => if_pos (by omega)) ?_
    refine Ev.congr (fun k => if_pos (by simp; omega)) ?_
    refine Ev.bind (f := fun k t => _) (ev_l14List _) ?_
    exact e3
theorem warnings_ok {l : List Int} (h : Cod l) (s q : Int) (h0 : 0 ≤ s) (h1 : s ≤ 999990000) : ∃ L s' q', Ev (fun k => spec_l1Cur_warnings.f k l s q) (L, s', q') ∧ L.length ≤ 30 ∧ s ≤ s' ∧ s' ≤ s + 1000 := by
  obtain ⟨y, s1, q1, e1, y0, y1, u1, v1⟩ := pick_ok h s q h0 (by omega) 7
  obtain ⟨n, rfl⟩ : ∃ n : Nat, y = (n : Int) := ⟨y.toNat, by omega⟩
  obtain ⟨L, s2, q2, e2, hL, u2, v2⟩ := warnings_l0 h n [] 0 s1 q1 (by omega) (by omega) (by simp; omega)
  refine ⟨L, s2, q2, ?_, by simp at hL; omega, by omega, by omega⟩
  unfold spec_l1Cur_warnings.f
  rw [e1]
  exact e2
/- Drawn warnings and texts: each draw comes to an end. -/
theorem ext_sz (a : ByteArray) (i j : Nat) : (a.extract i j).size = min j a.size - i := ByteArray.size_extract
theorem tl_nil (a : ByteArray) (h : a.size = 0) : a = (⟨#[]⟩ : ByteArray) := by
  apply ba_ext
  have : a.data.size = 0 := h
  rw [Array.size_eq_zero_iff] at this
  rw [this]
theorem spoilt_ok {l : List Int} (h : Cod l) (s q : Int) (h0 : 0 ≤ s) (h1 : s ≤ 999990000) (a c : ByteArray) (ha : a.size ≤ 1000000) (hc : 0 < c.size) (hc2 : c.size ≤ 100) : ∃ r s' q', spec_l1Cur_spoilt.f l s q a c = some (r, s', q') := by
  unfold spec_l1Cur_spoilt.f
  by_cases he : a.toList = ([] : List UInt8)
  · rw [if_pos he, if_pos (by omega)]
    exact ⟨_, _, _, rfl⟩
  · have hap : 0 < a.size := by
      rcases Nat.eq_zero_or_pos a.size with h | h
      · exfalso
        apply he
        rw [Ov.tlD]
        exact List.length_eq_zero_iff.1 (by rw [Array.length_toList]; exact h)
      · exact h
    obtain ⟨i, s1, q1, e1, i0, i1, u1, v1⟩ := pick_ok h s q h0 (by omega) (a.size : Int)
    obtain ⟨j, s2, q2, e2, j0, j1, u2, v2⟩ := pick_ok h s1 q1 (by omega) (by omega) (c.size : Int)
    obtain ⟨x, s3, q3, e3, x0, x1, u3, v3⟩ := pick_ok h s2 q2 (by omega) (by omega) 3
    rw [if_neg he, e1, Option.bind_some]
    dsimp only
    rw [e2, Option.bind_some]
    dsimp only
    rw [e3, Option.bind_some]
    dsimp only
    rw [if_pos ⟨i0, by omega, j0, by omega, by omega, by omega⟩]
    exact ⟨_, _, _, rfl⟩
theorem drawWText_ok {l : List Int} (h : Cod l) : ∃ a b c d e f, Ev (fun k => spec_DrawWarningText.f k l) (a, b, c, d, e, f) := by
  unfold spec_DrawWarningText.f
  obtain ⟨a, b, c, d, e, f, s2, q2, e2, u2, v2⟩ := warning_ok h 0 0 (by omega) (by omega)
  exact ⟨a, b, c, d, e, f, Ev.bind (f := fun k t => _) e2 (Ev.now _)⟩
theorem drawShort_ok {l : List Int} (h : Cod l) : ∃ a b c d e f, Ev (fun k => spec_DrawShortWarning.f k l) (a, b, c, d, e, f) := by
  unfold spec_DrawShortWarning.f
  obtain ⟨a, b, c, d, e, f, e2⟩ := drawWText_ok h
  exact ⟨a, b, c, d, e, f, Ev.bind (f := fun k t => _) e2 (Ev.now _)⟩
theorem drawDur_ok {l : List Int} (h : Cod l) : ∃ a b c d e f, Ev (fun k => spec_DrawDurationText.f k l) (a, b, c, d, e, f) := by
  unfold spec_DrawDurationText.f
  obtain ⟨a, b, c, d, e, f, s2, q2, e2, u2, v2⟩ := warning_ok h 0 0 (by omega) (by omega)
  obtain ⟨t, s3, q3, e3, u3, v3⟩ := one_ok h s2 q2 (by omega) (by omega) 2
  obtain ⟨x, s4, q4, e4, _, u4, v4⟩ := among_ok h s3 q3 (by omega) (by omega) [1, 2, 24, 25, 26, 48, 49, 50] (by decide)
  cases t with
  | true => exact ⟨a, b, c, d, e, wrap64 (e + x), Ev.bind (f := fun k t => _) e2 (Ev.eq_now fun k => by dsimp only; rw [e3, Option.bind_some, if_pos rfl]; dsimp only; rw [e4, Option.bind_some])⟩
  | false => exact ⟨a, b, c, d, e, f, Ev.bind (f := fun k t => _) e2 (Ev.eq_now fun k => by dsimp only; rw [e3, Option.bind_some, if_neg (by simp)])⟩
theorem drawHead_ok {l : List Int} (h : Cod l) : ∃ L : List S25, Ev (fun k => spec_DrawHeadlineOf.f k l) L ∧ L.length ≤ 30 := by
  obtain ⟨L, s1, q1, e1, hL, u1, v1⟩ := warnings_ok h 0 0 (by omega) (by omega)
  refine ⟨L, ?_, hL⟩
  unfold spec_DrawHeadlineOf.f spec_DrawOverviewText.f
  exact Ev.bind (f := fun k t => _) (Ev.bind (f := fun k t => _) e1 (Ev.now _)) (Ev.now _)
theorem drawPH_ok {l : List Int} (h : Cod l) : ∃ t, Ev (fun k => spec_DrawParseHour.f k l) t := by
  unfold spec_DrawParseHour.f
  obtain ⟨x, s1, q1, e1, x0, x1, u1, v1⟩ := pick_ok h 0 0 (by omega) (by omega) 241
  obtain ⟨x, rfl⟩ : ∃ n : Nat, x = (n : Int) := ⟨x.toNat, by omega⟩
  obtain ⟨t, s2, q2, e2, u2, v2⟩ := one_ok h s1 q1 (by omega) (by omega) 3
  have hz := hourS_size x (by omega)
  obtain ⟨r, s3, q3, e3⟩ := spoilt_ok h s2 q2 (by omega) (by omega) (hourS x) (⟨#[100, 97, 121, 32, 48, 58, 44]⟩ : ByteArray) (by omega) (by decide) (by decide)
  have eh := ev_specHour x (by omega)
  cases t with
  | true => exact ⟨r, Ev.bind (f := fun k t => _) (Ev.eq_now fun k => e1) (Ev.bind (f := fun k t => _) eh (Ev.eq_now fun k => by dsimp only; rw [e2, Option.bind_some, if_pos rfl]; dsimp only; rw [e3, Option.bind_some]))⟩
  | false => exact ⟨hourS x, Ev.bind (f := fun k t => _) (Ev.eq_now fun k => e1) (Ev.bind (f := fun k t => _) eh (Ev.eq_now fun k => by dsimp only; rw [e2, Option.bind_some, if_neg (by simp)]))⟩
end Go.Proofs.YtjgkinpjjbgcpaaDoor.Q
/- Short forms, durations and headlines are those of the model, and only an overview without warnings has no level: for every drawn input. -/
set_option linter.unusedVariables false
set_option linter.unusedSimpArgs false
namespace Go.Proofs.YtjgkinpjjbgcpaaDoor.Q
open Go.RowKit Go.Proofs.YtjgkinpjjbgcpaaDoorW.PrintWords Go.Proofs.YtjgkinpjjbgcpaaDoor.Gen
theorem tl_pos {b : ByteArray} (h : 0 < b.size) : (b.toList == ([] : List UInt8)) = false := by
  rw [Ov.tlD, beq_eq_false_iff_ne]
  intro e
  have : b.data.toList.length = 0 := by rw [e]; rfl
  rw [Array.length_toList] at this
  have h2 : b.data.size = b.size := rfl
  omega
theorem manyS_pos (n : Nat) (s : ByteArray) : 0 < (manyS n s).size := by
  unfold manyS
  split
  · rw [ba_size_app, szB2]; omega
  · rw [ba_size_app, szB3]; omega
theorem durS_pos (n : Nat) : 0 < (durS n).size := by
  unfold durS
  split
  · exact manyS_pos _ _
  · split
    · exact manyS_pos _ _
    · rw [ba_size_app]
      have := manyS_pos (n % 24) sHourW
      omega
theorem dur_full (a b c d e f : Int) : (durR a b c d e f).2 = true → ((durR a b c d e f).1.toList == ([] : List UInt8)) = false := by
  unfold durR
  split
  · exact fun _ => tl_pos (durS_pos _)
  · exact fun h => by cases h
theorem level_first (m : Int) (h1 : 1 ≤ m) (h2 : m ≤ 3) (r : List UInt8) : ((wordS levelT m).data.toList ++ r == ([78, 111, 32, 119, 97, 114, 110, 105, 110, 103, 115] : List UInt8)) = false := by
  have : m = 1 ∨ m = 2 ∨ m = 3 := by omega
  rcases this with rfl | rfl | rfl <;> rfl
theorem head_none (L : List S25) : (Ov.headR L).2 = true → (((Ov.headR L).1.toList == ([78, 111, 32, 119, 97, 114, 110, 105, 110, 103, 115] : List UInt8)) != ((L.length : Int) == 0)) = false := by
  unfold Ov.headR
  split
  · rename_i ho
    obtain ⟨_, hok⟩ := Ov.over_ok ho
    split
    · rename_i hz
      intro _
      rw [hz, Ov.tlD]
      rfl
    · rename_i hz
      intro _
      have hl := Ov.lvN_le hok L.length (Nat.le_refl _)
      dsimp only
      rw [Ov.tlD, ba_app, ba_app, List.append_assoc, level_first _ (hl.2.2 (by omega)) hl.2.1, show ((L.length : Int) == 0) = false from beq_eq_false_iff_ne.2 (by omega)]
      rfl
  · exact fun h => by cases h
theorem short_j3 {l : List Int} (hc : Cod l) : Ev (fun k => laws_FnShortTexts.j3 k l false) true := by
  obtain ⟨t, e⟩ := drawPH_ok hc
  refine Ev.unr ?_
  simp only [laws_FnShortTexts.j3]
  refine Ev.congr (fun k => if_neg (by decide)) ?_
  refine Ev.bind (f := fun k t => _) e ?_
  refine Ev.bind (f := fun k t => _) (ev_implParse t) ?_
  refine Ev.bind (f := fun k t => _) (ev_specParse t) ?_
  exact Ev.congr (fun k => if_pos rfl) (Ev.eq_now fun k => by rw [beq_self_eq_true])
theorem short_j1 {l : List Int} (hc : Cod l) : Ev (fun k => laws_FnShortTexts.j1 k l false) true := by
  obtain ⟨L, e, hL⟩ := drawHead_ok hc
  refine Ev.unr ?_
  simp only [laws_FnShortTexts.j1]
  refine Ev.congr (fun k => if_neg (by decide)) ?_
  refine Ev.bind (f := fun k t => _) e ?_
  refine Ev.bind (f := fun k t => _) (Ov.ev_implHead L (by omega)) ?_
  refine Ev.bind (f := fun k t => _) (Ov.ev_specHead L (by omega)) ?_
  refine Ev.congr (fun k => if_pos rfl) ?_
  have hn := head_none L
  generalize Ov.headR L = v at hn
  obtain ⟨s, b⟩ := v
  rw [bne_self_eq_false]
  refine Ev.unr ?_
  simp only [laws_FnShortTexts.j2]
  refine Ev.congr (fun k => if_neg (by decide)) ?_
  cases b with
  | true =>
    have := hn rfl
    dsimp only at this ⊢
    rw [this]
    exact Ev.congr (fun k => if_pos rfl) (short_j3 hc)
  | false => exact Ev.congr (fun k => if_neg (by simp)) (short_j3 hc)
theorem short_j0 {l : List Int} (hc : Cod l) : Ev (fun k => laws_FnShortTexts.j0 k l false) true := by
  obtain ⟨a, b, c, d, e, f, hd⟩ := drawDur_ok hc
  refine Ev.unr ?_
  simp only [laws_FnShortTexts.j0]
  refine Ev.congr (fun k => if_neg (by decide)) ?_
  refine Ev.bind (f := fun k t => _) hd ?_
  refine Ev.bind (f := fun k t => _) (ev_implDur a b c d e f) ?_
  refine Ev.bind (f := fun k t => _) (ev_specDur a b c d e f) ?_
  refine Ev.congr (fun k => if_pos rfl) ?_
  have hn := dur_full a b c d e f
  generalize durR a b c d e f = v at hn
  obtain ⟨s, y⟩ := v
  rw [bne_self_eq_false]
  refine Ev.congr (fun k => if_neg (by decide)) ?_
  cases y with
  | true =>
    have := hn rfl
    dsimp only at this ⊢
    rw [this]
    exact Ev.congr (fun k => if_pos rfl) (short_j1 hc)
  | false => exact Ev.congr (fun k => if_neg (by simp)) (short_j1 hc)
end Go.Proofs.YtjgkinpjjbgcpaaDoor.Q
namespace Go.Proofs.YtjgkinpjjbgcpaaDoor.Pure
open Go.RowKit Go.Proofs.YtjgkinpjjbgcpaaDoorW.PrintWords Go.Proofs.YtjgkinpjjbgcpaaDoor.Tells Go.Proofs.YtjgkinpjjbgcpaaDoor.Q Go.Proofs.YtjgkinpjjbgcpaaDoor.Gen
theorem FnShortTexts : ∀ (l0 : List Int), l0.length ≤ maxLen → (∀ x ∈ l0, (0 ≤ x ∧ x ≤ 255)) → ∃ k, laws_FnShortTexts.f k l0 = some true := by
  intro l hl hb
  refine Ev.rounds ?_
  unfold laws_FnShortTexts.f laws_rBig.f
  simp only [Option.bind_some, decide_eq_true_eq]
  by_cases hbig : (l.length : Int) > 65536
  · exact Ev.congr (fun k => if_pos hbig) (Ev.now _)
  · refine Ev.congr (fun k => if_neg hbig) ?_
    have hc : Cod l := ⟨by omega, hb⟩
    obtain ⟨a, b, c, d, e, f, hd⟩ := drawShort_ok hc
    refine Ev.bind (f := fun k t => _) hd ?_
    refine Ev.bind (f := fun k t => _) (ev_implSW a b c d e f) ?_
    refine Ev.bind (f := fun k t => _) (ev_specSW a b c d e f) ?_
    refine Ev.congr (fun k => if_pos rfl) ?_
    rw [bne_self_eq_false]
    exact short_j0 hc
end Go.Proofs.YtjgkinpjjbgcpaaDoor.Pure
