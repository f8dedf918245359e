/- Lists of warnings in plain words: which are valid, which lists are consistent; what both programs say of it. -/
import Derived.Test.YtfemneoahkglmaaQf28
import Derived.Test.YtfemneoahkglmaaQf9
import Derived.Test.YtfemneoahkglmaaQf19
import Derived.Test.YtfemneoahkglmaaEv
import Derived.Test.YtfemneoahkglmaaArgs
namespace Go.Proofs.Ytfemneoahkglmaa.Q
open Go.RowKit Go.Proofs.YtfemneoahkglmaaW.PrintWords Go.Proofs.Ytfemneoahkglmaa.Gen Go.Proofs.Ytfemneoahkglmaa.Tells
set_option linter.unusedVariables false
set_option linter.unusedSimpArgs false

def okW (x : S37) : Bool := decide (1 ≤ x.f0 ∧ x.f0 ≤ 999 ∧ 1 ≤ x.f1 ∧ x.f1 ≤ 5 ∧ 1 ≤ x.f2 ∧ x.f2 ≤ 3 ∧ 1 ≤ x.f3 ∧ x.f3 ≤ 9 ∧ 0 ≤ x.f4 ∧ x.f4 < x.f5 ∧ x.f5 ≤ 240)
theorem l1In_f (a b c : Int) : spec_l1In.f a b c = some (decide (b ≤ a ∧ a ≤ c)) := by
  unfold spec_l1In.f
  by_cases h1 : a ≥ b <;> by_cases h2 : a ≤ c <;> simp [h1, h2] <;> omega
theorem l14Good_f (x : S37) : spec_l14Good.f x.f0 x.f1 x.f2 x.f3 x.f4 x.f5 = some (okW x) := by
  unfold spec_l14Good.f okW
  simp only [l1In_f, Option.bind_some, decide_eq_true_eq]
  repeat' split
  all_goals (congr 1; first | (apply decide_eq_decide.2; unfold wrap64; omega) | (symm; apply decide_eq_false; omega))
theorem isValidW_f (x : S37) : impl_IsValidWarning.f x.f0 x.f1 x.f2 x.f3 x.f4 x.f5 = some (okW x) := by
  unfold impl_IsValidWarning.f okW
  simp only [within_f, Option.bind_some, decide_eq_true_eq]
  repeat' split
  all_goals (congr 1; first | (apply decide_eq_decide.2; omega) | (symm; apply decide_eq_false; omega))
theorem l14Meet_f (a b : S37) : spec_l14Meet.f a.f0 a.f1 a.f2 a.f3 a.f4 a.f5 b.f0 b.f1 b.f2 b.f3 b.f4 b.f5 = some (meetB a b) := by
  unfold spec_l14Meet.f meetB
  by_cases h1 : a.f1 = b.f1 <;> by_cases h2 : a.f3 = b.f3 <;> by_cases h3 : a.f4 < b.f5 <;> simp [h1, h2, h3]
theorem meetB_comm (a b : S37) : meetB a b = meetB b a := by
  unfold meetB
  rw [Bool.eq_iff_iff]
  simp only [Bool.and_eq_true, decide_eq_true_eq]
  constructor <;> (rintro ⟨h1, h2, h3, h4⟩; exact ⟨h1.symm, h2.symm, h4, h3⟩)
theorem rdW (l : List S37) (i : Nat) : rd_T37 l (i : Int) = l.getD i z37 := rfl

/-- The warning at place i is valid and its number is greater than the one before. -/
def stepB (l : List S37) (i : Nat) : Bool := okW (l.getD i z37) && (i == 0 || decide ((l.getD (i - 1) z37).f0 < (l.getD i z37).f0))
def clearB (l : List S37) (i : Nat) : Bool := !((l.take i).any fun o => meetB (l.getD i z37) o)
/-- A consistent list of warnings. -/
def consB (l : List S37) : Bool := decide (l.length ≤ 12) && decide (∀ j, j < l.length → (stepB l j && clearB l j) = true)

theorem any_take (l : List S37) (q : S37 → Bool) (i : Nat) (hi : i ≤ l.length) : (l.take i).any q = decide (∃ j, j < i ∧ q (l.getD j z37) = true) := by
  rw [Bool.eq_iff_iff, List.any_eq_true, decide_eq_true_eq]
  constructor
  · rintro ⟨x, hx, hq⟩
    obtain ⟨j, hj, rfl⟩ := List.getElem_of_mem hx
    have hj' : j < i := by rw [List.length_take] at hj; omega
    refine ⟨j, hj', ?_⟩
    rw [getD_lt l _ j (by omega)]
    simpa using hq
  · rintro ⟨j, hj, hq⟩
    refine ⟨l.getD j z37, ?_, hq⟩
    rw [getD_lt l _ j (by omega)]
    exact List.mem_take_iff_getElem.2 ⟨j, by omega, rfl⟩

/-- The inner loop of the reference: does a warning before place i meet it? -/
theorem ev_l14_l1 (l : List S37) (hl : l.length ≤ 12) (i : Nat) (hi : i < l.length) (r : Bool) (hr : Ev (fun k => spec_l14List.l0 k l ((i + 1 : Nat) : Int)) r) :
    Ev (fun k => spec_l14List.l1 k l (i : Int) 0) (if clearB l i = true then r else false) := by
  have key := ev_run (fun k (_ : Unit) j => spec_l14List.l1 k l (i : Int) j) i (fun j _ => if (!(meetB (l.getD j z37) (l.getD i z37))) = true then .inr () else .inl false) (fun _ => r) (fun _ _ => True)
    (by
      intro j s b hj _ h
      have hm : meetB (l.getD j z37) (l.getD i z37) = true := by
        cases hm : meetB (l.getD j z37) (l.getD i z37)
        · rw [hm] at h; simp at h
        · rfl
      have hb : b = false := by rw [hm] at h; simp at h; exact h
      subst hb
      refine Ev.eq_now fun k => ?_
      simp only [spec_l14List.l1]
      rw [if_pos (by omega), if_pos (by omega), if_pos (by omega), if_pos (by omega), if_pos (by omega), rdW, rdW, l14Meet_f, hm]
      rfl)
    (by
      intro j s s' r' hj _ h
      have hm : meetB (l.getD j z37) (l.getD i z37) = false := by
        cases hm : meetB (l.getD j z37) (l.getD i z37)
        · rfl
        · rw [hm] at h; simp at h
      refine ⟨trivial, fun he => ?_⟩
      refine Ev.congr (fun k => ?_) he
      simp only [spec_l14List.l1]
      rw [if_pos (by omega), if_pos (by omega), if_pos (by omega), if_pos (by omega), if_pos (by omega), rdW, rdW, l14Meet_f, hm, wrapS j (by omega)]
      rfl)
    (by
      intro s _
      refine Ev.congr (fun k => ?_) hr
      simp only [spec_l14List.l1]
      rw [if_neg (by omega), wrapS i (by omega)])
    i 0 () (by omega) trivial
  rw [run_all (fun j => !(meetB (l.getD j z37) (l.getD i z37))) false r i i 0 (by omega)] at key
  have e : (∀ j, j < i → 0 ≤ j → (!(meetB (l.getD j z37) (l.getD i z37))) = true) ↔ clearB l i = true := by
    unfold clearB
    rw [any_take l _ i (by omega)]
    simp only [Bool.not_eq_true', decide_eq_false_iff_not, not_exists, not_and, Bool.not_eq_true]
    constructor
    · intro h j hj; rw [meetB_comm]; exact h j hj (Nat.zero_le _)
    · intro h j hj _; rw [meetB_comm]; exact h j hj
  by_cases hc : clearB l i = true
  · rw [if_pos hc]; rw [if_pos (e.2 hc)] at key; exact key
  · rw [if_neg hc]; rw [if_neg (fun h => hc (e.1 h))] at key; exact key

theorem l14_round (l : List S37) (hl : l.length ≤ 12) (i : Nat) (hi : i < l.length) (k : Nat) : spec_l14List.l0 (k + 1) l (i : Int) = spec_l14List.j1 k l (i : Int) (!stepB l i) := by
  simp only [spec_l14List.l0]
  rw [if_pos (by omega), if_pos (by omega), rdW, l14Good_f]
  simp only [Option.bind_some]
  unfold stepB
  cases hg : okW (l.getD i z37) with
  | false => rfl
  | true =>
    rw [if_pos rfl]
    by_cases h0 : i = 0
    · subst h0
      rw [if_neg (by omega)]
      rfl
    · rw [if_pos (by omega), wrapP i (by omega) (by omega), if_pos (by omega), if_pos (by omega), rdW]
      congr 1
      rw [show (i == 0) = false from by simpa using h0]
      by_cases hlt : (l.getD (i - 1) z37).f0 < (l.getD i z37).f0
      · rw [decide_eq_false (by omega), decide_eq_true hlt]; rfl
      · rw [decide_eq_true (by omega), decide_eq_false hlt]; rfl

theorem ev_l14List (l : List S37) : Ev (fun k => spec_l14List.f k l) (consB l) := by
  unfold spec_l14List.f consB
  by_cases hl : l.length ≤ 12
  · refine Ev.congr (f := fun k => spec_l14List.l0 k l ((0 : Nat) : Int)) (fun k => by rw [if_neg (by omega)]; rfl) ?_
    have key := ev_run (fun k (_ : Unit) i => spec_l14List.l0 k l i) l.length (fun j _ => if (stepB l j && clearB l j) = true then .inr () else .inl false) (fun _ => true) (fun _ _ => True)
      (by
        intro i s b hi _ h
        have hm : (stepB l i && clearB l i) = false := by
          cases hm : (stepB l i && clearB l i)
          · rfl
          · rw [hm] at h; simp at h
        have hb : b = false := by rw [hm] at h; simp at h; exact h
        subst hb
        refine Ev.congr (l14_round l hl i hi) (Ev.unr ?_)
        cases hs : stepB l i with
        | false => exact Ev.eq_now fun k => by simp only [spec_l14List.j1]; rfl
        | true =>
          refine Ev.congr (f := fun k => spec_l14List.l1 k l (i : Int) 0) (fun k => by simp only [spec_l14List.j1]; rfl) ?_
          have hc : clearB l i = false := by rw [hs] at hm; simpa using hm
          obtain ⟨K, hK⟩ : ∃ K : Nat, True := ⟨0, trivial⟩
          have key := ev_run (fun k (_ : Unit) j => spec_l14List.l1 k l (i : Int) j) i (fun j _ => if (!(meetB (l.getD j z37) (l.getD i z37))) = true then .inr () else .inl false) (fun _ => false) (fun j _ => ∃ q, j ≤ q ∧ q < i ∧ meetB (l.getD q z37) (l.getD i z37) = true)
            (by
              intro j s b hj _ h
              have hm : meetB (l.getD j z37) (l.getD i z37) = true := by
                cases hm : meetB (l.getD j z37) (l.getD i z37)
                · rw [hm] at h; simp at h
                · rfl
              have hb : b = false := by rw [hm] at h; simp at h; exact h
              subst hb
              refine Ev.eq_now fun k => ?_
              simp only [spec_l14List.l1]
              rw [if_pos (by omega), if_pos (by omega), if_pos (by omega), if_pos (by omega), if_pos (by omega), rdW, rdW, l14Meet_f, hm]
              rfl)
            (by
              intro j s s' r' hj hI h
              have hm : meetB (l.getD j z37) (l.getD i z37) = false := by
                cases hm : meetB (l.getD j z37) (l.getD i z37)
                · rfl
                · rw [hm] at h; simp at h
              obtain ⟨q, h1, h2, h3⟩ := hI
              refine ⟨⟨q, ?_, h2, h3⟩, fun he => ?_⟩
              · have : q ≠ j := by rintro rfl; rw [hm] at h3; cases h3
                omega
              refine Ev.congr (fun k => ?_) he
              simp only [spec_l14List.l1]
              rw [if_pos (by omega), if_pos (by omega), if_pos (by omega), if_pos (by omega), if_pos (by omega), rdW, rdW, l14Meet_f, hm, wrapS j (by omega)]
              rfl)
            (by
              rintro s ⟨q, h1, h2, _⟩
              omega)
            i 0 () (by omega) (by
              unfold clearB at hc
              rw [any_take l _ i (by omega)] at hc
              simp only [Bool.not_eq_false', decide_eq_true_eq] at hc
              obtain ⟨q, h1, h2⟩ := hc
              exact ⟨q, Nat.zero_le _, h1, by rw [meetB_comm]; exact h2⟩)
          have hv : run (fun j (_ : Unit) => if (!(meetB (l.getD j z37) (l.getD i z37))) = true then .inr () else .inl false) (fun _ => false) i 0 () = false :=
            run_inv (n := i) (fun _ _ => True) (fun b => b = false) (fun j s b _ _ h => by
              split at h
              · cases h
              · exact (Sum.inl.inj h).symm) (fun _ _ _ _ _ _ => trivial) (fun _ _ => rfl) i 0 () (by omega) trivial
          rw [hv] at key
          exact key)
      (by
        intro i s s' r hi _ h
        have hm : stepB l i = true ∧ clearB l i = true := by
          cases h1 : stepB l i <;> cases h2 : clearB l i <;> simp [h1, h2] at h <;> simp
        refine ⟨trivial, fun he => Ev.congr (l14_round l hl i hi) (Ev.unr ?_)⟩
        rw [hm.1]
        refine Ev.congr (f := fun k => spec_l14List.l1 k l (i : Int) 0) (fun k => by simp only [spec_l14List.j1]; rfl) ?_
        have key := ev_l14_l1 l hl i hi r he
        rw [if_pos hm.2] at key
        exact key)
      (by
        intro s _
        refine Ev.eq_now fun k => ?_
        simp only [spec_l14List.l0]
        rw [if_neg (by omega)])
      l.length 0 () (by omega) trivial
    rw [run_all (fun j => stepB l j && clearB l j) false true l.length l.length 0 (by omega)] at key
    rw [decide_eq_true hl, Bool.true_and]
    by_cases hp : ∀ j, j < l.length → (stepB l j && clearB l j) = true
    · rw [decide_eq_true hp]
      rw [if_pos (fun j hj _ => hp j hj)] at key
      exact key
    · rw [decide_eq_false hp]
      rw [if_neg (fun h => hp (fun j hj => h j hj (Nat.zero_le _)))] at key
      exact key
  · refine Ev.eq_now fun k => ?_
    rw [if_pos (by omega), decide_eq_false hl]
    rfl

theorem areW_round (l : List S37) (hl : l.length ≤ 4611686018427387904) (i : Nat) (hi : i < l.length) (k : Nat) : impl_areWarnings.l0 (k + 1) l l (l.length : Int) (i : Int) = if stepB l i = true then impl_areWarnings.l0 k l l (l.length : Int) ((i + 1 : Nat) : Int) else some false := by
  simp only [impl_areWarnings.l0]
  rw [if_pos (by omega), if_pos (by omega), if_pos (by omega), rdW, isValidW_f, wrapS i (by omega)]
  simp only [Option.bind_some]
  unfold stepB
  cases hg : okW (l.getD i z37) with
  | false => rfl
  | true =>
    rw [if_pos rfl]
    by_cases h0 : i = 0
    · subst h0
      rw [if_neg (by omega)]
      rfl
    · rw [if_pos (by omega), wrapP i (by omega) (by omega), if_pos (by omega), if_pos (by omega), rdW]
      rw [show (i == 0) = false from by simpa using h0]
      by_cases hlt : (l.getD (i - 1) z37).f0 < (l.getD i z37).f0
      · rw [if_neg (by omega), decide_eq_true hlt]; rfl
      · rw [if_pos (by omega), decide_eq_false hlt]; rfl
theorem ev_areWarnings (l : List S37) (hb : l.length ≤ 4611686018427387904) : Ev (fun k => impl_areWarnings.f k l) (decide (l.length ≤ 12) && decide (∀ j, j < l.length → stepB l j = true)) := by
  unfold impl_areWarnings.f
  have key := ev_run (fun k (_ : Unit) i => impl_areWarnings.l0 k l l (l.length : Int) i) l.length (fun j _ => if stepB l j = true then .inr () else .inl false) (fun _ => decide (l.length ≤ 12)) (fun _ _ => True)
    (by
      intro i s b hi _ h
      refine Ev.eq_now fun k => ?_
      rw [areW_round l hb i hi]
      cases hs : stepB l i <;> simp [hs] at h ⊢
      exact h)
    (by
      intro i s s' r hi _ h
      refine ⟨trivial, fun he => Ev.congr (fun k => ?_) he⟩
      rw [areW_round l hb i hi]
      cases hs : stepB l i <;> simp [hs] at h ⊢)
    (by
      intro s _
      refine Ev.eq_now fun k => ?_
      simp only [impl_areWarnings.l0]
      rw [if_neg (by omega)]
      congr 1
      exact decide_eq_decide.2 (by omega))
    l.length 0 () (by omega) trivial
  rw [run_all (fun j => stepB l j) false (decide (l.length ≤ 12)) l.length l.length 0 (by omega)] at key
  by_cases hp : ∀ j, j < l.length → stepB l j = true
  · rw [decide_eq_true hp, Bool.and_true]
    rw [if_pos (fun j hj _ => hp j hj)] at key
    exact key
  · rw [decide_eq_false hp, Bool.and_false]
    rw [if_neg (fun h => hp (fun j hj => h j hj (Nat.zero_le _)))] at key
    exact key

theorem ev_IsConsistent (l : List S37) (hb : l.length ≤ 4611686018427387904) : Ev (fun k => impl_IsConsistent.f k l) (consB l) := by
  unfold impl_IsConsistent.f
  refine Ev.bind (f := fun _ t => some (t && apartB l)) (ev_areWarnings l hb) (Ev.eq_now fun k => ?_)
  congr 1
  unfold consB apartB
  rw [Bool.and_assoc]
  congr 1
  rw [Bool.eq_iff_iff]
  simp only [Bool.and_eq_true, decide_eq_true_eq, List.all_eq_true, List.mem_range]
  constructor
  · rintro ⟨h1, h2⟩ j hj
    exact ⟨h1 j hj, h2 j hj⟩
  · intro h
    exact ⟨fun j hj => (h j hj).1, fun j hj => (h j hj).2⟩

theorem ev_specCons (l : List S37) : Ev (fun k => spec_IsConsistent.f k l) (consB l) := by
  unfold spec_IsConsistent.f
  exact Ev.bind (f := fun _ t => some t) (ev_l14List l) (Ev.now _)
end Go.Proofs.Ytfemneoahkglmaa.Q
