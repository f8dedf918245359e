/- The two programs count the same hours with a warning in an area: for every list and area. -/
import Derived.Test.YtfijknfdimcjhaaQf7
import Derived.Test.YtfijknfdimcjhaaLaGreat
namespace Go.Proofs.Ytfijknfdimcjhaa.Q
open Go.RowKit Go.Proofs.YtfijknfdimcjhaaW.PrintWords Go.Proofs.Ytfijknfdimcjhaa.Gen
set_option linter.unusedVariables false
set_option linter.unusedSimpArgs false
def hitB (l : List S25) (a h : Int) : Bool := l.any (fun x => decide (x.f3 = a) && atB x h)
def hoursN (l : List S25) (a : Int) : Int := run (fun i (s : Int) => .inr (if hitB l a (i : Int) = true then s + 1 else s)) (fun s => s) 240 0 0
def hoursV (l : List S25) (a : Int) : Int × Bool := if consB l = true ∧ (1 ≤ a ∧ a ≤ 9) then (hoursN l a, true) else (0, false)
theorem ev_hours_l1 (l : List S25) (hl : l.length ≤ 12) (a n h : Int) (hn : 0 ≤ n ∧ n < 1000) (r : Int × Bool) (hr : Ev (fun k => spec_WarningHours.l0 k l a (if hitB l a h = true then n + 1 else n) (wrap64 (h + 1))) r) : Ev (fun k => spec_WarningHours.l1 k l a n h false 0) r := by
  have key := ev_run (fun k (s : Bool) i => spec_WarningHours.l1 k l a n h s i) l.length (fun i (s : Bool) => (.inr (s || (decide ((l.getD i z25).f3 = a) && atB (l.getD i z25) h)) : (Int × Bool) ⊕ Bool)) (fun _ => r) (fun i s => s = (l.take i).any (fun x => decide (x.f3 = a) && atB x h))
    (by intro i s b hi _ hf; cases hf)
    (by
      intro i s s' r' hi hs hf
      cases hf
      refine ⟨?_, fun he => Ev.congr (fun k => ?_) he⟩
      · rw [hs, List.take_succ_eq_append_getElem hi, List.any_append, ← getD_lt l z25 i hi]
        simp
      · simp only [spec_WarningHours.l1]
        rw [if_pos (by omega), wrapS i (by omega)]
        cases s with
        | true => rw [if_pos rfl]; rfl
        | false =>
          rw [if_neg (by simp), if_pos (by omega), rdW]
          by_cases ha : (l.getD i z25).f3 = a
          · rw [if_pos ha, l1In_f, decide_eq_true ha]; rfl
          · rw [if_neg ha, decide_eq_false ha]; rfl)
    (by
      intro s hs
      rw [List.take_length] at hs
      refine Ev.congr (fun k => ?_) hr
      simp only [spec_WarningHours.l1]
      rw [if_neg (by omega), hs]
      unfold hitB
      cases l.any (fun x => decide (x.f3 = a) && atB x h) with
      | true => rw [if_pos rfl, if_pos rfl, wrapS' n (by omega) (by omega)]
      | false => rfl)
    l.length 0 false (by omega) (by simp)
  have hv : run (fun i (s : Bool) => (.inr (s || (decide ((l.getD i z25).f3 = a) && atB (l.getD i z25) h)) : (Int × Bool) ⊕ Bool)) (fun _ => r) l.length 0 false = r :=
    run_inv (n := l.length) (fun _ _ => True) (fun b => b = r) (fun i s b _ _ hf => by cases hf) (fun _ _ _ _ _ _ => trivial) (fun _ _ => rfl) l.length 0 false (by omega) trivial
  rw [hv] at key
  exact key
theorem ev_specHours (l : List S25) (a : Int) : Ev (fun k => spec_WarningHours.f k l a) (hoursV l a) := by
  unfold spec_WarningHours.f hoursV
  simp only [Option.bind_some, l1In_f]
  refine Ev.bind (f := fun k t => _) (ev_l14List l) ?_
  by_cases hc : consB l = true
  · by_cases hv : 1 ≤ a ∧ a ≤ 9
    · simp only [hc, hv, if_true, and_self, decide_true]
      refine Ev.unr ?_
      simp only [spec_WarningHours.j0, Bool.not_true, Bool.false_eq_true, if_false]
      have key := ev_run (fun k (s : Int) i => spec_WarningHours.l0 k l a s i) 240 (fun i (s : Int) => .inr (if hitB l a (i : Int) = true then s + 1 else s)) (fun s => (s, true)) (fun i s => 0 ≤ s ∧ s ≤ i)
        (by intro i s b hi _ hf; cases hf)
        (by
          intro i s s' r hi hs hf
          cases hf
          refine ⟨by split <;> omega, fun he => ?_⟩
          simp only [spec_WarningHours.l0]
          refine Ev.congr (fun k => if_pos (by omega)) ?_
          refine ev_hours_l1 l (consB_len hc) a s i (by omega) r ?_
          rw [wrapS i (by omega)]
          exact he)
        (by
          intro s _
          refine Ev.eq_now fun k => ?_
          simp only [spec_WarningHours.l0]
          rw [if_neg (by omega)])
        240 0 0 (by omega) (by simp)
      rw [run_map (fun s => (s, true))] at key
      exact key
    · simp only [hc, hv, if_true, and_false, if_false, decide_false]
      refine Ev.unr (Ev.eq_now fun k => ?_)
      simp only [spec_WarningHours.j0]
      rfl
  · simp only [hc, false_and, if_false]
    refine Ev.unr (Ev.eq_now fun k => ?_)
    simp only [spec_WarningHours.j0]
    rfl
theorem ev_implHours (l : List S25) (hl : l.length ≤ 4611686018427387904) (a : Int) : Ev (fun k => impl_WarningHours.f k l a) (hoursV l a) := by
  unfold impl_WarningHours.f hoursV
  simp only [Option.bind_some, within_f]
  refine Ev.bind (f := fun k t => _) (ev_IsConsistent l hl) ?_
  by_cases hc : consB l = true
  · by_cases hv : 1 ≤ a ∧ a ≤ 9
    · simp only [hc, hv, if_true, and_self, decide_true]
      refine Ev.unr ?_
      simp only [impl_WarningHours.j0, Bool.not_true, Bool.false_eq_true, if_false]
      have key := ev_run (fun k (s : Int) i => impl_WarningHours.l0 k l a s i) 240 (fun i (s : Int) => .inr (if hitB l a (i : Int) = true then s + 1 else s)) (fun s => (s, true)) (fun i s => 0 ≤ s ∧ s ≤ i)
        (by intro i s b hi _ hf; cases hf)
        (by
          intro i s s' r hi hs hf
          cases hf
          refine ⟨by split <;> omega, fun he => ?_⟩
          simp only [impl_WarningHours.l0]
          refine Ev.congr (fun k => if_pos (by omega)) ?_
          refine Ev.bind (f := fun k t => _) (ev_areaLevel l hl _ _) ?_
          have hg := great_pos hc a (i : Int)
          rw [wrapS i (by omega), wrapS' s (by omega) (by omega)]
          by_cases ha : hitB l a (i : Int) = true
          · rw [if_pos ha] at he
            exact Ev.congr (fun k => by rw [if_pos (hg.2 ha)]) he
          · rw [if_neg ha] at he
            exact Ev.congr (fun k => by rw [if_neg (fun h => ha (hg.1 h))]) he)
        (by
          intro s _
          refine Ev.eq_now fun k => ?_
          simp only [impl_WarningHours.l0]
          rw [if_neg (by omega)])
        240 0 0 (by omega) (by simp)
      rw [run_map (fun s => (s, true))] at key
      exact key
    · simp only [hc, hv, if_true, and_false, if_false, decide_false]
      refine Ev.unr (Ev.eq_now fun k => ?_)
      simp only [impl_WarningHours.j0]
      rfl
  · simp only [hc, false_and, if_false]
    refine Ev.unr (Ev.eq_now fun k => ?_)
    simp only [impl_WarningHours.j0]
    rfl
end Go.Proofs.Ytfijknfdimcjhaa.Q
set_option linter.unusedVariables false
set_option linter.unusedSimpArgs false
namespace Go.Proofs.Ytfijknfdimcjhaa.Pure
open Go.RowKit Go.Proofs.YtfijknfdimcjhaaW.PrintWords Go.Proofs.Ytfijknfdimcjhaa.Tells Go.Proofs.Ytfijknfdimcjhaa.Q Go.Proofs.Ytfijknfdimcjhaa.Gen
theorem FnExactWarningHours : ∀ (l0 : List S23) (a1 : Int), l0.length ≤ maxLen → (∀ x ∈ l0, G23 x) → I64 a1 → ∃ k, laws_FnExactWarningHours.f k l0 a1 = some true := by
  intro l a1 hl _ _
  refine Ev.rounds ?_
  unfold laws_FnExactWarningHours.f
  refine Ev.bind (f := fun k t => if t < 0 then some true else _) (Ev.eq_now fun k => szW_f l 1048576 (by omega) hl) ?_
  by_cases h : (l.length : Int) ≤ 1048576
  · rw [if_pos h]
    refine Ev.congr (fun k => if_neg (by omega)) ?_
    have hc := ev_toW l (by omega)
    have hw : (wconv l).length ≤ 1048576 := by rw [wconv_length]; omega
    have hsp := ev_specHours (wconv l) a1
    have him := ev_implHours (wconv l) (by omega) a1
    generalize hoursV (wconv l) a1 = v at hsp him
    refine Ev.bind (f := fun k t => _) hc ?_
    refine Ev.bind (f := fun k t => _) hsp ?_
    refine Ev.bind (f := fun k t => _) hc ?_
    refine Ev.bind (f := fun k t => _) him ?_
    refine Ev.congr (fun k => if_pos rfl) (Ev.unr ?_)
    simp only [laws_FnExactWarningHours.j0, bne_self_eq_false, Bool.false_eq_true, if_false]
    refine Ev.bind (f := fun k t => _) hc ?_
    exact Ev.bind (f := fun k t => _) (ev_eqW _ (by omega)) (Ev.now _)
  · rw [if_neg h]
    exact Ev.now _
end Go.Proofs.Ytfijknfdimcjhaa.Pure
