/- The two programs name the same warnings that hold at an hour: for every list and hour. -/
import Derived.Test.YtfijknfdimcjhaaQf10
import Derived.Test.YtfijknfdimcjhaaLaLevel
import Derived.Test.YtfijknfdimcjhaaLaInts
import Derived.Test.YtfijknfdimcjhaaLaMarkW
namespace Go.Proofs.Ytfijknfdimcjhaa.Q
open Go.RowKit Go.Proofs.YtfijknfdimcjhaaW.PrintWords Go.Proofs.Ytfijknfdimcjhaa.Gen
set_option linter.unusedVariables false
set_option linter.unusedSimpArgs false
def activeV (l : List S25) (h : Int) : List Int := run (fun i (s : List Int) => .inr (if atB (l.getD i z25) h = true then s ++ [(l.getD i z25).f0] else s)) (fun s => s) l.length 0 []
theorem activeV_len (l : List S25) (h : Int) : (activeV l h).length ≤ l.length :=
  run_inv (n := l.length) (fun i (s : List Int) => s.length ≤ i) (fun (b : List Int) => b.length ≤ l.length) (fun i s b _ _ hf => by cases hf) (fun i s s' _ hs hf => by
    cases hf
    split
    · simp; omega
    · omega) (fun s hs => hs) l.length 0 [] (by omega) (by simp)
def activeR (l : List S25) (h : Int) : List Int × Bool := if consB l = true then (activeV l h, true) else ([], false)
theorem activeR_len (l : List S25) (h : Int) : (activeR l h).1.length ≤ l.length := by
  unfold activeR
  split
  · exact activeV_len l h
  · simp
theorem ev_specActiveAt (l : List S25) (h : Int) : Ev (fun k => spec_ActiveAt.f k l h) (activeR l h) := by
  unfold spec_ActiveAt.f activeR
  simp only [Option.bind_some]
  refine Ev.bind (f := fun k t => _) (ev_l14List l) ?_
  by_cases hc : consB l = true
  · have hl := consB_len hc
    simp only [hc, if_true]
    have key := ev_run (fun k (s : List Int) i => spec_ActiveAt.l0 k l h s i) l.length (fun i (s : List Int) => .inr (if atB (l.getD i z25) h = true then s ++ [(l.getD i z25).f0] else s)) (fun s => (s, true)) (fun i s => s.length ≤ i)
      (by intro i s b hi _ hf; cases hf)
      (by
        intro i s s' r hi hs hf
        cases hf
        refine ⟨by split <;> (try simp) <;> omega, fun he => Ev.congr (fun k => ?_) he⟩
        simp only [spec_ActiveAt.l0]
        rw [if_pos (by omega), if_pos (by omega), rdW, l1In_f, wrapS i (by omega)]
        simp only [Option.bind_some]
        rw [show decide ((l.getD i z25).f4 ≤ h ∧ h ≤ wrap64 ((l.getD i z25).f5 - 1)) = atB (l.getD i z25) h from rfl]
        by_cases ha : atB (l.getD i z25) h = true
        · rw [if_pos ha, if_pos ha, if_pos (by omega)]
        · rw [if_neg ha, if_neg ha])
      (by
        intro s _
        refine Ev.eq_now fun k => ?_
        simp only [spec_ActiveAt.l0]
        rw [if_neg (by omega)])
      l.length 0 [] (by omega) (by simp)
    rw [run_map (fun s => (s, true))] at key
    exact key
  · simp only [hc, if_false]
    exact Ev.now _
theorem ev_implActiveAt (l : List S25) (hl0 : l.length ≤ 4611686018427387904) (h : Int) : Ev (fun k => impl_ActiveAt.f k l h) (activeR l h) := by
  unfold impl_ActiveAt.f activeR
  refine Ev.bind (f := fun k t => _) (ev_IsConsistent l hl0) ?_
  by_cases hc : consB l = true
  · have hl := consB_len hc
    simp only [hc, if_true]
    have key := ev_run (fun k (s : List Int) i => impl_ActiveAt.l0 k h s l (l.length : Int) i) l.length (fun i (s : List Int) => .inr (if atB (l.getD i z25) h = true then s ++ [(l.getD i z25).f0] else s)) (fun s => (s, true)) (fun i s => s.length ≤ i)
      (by intro i s b hi _ hf; cases hf)
      (by
        intro i s s' r hi hs hf
        cases hf
        refine ⟨by split <;> (try simp) <;> omega, fun he => Ev.congr (fun k => ?_) he⟩
        simp only [impl_ActiveAt.l0]
        rw [if_pos (by omega), if_pos (by omega), if_pos (by omega), rdW, within_f, wrapS i (by omega)]
        simp only [Option.bind_some]
        rw [show decide ((l.getD i z25).f4 ≤ h ∧ h ≤ wrap64 ((l.getD i z25).f5 - 1)) = atB (l.getD i z25) h from rfl]
        by_cases ha : atB (l.getD i z25) h = true
        · rw [if_pos ha, if_pos ha, if_pos (by omega)]
        · rw [if_neg ha, if_neg ha])
      (by
        intro s _
        refine Ev.eq_now fun k => ?_
        simp only [impl_ActiveAt.l0]
        rw [if_neg (by omega)])
      l.length 0 [] (by omega) (by simp)
    rw [run_map (fun s => (s, true))] at key
    exact key
  · simp only [hc, if_false]
    exact Ev.now _
end Go.Proofs.Ytfijknfdimcjhaa.Q
set_option linter.unusedVariables false
set_option linter.unusedSimpArgs false
namespace Go.Proofs.Ytfijknfdimcjhaa.Pure
open Go.RowKit Go.Proofs.YtfijknfdimcjhaaW.PrintWords Go.Proofs.Ytfijknfdimcjhaa.Tells Go.Proofs.Ytfijknfdimcjhaa.Q Go.Proofs.Ytfijknfdimcjhaa.Gen
theorem FnExactActiveAt : ∀ (l0 : List S23) (a1 : Int), l0.length ≤ maxLen → (∀ x ∈ l0, G23 x) → I64 a1 → ∃ k, laws_FnExactActiveAt.f k l0 a1 = some true := by
  intro l a1 hl _ _
  refine Ev.rounds ?_
  unfold laws_FnExactActiveAt.f
  refine Ev.bind (f := fun k t => if t < 0 then some true else _) (Ev.eq_now fun k => szW_f l 1048576 (by omega) hl) ?_
  by_cases h : (l.length : Int) ≤ 1048576
  · rw [if_pos h]
    refine Ev.congr (fun k => if_neg (by omega)) ?_
    have hc := ev_toW l (by omega)
    have hw : (wconv l).length ≤ 1048576 := by rw [wconv_length]; omega
    have hsp := ev_specActiveAt (wconv l) a1
    have him := ev_implActiveAt (wconv l) (by omega) a1
    have hv := activeR_len (wconv l) a1
    generalize activeR (wconv l) a1 = v at hsp him hv
    refine Ev.bind (f := fun k t => _) hc ?_
    refine Ev.bind (f := fun k t => _) hsp ?_
    refine Ev.bind (f := fun k t => _) hc ?_
    refine Ev.bind (f := fun k t => _) him ?_
    refine Ev.bind (f := fun k t => _) (ev_eqI _ (by omega)) ?_
    refine Ev.congr (fun k => if_pos rfl) (Ev.unr ?_)
    simp only [laws_FnExactActiveAt.j0, bne_self_eq_false, Bool.false_eq_true, if_false]
    refine Ev.bind (f := fun k t => _) hc ?_
    refine Ev.bind (f := fun k t => _) (ev_eqW _ (by omega)) ?_
    refine Ev.congr (fun k => if_pos rfl) ?_
    obtain ⟨l', hm⟩ := ev_markW (wconv l) hw
    refine Ev.bind (f := fun k t => _) hm ?_
    refine Ev.congr (fun k => if_neg (by omega)) ?_
    refine Ev.bind (f := fun k t => _) (ev_eqI _ (by omega)) ?_
    refine Ev.congr (fun k => if_pos rfl) (Ev.unr ?_)
    simp only [laws_FnExactActiveAt.j1, bne_self_eq_false, Bool.false_eq_true, if_false]
    refine Ev.bind (f := fun k t => _) (ev_markI _ (by omega)) ?_
    refine Ev.bind (f := fun k t => _) (ev_heldI _ (by omega)) ?_
    refine Ev.congr (fun k => if_neg (by omega)) ?_
    refine Ev.congr (fun k => if_pos rfl) ?_
    refine Ev.bind (f := fun k t => _) hc ?_
    refine Ev.bind (f := fun k t => _) him ?_
    refine Ev.bind (f := fun k t => _) (ev_eqI _ (by omega)) ?_
    refine Ev.congr (fun k => if_pos rfl) (Ev.unr ?_)
    simp only [laws_FnExactActiveAt.j2, bne_self_eq_false, Bool.false_eq_true, if_false]
    refine Ev.bind (f := fun k t => _) (ev_heldI _ (by omega)) ?_
    refine Ev.congr (fun k => if_neg (by omega)) ?_
    refine Ev.congr (fun k => if_pos rfl) (Ev.now _)
  · rw [if_neg h]
    exact Ev.now _
end Go.Proofs.Ytfijknfdimcjhaa.Pure
