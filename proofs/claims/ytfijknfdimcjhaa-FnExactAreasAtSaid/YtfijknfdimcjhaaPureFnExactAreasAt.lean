/- The two programs name the same areas that have at least a level at an hour: for every list, level and hour. -/
import Derived.Test.YtfijknfdimcjhaaQf13
import Derived.Test.YtfijknfdimcjhaaLaGreat
import Derived.Test.YtfijknfdimcjhaaLaInts
import Derived.Test.YtfijknfdimcjhaaLaMarkW
namespace Go.Proofs.Ytfijknfdimcjhaa.Q
open Go.RowKit Go.Proofs.YtfijknfdimcjhaaW.PrintWords Go.Proofs.Ytfijknfdimcjhaa.Gen
set_option linter.unusedVariables false
set_option linter.unusedSimpArgs false
def areasV (l : List S25) (v h : Int) : List Int := run (fun i (s : List Int) => .inr (if great l (i : Int) h ≥ v then s ++ [(i : Int)] else s)) (fun s => s) 9 1 []
theorem areasV_len (l : List S25) (v h : Int) : (areasV l v h).length ≤ 9 :=
  run_inv (n := 10) (fun i (s : List Int) => s.length + 1 ≤ i) (fun (b : List Int) => b.length ≤ 9) (fun i s b _ _ hf => by cases hf) (fun i s s' _ hs hf => by
    cases hf
    split
    · simp; omega
    · omega) (fun s hs => by omega) 9 1 [] (by omega) (by simp)
def areasR (l : List S25) (v h : Int) : List Int × Bool := if consB l = true ∧ (1 ≤ v ∧ v ≤ 3) ∧ (0 ≤ h ∧ h ≤ 239) then (areasV l v h, true) else ([], false)
theorem areasR_len (l : List S25) (v h : Int) : (areasR l v h).1.length ≤ 9 := by
  unfold areasR
  split
  · exact areasV_len l v h
  · simp
theorem ev_specAreasAt (l : List S25) (hl : l.length ≤ 4611686018427387904) (v h : Int) : Ev (fun k => spec_AreasAt.f k l v h) (areasR l v h) := by
  unfold spec_AreasAt.f areasR spec_l15Hour.f
  simp only [Option.bind_some, l1In_f, decide_eq_true_eq]
  refine Ev.bind (f := fun k t => _) (ev_l14List l) ?_
  by_cases hc : consB l = true
  · by_cases hv : 1 ≤ v ∧ v ≤ 3
    · by_cases hh : 0 ≤ h ∧ h ≤ 239
      · simp only [hc, hv, hh, if_true, and_self, decide_true]
        refine Ev.unr ?_
        simp only [spec_AreasAt.j0, Bool.not_true, Bool.false_eq_true, if_false]
        have key := ev_run (fun k (s : List Int) i => spec_AreasAt.l0 k l v h s i) 10 (fun i (s : List Int) => .inr (if great l (i : Int) h ≥ v then s ++ [(i : Int)] else s)) (fun s => (s, true)) (fun i s => s.length + 1 ≤ i)
          (by intro i s b hi _ hf; cases hf)
          (by
            intro i s s' r hi hs hf
            cases hf
            refine ⟨by split <;> (try simp) <;> omega, fun he => ?_⟩
            simp only [spec_AreasAt.l0]
            refine Ev.congr (fun k => if_pos (by omega)) ?_
            refine Ev.bind (f := fun k t => _) (ev_l15Greatest l hl _ _) ?_
            rw [wrapS i (by omega)]
            by_cases ha : great l (i : Int) h ≥ v
            · rw [if_pos ha] at he
              exact Ev.congr (fun k => by rw [if_pos ha, if_pos (by omega)]) he
            · rw [if_neg ha] at he
              exact Ev.congr (fun k => by rw [if_neg ha]) he)
          (by
            intro s _
            refine Ev.eq_now fun k => ?_
            simp only [spec_AreasAt.l0]
            rw [if_neg (by omega)])
          9 1 [] (by omega) (by simp)
        rw [run_map (fun s => (s, true))] at key
        exact key
      · simp only [hc, hv, hh, if_true, and_self, and_false, if_false, decide_false]
        refine Ev.unr (Ev.eq_now fun k => ?_)
        simp only [spec_AreasAt.j0]
        rfl
    · simp only [hc, hv, if_true, and_false, false_and, if_false, decide_false]
      refine Ev.unr (Ev.eq_now fun k => ?_)
      simp only [spec_AreasAt.j0]
      rfl
  · simp only [hc, false_and, if_false]
    refine Ev.unr (Ev.eq_now fun k => ?_)
    simp only [spec_AreasAt.j0]
    rfl
theorem ev_implAreasAt (l : List S25) (hl : l.length ≤ 4611686018427387904) (v h : Int) : Ev (fun k => impl_AreasAt.f k l v h) (areasR l v h) := by
  unfold impl_AreasAt.f areasR impl_isStateHour.f
  simp only [Option.bind_some, within_f, decide_eq_true_eq]
  refine Ev.bind (f := fun k t => _) (ev_IsConsistent l hl) ?_
  by_cases hc : consB l = true
  · by_cases hv : 1 ≤ v ∧ v ≤ 3
    · by_cases hh : 0 ≤ h ∧ h ≤ 239
      · simp only [hc, hv, hh, if_true, and_self, decide_true]
        refine Ev.unr ?_
        simp only [impl_AreasAt.j0, Bool.not_true, Bool.false_eq_true, if_false]
        have key := ev_run (fun k (s : List Int) i => impl_AreasAt.l0 k l v h s i) 10 (fun i (s : List Int) => .inr (if great l (i : Int) h ≥ v then s ++ [(i : Int)] else s)) (fun s => (s, true)) (fun i s => s.length + 1 ≤ i)
          (by intro i s b hi _ hf; cases hf)
          (by
            intro i s s' r hi hs hf
            cases hf
            refine ⟨by split <;> (try simp) <;> omega, fun he => ?_⟩
            simp only [impl_AreasAt.l0]
            refine Ev.congr (fun k => if_pos (by omega)) ?_
            refine Ev.bind (f := fun k t => _) (ev_areaLevel l hl _ _) ?_
            rw [wrapS i (by omega)]
            by_cases ha : great l (i : Int) h ≥ v
            · rw [if_pos ha] at he
              exact Ev.congr (fun k => by rw [if_pos ha, if_pos (by omega)]) he
            · rw [if_neg ha] at he
              exact Ev.congr (fun k => by rw [if_neg ha]) he)
          (by
            intro s _
            refine Ev.eq_now fun k => ?_
            simp only [impl_AreasAt.l0]
            rw [if_neg (by omega)])
          9 1 [] (by omega) (by simp)
        rw [run_map (fun s => (s, true))] at key
        exact key
      · simp only [hc, hv, hh, if_true, and_self, and_false, if_false, decide_false]
        refine Ev.unr (Ev.eq_now fun k => ?_)
        simp only [impl_AreasAt.j0]
        rfl
    · simp only [hc, hv, if_true, and_false, false_and, if_false, decide_false]
      refine Ev.unr (Ev.eq_now fun k => ?_)
      simp only [impl_AreasAt.j0]
      rfl
  · simp only [hc, false_and, if_false]
    refine Ev.unr (Ev.eq_now fun k => ?_)
    simp only [impl_AreasAt.j0]
    rfl
end Go.Proofs.Ytfijknfdimcjhaa.Q
set_option linter.unusedVariables false
set_option linter.unusedSimpArgs false
namespace Go.Proofs.Ytfijknfdimcjhaa.Pure
open Go.RowKit Go.Proofs.YtfijknfdimcjhaaW.PrintWords Go.Proofs.Ytfijknfdimcjhaa.Tells Go.Proofs.Ytfijknfdimcjhaa.Q Go.Proofs.Ytfijknfdimcjhaa.Gen
theorem FnExactAreasAt : ∀ (l0 : List S23) (a1 : Int) (a2 : Int), l0.length ≤ maxLen → (∀ x ∈ l0, G23 x) → I64 a1 → I64 a2 → ∃ k, laws_FnExactAreasAt.f k l0 a1 a2 = some true := by
  intro l a1 a2 hl _ _ _
  refine Ev.rounds ?_
  unfold laws_FnExactAreasAt.f
  refine Ev.bind (f := fun k t => if t < 0 then some true else _) (Ev.eq_now fun k => szW_f l 1048576 (by omega) hl) ?_
  by_cases h : (l.length : Int) ≤ 1048576
  · rw [if_pos h]
    refine Ev.congr (fun k => if_neg (by omega)) ?_
    have hc := ev_toW l (by omega)
    have hw : (wconv l).length ≤ 1048576 := by rw [wconv_length]; omega
    have hsp := ev_specAreasAt (wconv l) (by omega) a1 a2
    have him := ev_implAreasAt (wconv l) (by omega) a1 a2
    have hv := areasR_len (wconv l) a1 a2
    generalize areasR (wconv l) a1 a2 = v at hsp him hv
    refine Ev.bind (f := fun k t => _) hc ?_
    refine Ev.bind (f := fun k t => _) hsp ?_
    refine Ev.bind (f := fun k t => _) hc ?_
    refine Ev.bind (f := fun k t => _) him ?_
    refine Ev.bind (f := fun k t => _) (ev_eqI _ (by omega)) ?_
    refine Ev.congr (fun k => if_pos rfl) (Ev.unr ?_)
    simp only [laws_FnExactAreasAt.j0, bne_self_eq_false, Bool.false_eq_true, if_false]
    refine Ev.bind (f := fun k t => _) hc ?_
    refine Ev.bind (f := fun k t => _) (ev_eqW _ (by omega)) ?_
    refine Ev.congr (fun k => if_pos rfl) ?_
    obtain ⟨l', hm⟩ := ev_markW (wconv l) hw
    refine Ev.bind (f := fun k t => _) hm ?_
    refine Ev.congr (fun k => if_neg (by omega)) ?_
    refine Ev.bind (f := fun k t => _) (ev_eqI _ (by omega)) ?_
    refine Ev.congr (fun k => if_pos rfl) (Ev.unr ?_)
    simp only [laws_FnExactAreasAt.j1, bne_self_eq_false, Bool.false_eq_true, if_false]
    refine Ev.bind (f := fun k t => _) (ev_markI _ (by omega)) ?_
    refine Ev.bind (f := fun k t => _) (ev_heldI _ (by omega)) ?_
    refine Ev.congr (fun k => if_neg (by omega)) ?_
    refine Ev.congr (fun k => if_pos rfl) ?_
    refine Ev.bind (f := fun k t => _) hc ?_
    refine Ev.bind (f := fun k t => _) him ?_
    refine Ev.bind (f := fun k t => _) (ev_eqI _ (by omega)) ?_
    refine Ev.congr (fun k => if_pos rfl) (Ev.unr ?_)
    simp only [laws_FnExactAreasAt.j2, bne_self_eq_false, Bool.false_eq_true, if_false]
    refine Ev.bind (f := fun k t => _) (ev_heldI _ (by omega)) ?_
    refine Ev.congr (fun k => if_neg (by omega)) ?_
    refine Ev.congr (fun k => if_pos rfl) (Ev.now _)
  · rw [if_neg h]
    exact Ev.now _
end Go.Proofs.Ytfijknfdimcjhaa.Pure
