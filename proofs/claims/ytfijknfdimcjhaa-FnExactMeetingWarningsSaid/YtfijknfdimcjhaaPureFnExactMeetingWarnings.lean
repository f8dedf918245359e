/- The two programs name the same warnings that meet a warning: for every list and warning. -/
import Derived.Test.YtfijknfdimcjhaaQf11
import Derived.Test.YtfijknfdimcjhaaLaLevel
import Derived.Test.YtfijknfdimcjhaaLaInts
import Derived.Test.YtfijknfdimcjhaaLaMarkW
namespace Go.Proofs.Ytfijknfdimcjhaa.Q
open Go.RowKit Go.Proofs.YtfijknfdimcjhaaW.PrintWords Go.Proofs.Ytfijknfdimcjhaa.Gen
set_option linter.unusedVariables false
set_option linter.unusedSimpArgs false
def meetS (w : S25) (x : S25) (s : List Int) : List Int := if x.f0 = w.f0 then s else if meetB w x = true then s ++ [x.f0] else s
theorem meetS_len (w x : S25) (s : List Int) : (meetS w x s).length ≤ s.length + 1 := by
  unfold meetS
  split
  · omega
  · split
    · simp
    · omega
def meetingV (l : List S25) (w : S25) : List Int := run (fun i (s : List Int) => .inr (meetS w (l.getD i z25) s)) (fun s => s) l.length 0 []
theorem meetingV_len (l : List S25) (w : S25) : (meetingV l w).length ≤ l.length :=
  run_inv (n := l.length) (fun i (s : List Int) => s.length ≤ i) (fun (b : List Int) => b.length ≤ l.length) (fun i s b _ _ hf => by cases hf) (fun i s s' _ hs hf => by
    cases hf
    have := meetS_len w (l.getD i z25) s
    omega) (fun s hs => hs) l.length 0 [] (by omega) (by simp)
def meetingR (l : List S25) (w : S25) : List Int × Bool := if consB l = true ∧ okW w = true then (meetingV l w, true) else ([], false)
theorem meetingR_len (l : List S25) (w : S25) : (meetingR l w).1.length ≤ l.length := by
  unfold meetingR
  split
  · exact meetingV_len l w
  · simp
theorem ev_specMeeting (l : List S25) (w : S25) : Ev (fun k => spec_MeetingWarnings.f k l w.f0 w.f1 w.f2 w.f3 w.f4 w.f5) (meetingR l w) := by
  unfold spec_MeetingWarnings.f meetingR
  simp only [Option.bind_some, l14Good_f]
  refine Ev.bind (f := fun k t => _) (ev_l14List l) ?_
  by_cases hc : consB l = true
  · by_cases ho : okW w = true
    · have hl := consB_len hc
      simp only [hc, ho, if_true, and_self]
      refine Ev.unr ?_
      simp only [spec_MeetingWarnings.j0, Bool.not_true, Bool.false_eq_true, if_false]
      have key := ev_run (fun k (s : List Int) i => spec_MeetingWarnings.l0 k l s i w.f0 w.f1 w.f2 w.f3 w.f4 w.f5) l.length (fun i (s : List Int) => .inr (meetS w (l.getD i z25) s)) (fun s => (s, true)) (fun i s => s.length ≤ i)
        (by intro i s b hi _ hf; cases hf)
        (by
          intro i s s' r hi hs hf
          cases hf
          refine ⟨by have := meetS_len w (l.getD i z25) s; omega, fun he => Ev.congr (fun k => ?_) he⟩
          simp only [spec_MeetingWarnings.l0]
          rw [if_pos (by omega), if_pos (by omega), rdW, wrapS i (by omega), l14Meet_f, meetB_comm]
          simp only [Option.bind_some]
          unfold meetS
          by_cases ha : (l.getD i z25).f0 = w.f0
          · rw [if_pos ha, if_pos ha]
          · rw [if_neg ha, if_neg ha]
            by_cases hb : meetB w (l.getD i z25) = true
            · rw [if_pos hb, if_pos hb, if_pos (by omega)]
            · rw [if_neg hb, if_neg hb])
        (by
          intro s _
          refine Ev.eq_now fun k => ?_
          simp only [spec_MeetingWarnings.l0]
          rw [if_neg (by omega)])
        l.length 0 [] (by omega) (by simp)
      rw [run_map (fun s => (s, true))] at key
      exact key
    · simp only [hc, ho, if_true, and_false, if_false]
      refine Ev.unr (Ev.eq_now fun k => ?_)
      simp only [spec_MeetingWarnings.j0]
      simp [ho]
  · simp only [hc, false_and, if_false]
    refine Ev.unr (Ev.eq_now fun k => ?_)
    simp only [spec_MeetingWarnings.j0]
    rfl
theorem ev_implMeeting (l : List S25) (hl0 : l.length ≤ 4611686018427387904) (w : S25) : Ev (fun k => impl_MeetingWarnings.f k l w.f0 w.f1 w.f2 w.f3 w.f4 w.f5) (meetingR l w) := by
  unfold impl_MeetingWarnings.f meetingR
  simp only [isValidW_f, Option.bind_some]
  refine Ev.bind (f := fun k t => _) (ev_IsConsistent l hl0) ?_
  by_cases hc : consB l = true
  · by_cases ho : okW w = true
    · have hl := consB_len hc
      simp only [hc, ho, if_true, and_self]
      refine Ev.unr ?_
      simp only [impl_MeetingWarnings.j0, Bool.not_true, Bool.false_eq_true, if_false]
      have key := ev_run (fun k (s : List Int) i => impl_MeetingWarnings.l0 k s l (l.length : Int) i w.f0 w.f1 w.f2 w.f3 w.f4 w.f5) l.length (fun i (s : List Int) => .inr (meetS w (l.getD i z25) s)) (fun s => (s, true)) (fun i s => s.length ≤ i)
        (by intro i s b hi _ hf; cases hf)
        (by
          intro i s s' r hi hs hf
          cases hf
          refine ⟨by have := meetS_len w (l.getD i z25) s; omega, fun he => Ev.congr (fun k => ?_) he⟩
          simp only [impl_MeetingWarnings.l0]
          rw [if_pos (by omega), if_pos (by omega), if_pos (by omega), rdW, wrapS i (by omega), meetB_f]
          simp only [Option.bind_some]
          unfold meetS
          by_cases ha : (l.getD i z25).f0 = w.f0
          · rw [if_pos ha, if_pos ha]
          · rw [if_neg ha, if_neg ha]
            by_cases hb : meetB w (l.getD i z25) = true
            · rw [if_pos hb, if_pos hb, if_pos (by omega)]
            · rw [if_neg hb, if_neg hb])
        (by
          intro s _
          refine Ev.eq_now fun k => ?_
          simp only [impl_MeetingWarnings.l0]
          rw [if_neg (by omega)])
        l.length 0 [] (by omega) (by simp)
      rw [run_map (fun s => (s, true))] at key
      exact key
    · simp only [hc, ho, if_true, and_false, if_false]
      refine Ev.unr (Ev.eq_now fun k => ?_)
      simp only [impl_MeetingWarnings.j0]
      simp [ho]
  · simp only [hc, false_and, if_false]
    refine Ev.unr (Ev.eq_now fun k => ?_)
    simp only [impl_MeetingWarnings.j0]
    rfl
end Go.Proofs.Ytfijknfdimcjhaa.Q
set_option linter.unusedVariables false
set_option linter.unusedSimpArgs false
namespace Go.Proofs.Ytfijknfdimcjhaa.Pure
open Go.RowKit Go.Proofs.YtfijknfdimcjhaaW.PrintWords Go.Proofs.Ytfijknfdimcjhaa.Tells Go.Proofs.Ytfijknfdimcjhaa.Q Go.Proofs.Ytfijknfdimcjhaa.Gen
theorem FnExactMeetingWarnings : ∀ (l0 : List S23) (x1 : S23), l0.length ≤ maxLen → (∀ x ∈ l0, G23 x) → G23 x1 → ∃ k, laws_FnExactMeetingWarnings.f k l0 x1.f0 x1.f1 x1.f2 x1.f3 x1.f4 x1.f5 = some true := by
  intro l x1 hl _ _
  refine Ev.rounds ?_
  unfold laws_FnExactMeetingWarnings.f
  refine Ev.bind (f := fun k t => if t < 0 then some true else _) (Ev.eq_now fun k => szW_f l 1048576 (by omega) hl) ?_
  by_cases h : (l.length : Int) ≤ 1048576
  · rw [if_pos h]
    refine Ev.congr (fun k => if_neg (by omega)) ?_
    have hc := ev_toW l (by omega)
    have hw : (wconv l).length ≤ 1048576 := by rw [wconv_length]; omega
    have hsp := ev_specMeeting (wconv l) (conv x1)
    have him := ev_implMeeting (wconv l) (by omega) (conv x1)
    have hv := meetingR_len (wconv l) (conv x1)
    generalize meetingR (wconv l) (conv x1) = v at hsp him hv
    refine Ev.bind (f := fun k t => _) hc ?_
    try simp only [laws_toWarning.f, Option.bind_some]
    refine Ev.bind (f := fun k t => _) hsp ?_
    refine Ev.bind (f := fun k t => _) hc ?_
    try simp only [laws_toWarning.f, Option.bind_some]
    refine Ev.bind (f := fun k t => _) him ?_
    refine Ev.bind (f := fun k t => _) (ev_eqI _ (by omega)) ?_
    refine Ev.congr (fun k => if_pos rfl) (Ev.unr ?_)
    simp only [laws_FnExactMeetingWarnings.j0, bne_self_eq_false, Bool.false_eq_true, if_false]
    refine Ev.bind (f := fun k t => _) hc ?_
    refine Ev.bind (f := fun k t => _) (ev_eqW _ (by omega)) ?_
    refine Ev.congr (fun k => if_pos rfl) ?_
    obtain ⟨l', hm⟩ := ev_markW (wconv l) hw
    refine Ev.bind (f := fun k t => _) hm ?_
    refine Ev.congr (fun k => if_neg (by omega)) ?_
    refine Ev.bind (f := fun k t => _) (ev_eqI _ (by omega)) ?_
    refine Ev.congr (fun k => if_pos rfl) (Ev.unr ?_)
    simp only [laws_FnExactMeetingWarnings.j1, bne_self_eq_false, Bool.false_eq_true, if_false]
    refine Ev.bind (f := fun k t => _) (ev_markI _ (by omega)) ?_
    refine Ev.bind (f := fun k t => _) (ev_heldI _ (by omega)) ?_
    refine Ev.congr (fun k => if_neg (by omega)) ?_
    refine Ev.congr (fun k => if_pos rfl) ?_
    refine Ev.bind (f := fun k t => _) hc ?_
    try simp only [laws_toWarning.f, Option.bind_some]
    refine Ev.bind (f := fun k t => _) him ?_
    refine Ev.bind (f := fun k t => _) (ev_eqI _ (by omega)) ?_
    refine Ev.congr (fun k => if_pos rfl) (Ev.unr ?_)
    simp only [laws_FnExactMeetingWarnings.j2, bne_self_eq_false, Bool.false_eq_true, if_false]
    refine Ev.bind (f := fun k t => _) (ev_heldI _ (by omega)) ?_
    refine Ev.congr (fun k => if_neg (by omega)) ?_
    refine Ev.congr (fun k => if_pos rfl) (Ev.now _)
  · rw [if_neg h]
    exact Ev.now _
end Go.Proofs.Ytfijknfdimcjhaa.Pure
