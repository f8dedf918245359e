/- The two programs read the same hour of a text: for every text. -/
import Derived.Test.YtnfcflekbnfmhaaDoorQf5
import Derived.Test.YtnfcflekbnfmhaaDoorLaHour
import Derived.Test.YtnfcflekbnfmhaaDoorArgs
set_option linter.unusedVariables false
set_option linter.unusedSimpArgs false
namespace Go.Proofs.YtnfcflekbnfmhaaDoor.Q
open Go.RowKit Go.Proofs.YtnfcflekbnfmhaaDoorW.PrintWords Go.Proofs.YtnfcflekbnfmhaaDoor.Gen
/-- The hour from i on whose text it is. -/
def hourOf (s : ByteArray) : Int × Bool := run (fun i (_ : Unit) => if decide ((hourS i).toList = s.toList) = true then .inl ((i : Int), true) else .inr ()) (fun _ => (0, false)) 241 0 ()
theorem ev_specParse (s : ByteArray) : Ev (fun k => spec_ParseHour.f k s) (hourOf s) := by
  unfold spec_ParseHour.f hourOf
  refine ev_run (fun k (_ : Unit) i => spec_ParseHour.l0 k s i) 241 _ (fun _ => (0, false)) (fun _ _ => True) ?_ ?_ ?_ 241 0 () (by omega) trivial
  · intro i _ b hi _ h
    obtain ⟨hh, rfl⟩ := inl_of h
    simp only [spec_ParseHour.l0]
    refine Ev.congr (fun k => if_pos (by omega)) ?_
    refine Ev.bind (f := fun k t => _) (ev_specHour i (by omega)) ?_
    exact Ev.congr (fun k => if_pos (of_decide_eq_true hh)) (Ev.now _)
  · intro i _ s' r hi _ h
    obtain ⟨hh, _⟩ := inr_of h
    refine ⟨trivial, fun he => ?_⟩
    simp only [spec_ParseHour.l0]
    refine Ev.congr (fun k => if_pos (by omega)) ?_
    refine Ev.bind (f := fun k t => _) (ev_specHour i (by omega)) ?_
    rw [wrapS i (by omega)]
    exact Ev.congr (fun k => if_neg (of_decide_eq_false hh)) he
  · intro _ _
    refine Ev.eq_now fun k => ?_
    simp only [spec_ParseHour.l0]
    rw [if_neg (by omega)]
theorem ev_implParse (s : ByteArray) : Ev (fun k => impl_ParseHour.f k s) (hourOf s) := by
  unfold impl_ParseHour.f hourOf
  refine ev_run (fun k (_ : Unit) i => impl_ParseHour.l0 k s i) 241 _ (fun _ => (0, false)) (fun _ _ => True) ?_ ?_ ?_ 241 0 () (by omega) trivial
  · intro i _ b hi _ h
    obtain ⟨hh, rfl⟩ := inl_of h
    simp only [impl_ParseHour.l0]
    refine Ev.congr (fun k => if_pos (by omega)) ?_
    refine Ev.bind (f := fun k t => _) (Ev.eq_now fun k => implHour_f i (by omega)) ?_
    exact Ev.congr (fun k => if_pos (of_decide_eq_true hh)) (Ev.now _)
  · intro i _ s' r hi _ h
    obtain ⟨hh, _⟩ := inr_of h
    refine ⟨trivial, fun he => ?_⟩
    simp only [impl_ParseHour.l0]
    refine Ev.congr (fun k => if_pos (by omega)) ?_
    refine Ev.bind (f := fun k t => _) (Ev.eq_now fun k => implHour_f i (by omega)) ?_
    rw [wrapS i (by omega)]
    exact Ev.congr (fun k => if_neg (of_decide_eq_false hh)) he
  · intro _ _
    refine Ev.eq_now fun k => ?_
    simp only [impl_ParseHour.l0]
    rw [if_neg (by omega)]
end Go.Proofs.YtnfcflekbnfmhaaDoor.Q
namespace Go.Proofs.YtnfcflekbnfmhaaDoor.Pure
open Go.RowKit Go.Proofs.YtnfcflekbnfmhaaDoorW.PrintWords Go.Proofs.YtnfcflekbnfmhaaDoor.Tells Go.Proofs.YtnfcflekbnfmhaaDoor.Q Go.Proofs.YtnfcflekbnfmhaaDoor.Gen
theorem FnExactParseHour : ∀ (a0 : ByteArray), a0.size ≤ maxLen → ∃ k, laws_FnExactParseHour.f k a0 = some true := by
  intro s _
  refine Ev.rounds ?_
  unfold laws_FnExactParseHour.f
  by_cases h : (s.size : Int) > 1048576
  · exact Ev.congr (fun k => if_pos h) (Ev.now _)
  · refine Ev.congr (fun k => if_neg h) ?_
    refine Ev.bind (f := fun k t => _) (ev_specParse s) ?_
    refine Ev.bind (f := fun k t => _) (ev_implParse s) ?_
    exact Ev.congr (fun k => if_pos rfl) (Ev.congr (fun k => if_neg (by simp)) (Ev.now _))
end Go.Proofs.YtnfcflekbnfmhaaDoor.Pure
