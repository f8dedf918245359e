/- The two programs write the same text of an hour: for every hour. -/
import Derived.Test.YtnfcflekbnfmhaaDoorQf40
import Derived.Test.YtnfcflekbnfmhaaDoorLaHour
import Derived.Test.YtnfcflekbnfmhaaDoorArgs
set_option linter.unusedVariables false
set_option linter.unusedSimpArgs false
namespace Go.Proofs.YtnfcflekbnfmhaaDoor.Q
open Go.RowKit Go.Proofs.YtnfcflekbnfmhaaDoorW.PrintWords Go.Proofs.YtnfcflekbnfmhaaDoor.Gen
theorem l1In_fT (a b c : Int) : spec_l1In.f a b c = some (decide (b ≤ a ∧ a ≤ c)) := by
  unfold spec_l1In.f
  by_cases h1 : a ≥ b <;> by_cases h2 : a ≤ c <;> simp [h1, h2] <;> omega
def hourR (h : Int) : ByteArray × Bool := if 0 ≤ h ∧ h ≤ 240 then (hourS h.toNat, true) else (⟨#[]⟩, false)
theorem ev_specHourText (h : Int) : Ev (fun k => spec_HourText.f k h) (hourR h) := by
  unfold spec_HourText.f hourR
  refine Ev.bind (f := fun k t => _) (Ev.eq_now fun k => l1In_fT h 0 240) ?_
  by_cases c : 0 ≤ h ∧ h ≤ 240
  · obtain ⟨n, rfl⟩ : ∃ n : Nat, h = (n : Int) := ⟨h.toNat, by omega⟩
    rw [if_pos c, Int.toNat_natCast]
    refine Ev.congr (fun k => if_pos (decide_eq_true c)) ?_
    exact Ev.bind (f := fun k t => _) (ev_specHour n (by omega)) (Ev.now _)
  · rw [if_neg c]
    exact Ev.congr (fun k => if_neg (by simpa using c)) (Ev.now _)
theorem implHourText_f (h : Int) : impl_HourText.f h = some (hourR h) := by
  unfold impl_HourText.f hourR
  rw [within_f, Option.bind_some]
  by_cases c : 0 ≤ h ∧ h ≤ 240
  · obtain ⟨n, rfl⟩ : ∃ n : Nat, h = (n : Int) := ⟨h.toNat, by omega⟩
    rw [if_pos (decide_eq_true c), if_pos c, Int.toNat_natCast, implHour_f n (by omega), Option.bind_some]
  · rw [if_neg (by simpa using c), if_neg c]
end Go.Proofs.YtnfcflekbnfmhaaDoor.Q
namespace Go.Proofs.YtnfcflekbnfmhaaDoor.Pure
open Go.RowKit Go.Proofs.YtnfcflekbnfmhaaDoorW.PrintWords Go.Proofs.YtnfcflekbnfmhaaDoor.Tells Go.Proofs.YtnfcflekbnfmhaaDoor.Q Go.Proofs.YtnfcflekbnfmhaaDoor.Gen
theorem FnExactHourText : ∀ (a0 : Int), I64 a0 → ∃ k, laws_FnExactHourText.f k a0 = some true := by
  intro h _
  refine Ev.rounds ?_
  unfold laws_FnExactHourText.f
  refine Ev.bind (f := fun k t => _) (ev_specHourText h) ?_
  refine Ev.bind (f := fun k t => _) (Ev.eq_now fun k => implHourText_f h) ?_
  exact Ev.congr (fun k => if_pos rfl) (Ev.congr (fun k => if_neg (by simp)) (Ev.now _))
end Go.Proofs.YtnfcflekbnfmhaaDoor.Pure
