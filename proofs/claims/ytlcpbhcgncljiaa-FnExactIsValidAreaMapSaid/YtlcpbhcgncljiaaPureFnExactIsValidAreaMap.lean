/- The two programs call the same maps of areas valid. -/
import Derived.Test.YtlcpbhcgncljiaaQf3
import Derived.Test.YtlcpbhcgncljiaaLaArea
namespace Go.Proofs.Ytlcpbhcgncljiaa.Q
open Go.RowKit Go.Proofs.YtlcpbhcgncljiaaW.PrintWords Go.Proofs.Ytlcpbhcgncljiaa.Gen
set_option linter.unusedVariables false
set_option linter.unusedSimpArgs false
theorem ev_specValidA (w h : Int) (l : List Int) : Ev (fun k => spec_IsValidAreaMap.f k w h l) (okM w h l) := by
  unfold spec_IsValidAreaMap.f
  exact Ev.bind (f := fun k t => _) (ev_goodM w h l) (Ev.now _)
end Go.Proofs.Ytlcpbhcgncljiaa.Q
namespace Go.Proofs.Ytlcpbhcgncljiaa.Pure
open Go.RowKit Go.Proofs.YtlcpbhcgncljiaaW.PrintWords Go.Proofs.Ytlcpbhcgncljiaa.Tells Go.Proofs.Ytlcpbhcgncljiaa.Q Go.Proofs.Ytlcpbhcgncljiaa.Gen
theorem FnExactIsValidAreaMap : ∀ (x0 : S24), G24 x0 → ∃ k, laws_FnExactIsValidAreaMap.f k x0.f0 x0.f1 x0.f2 = some true := by
  rintro ⟨w, h, l⟩ ⟨_, _, hl, _⟩
  dsimp only at hl ⊢
  refine Ev.rounds ?_
  unfold laws_FnExactIsValidAreaMap.f
  simp only [szA_f w h l 1048576 (by omega) hl, Option.bind_some]
  by_cases hb : (l.length : Int) ≤ 1048576
  · simp only [if_pos hb]
    refine Ev.congr (fun k => if_neg (by omega)) ?_
    have hcA := ev_toA w h l (by omega)
    have eqA := ev_eqA w h l (by omega)
    have hsp := ev_specValidA w h l
    have him := ev_validM w h l
    generalize okM w h l = v at hsp him
    repeat first
      | exact Ev.now _
      | (with_reducible refine Ev.bind (f := fun k t => _) hcA ?_)
      | (with_reducible refine Ev.bind (f := fun k t => _) hsp ?_)
      | (with_reducible refine Ev.bind (f := fun k t => _) him ?_)
      | (with_reducible refine Ev.bind (f := fun k t => _) eqA ?_)
      | refine Ev.congr (fun k => if_pos (by first | rfl | trivial)) ?_
      | refine Ev.congr (fun k => if_neg (by first | omega | simp)) ?_
  · simp only [if_neg hb]
    exact Ev.now _
end Go.Proofs.Ytlcpbhcgncljiaa.Pure
