/- The two programs count the same cells of an area: for every map and area. -/
import Derived.Test.YtlcpbhcgncljiaaQf4
import Derived.Test.YtlcpbhcgncljiaaLaArea
namespace Go.Proofs.Ytlcpbhcgncljiaa.Q
open Go.RowKit Go.Proofs.YtlcpbhcgncljiaaW.PrintWords Go.Proofs.Ytlcpbhcgncljiaa.Gen
set_option linter.unusedVariables false
set_option linter.unusedSimpArgs false
def areaCellsR (w h : Int) (l : List Int) (a : Int) : Int × Bool := if thereB w h l a = true then (((cells l a).length : Int), true) else (0, false)
theorem there_len {w h : Int} {l : List Int} {a : Int} (ht : thereB w h l a = true) : l.length ≤ 64 := by
  unfold thereB at ht
  exact okM_len (Bool.and_eq_true _ _ ▸ ht).1
theorem ev_specAreaCells (w h : Int) (l : List Int) (a : Int) : Ev (fun k => spec_AreaCells.f k w h l a) (areaCellsR w h l a) := by
  unfold spec_AreaCells.f areaCellsR
  refine Ev.bind (f := fun k t => _) (ev_there w h l a) ?_
  cases ht : thereB w h l a with
  | false => exact Ev.now _
  | true =>
    have hl := there_len ht
    refine Ev.congr (fun k => if_pos rfl) ?_
    rw [if_pos rfl]
    have key := ev_fold (fun k (s : Int) i => spec_AreaCells.l0 k a s i w h l) l.length (fun s i => if (l.getD i 0 == a) = true then s + 1 else s) (fun s => (s, true)) (fun i s => 0 ≤ s ∧ s ≤ (i : Int))
      (by
        intro i s r hi hs
        by_cases e : l.getD i 0 = a
        · rw [if_pos (beq_iff_eq.2 e)]
          refine ⟨by omega, fun he => Ev.congr (fun k => ?_) he⟩
          simp only [spec_AreaCells.l0]
          rw [if_pos (by omega), if_pos (by omega), rdI, if_pos e, wrapS i (by omega), wrapS' s hs.1 (by omega)]
        · rw [if_neg (by simpa using e)]
          refine ⟨by omega, fun he => Ev.congr (fun k => ?_) he⟩
          simp only [spec_AreaCells.l0]
          rw [if_pos (by omega), if_pos (by omega), rdI, if_neg e, wrapS i (by omega)])
      (by
        intro s hs
        refine Ev.eq_now fun k => ?_
        simp only [spec_AreaCells.l0]
        rw [if_neg (by omega)])
      0 (by simp)
    rw [foldl_count (fun i => l.getD i 0 == a), Int.zero_add] at key
    exact key
theorem ev_implAreaCells (w h : Int) (l : List Int) (a : Int) : Ev (fun k => impl_AreaCells.f k w h l a) (areaCellsR w h l a) := by
  unfold impl_AreaCells.f areaCellsR
  refine Ev.bind (f := fun k t => _) (ev_hasOne w h l a) ?_
  cases ht : thereB w h l a with
  | false => exact Ev.now _
  | true =>
    have hl := there_len ht
    refine Ev.congr (fun k => if_pos rfl) ?_
    refine Ev.bind (f := fun k t => _) (ev_cells w h l (by omega) a) ?_
    rw [if_pos rfl]
    have e : (icells l a).length = (cells l a).length := by simp [icells]
    rw [e]
    exact Ev.now _
end Go.Proofs.Ytlcpbhcgncljiaa.Q
namespace Go.Proofs.Ytlcpbhcgncljiaa.Pure
open Go.RowKit Go.Proofs.YtlcpbhcgncljiaaW.PrintWords Go.Proofs.Ytlcpbhcgncljiaa.Tells Go.Proofs.Ytlcpbhcgncljiaa.Q Go.Proofs.Ytlcpbhcgncljiaa.Gen
theorem FnExactAreaCells : ∀ (x0 : S24) (a1 : Int), G24 x0 → I64 a1 → ∃ k, laws_FnExactAreaCells.f k x0.f0 x0.f1 x0.f2 a1 = some true := by
  rintro ⟨w, h, l⟩ a1 ⟨_, _, hl, _⟩ _
  dsimp only at hl ⊢
  refine Ev.rounds ?_
  unfold laws_FnExactAreaCells.f
  simp only [szA_f w h l 1048576 (by omega) hl, Option.bind_some]
  by_cases hb : (l.length : Int) ≤ 1048576
  · simp only [if_pos hb]
    refine Ev.congr (fun k => if_neg (by omega)) ?_
    have hcA := ev_toA w h l (by omega)
    have eqA := ev_eqA w h l (by omega)
    have hsp := ev_specAreaCells w h l a1
    have him := ev_implAreaCells w h l a1
    generalize areaCellsR w h l a1 = v at hsp him
    repeat first
      | exact Ev.now _
      | (with_reducible refine Ev.bind (f := fun k t => _) hcA ?_)
      | (with_reducible refine Ev.bind (f := fun k t => _) hsp ?_)
      | (with_reducible refine Ev.bind (f := fun k t => _) him ?_)
      | (with_reducible refine Ev.bind (f := fun k t => _) eqA ?_)
      | refine Ev.congr (fun k => if_pos (by first | rfl | trivial)) ?_
      | refine Ev.congr (fun k => if_neg (by first | omega | simp)) ?_
      | (refine Ev.unr ?_; simp only [laws_FnExactAreaCells.j0, bne_self_eq_false, Bool.false_eq_true, if_false])
  · simp only [if_neg hb]
    exact Ev.now _
end Go.Proofs.Ytlcpbhcgncljiaa.Pure
