/- The laws' marks on lists of warnings that came in. -/
import Derived.Test.YtfijknfdimcjhaaQf38
import Derived.Test.YtfijknfdimcjhaaLaW
namespace Go.Proofs.Ytfijknfdimcjhaa.Q
open Go.RowKit Go.Proofs.YtfijknfdimcjhaaW.PrintWords Go.Proofs.Ytfijknfdimcjhaa.Gen
set_option linter.unusedVariables false
set_option linter.unusedSimpArgs false
theorem ev_markW (l : List S25) (hl : l.length ≤ 1048576) : ∃ l', Ev (fun k => laws_markWarningS.f k l 1) (1 + 6 * (l.length : Int), l') := by
  unfold laws_markWarningS.f
  let f : Nat → List S25 × Int → (Int × List S25) ⊕ (List S25 × Int) := fun i s => .inr (s.1.set i ⟨s.2, s.2 + 1, s.2 + 2, s.2 + 3, s.2 + 4, s.2 + 5⟩, s.2 + 6)
  have key := ev_run (fun k (s : List S25 × Int) i => laws_markWarningS.l0 k s.1 s.2 i) l.length f (fun s => (s.2, s.1)) (fun i s => s.1.length = l.length ∧ s.2 = 1 + 6 * (i : Int))
    (by intro i s b hi _ h; cases h)
    (by
      rintro i ⟨s1, s2⟩ s' r hi ⟨h1, h2⟩ h
      cases h
      dsimp only at h1 h2
      refine ⟨⟨by simpa using h1, by dsimp only; omega⟩, fun he => Ev.congr (fun k => ?_) he⟩
      simp only [laws_markWarningS.l0]
      rw [if_pos (by omega), if_pos (by omega), wrapS i (by omega), wrapS' s2 (by omega) (by omega), wrapS' (s2 + 1) (by omega) (by omega), wrapS' (s2 + 1 + 1) (by omega) (by omega), wrapS' (s2 + 1 + 1 + 1) (by omega) (by omega), wrapS' (s2 + 1 + 1 + 1 + 1) (by omega) (by omega), wrapS' (s2 + 1 + 1 + 1 + 1 + 1) (by omega) (by omega)]
      have e : ∀ (q : List S25) (v : S25), q.length = l.length → rd_T25 (q.set i v) (i : Int) = v := fun q v hq => by
        rw [rdW, List.getD_eq_getElem?_getD, List.getElem?_set_self (by omega)]; rfl
      simp only [Option.bind_some, Int.toNat_natCast, e s1 _ h1, List.set_set, Int.add_assoc]
      rfl)
    (by
      rintro ⟨s1, s2⟩ ⟨h1, h2⟩
      dsimp only at h1 h2
      refine Ev.eq_now fun k => ?_
      simp only [laws_markWarningS.l0]
      rw [if_neg (by omega)])
    l.length 0 (l, 1) (by omega) ⟨rfl, by simp⟩
  have hv : (run f (fun s => (s.2, s.1)) l.length 0 (l, 1)).1 = 1 + 6 * (l.length : Int) :=
    run_inv (n := l.length) (fun i s => s.2 = 1 + 6 * (i : Int)) (fun (b : Int × List S25) => b.1 = 1 + 6 * (l.length : Int)) (fun i s b _ _ h => by cases h) (fun i s s' _ h1 h => by cases h; dsimp only; omega) (fun s h1 => h1) l.length 0 (l, 1) (by omega) (by simp)
  refine ⟨(run f (fun s => (s.2, s.1)) l.length 0 (l, 1)).2, ?_⟩
  rw [← hv]
  exact key
end Go.Proofs.Ytfijknfdimcjhaa.Q
