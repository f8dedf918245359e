/- Stretches that come in: their size, the reference's form of them. -/
import Derived.Test.YthmkgdlmegohoaaQf69
import Derived.Test.YthmkgdlmegohoaaQf25
import Derived.Test.YthmkgdlmegohoaaEv
import Derived.Test.YthmkgdlmegohoaaArgs
namespace Go.Proofs.Ythmkgdlmegohoaa.Q
open Go.RowKit Go.Proofs.YthmkgdlmegohoaaW.PrintWords Go.Proofs.Ythmkgdlmegohoaa.Gen Go.Proofs.Ythmkgdlmegohoaa.Tells
set_option linter.unusedVariables false
set_option linter.unusedSimpArgs false
def convS (x : S87) : S85 := ⟨x.f0, x.f1, x.f2⟩
def sconv (l : List S87) : List S85 := l.map convS
theorem sconv_length (l : List S87) : (sconv l).length = l.length := by simp [sconv]
theorem szS_f (l : List S87) (m : Int) (hm : 0 ≤ m ∧ m ≤ 1048576) (h : l.length ≤ maxLen) : laws_szStretchS.f l m = some (if (l.length : Int) ≤ m then m - l.length else -1) := by
  unfold laws_szStretchS.f maxLen at *
  by_cases hl : (l.length : Int) ≤ m
  · rw [if_neg (by unfold wrap64; omega), if_pos hl]
    congr 1
    unfold wrap64; omega
  · rw [if_pos (by unfold wrap64; omega), if_neg hl]
theorem rdVs (l : List S87) (i : Nat) : rd_T87 l (i : Int) = l.getD i z87 := rfl

theorem ev_toS (l : List S87) (hl : l.length ≤ 1048576) : Ev (fun k => laws_toStretchS.f k l) (sconv l) := by
  unfold laws_toStretchS.f
  refine Ev.congr (f := fun k => laws_toStretchS.l0 k l (List.replicate l.length z85) ((0 : Nat) : Int)) (fun k => by rw [if_pos (by omega), if_pos (by omega)]; rfl) ?_
  have key := ev_run (fun k (s : List S85) i => laws_toStretchS.l0 k l s i) l.length (fun i s => .inr (s.set i (convS (l.getD i z87)))) (fun s => s) (fun i s => s.length = l.length)
    (by intro i s b hi _ h; cases h)
    (by
      intro i s s' r hi hs h
      cases h
      refine ⟨by simpa using hs, fun he => Ev.congr (fun k => ?_) he⟩
      simp only [laws_toStretchS.l0, laws_toStretch.f]
      rw [if_pos (by omega), if_pos (by omega), wrapS i (by omega)]
      simp only [Option.bind_some]
      rw [if_pos (by omega)]
      rfl)
    (by
      intro s _
      refine Ev.eq_now fun k => ?_
      simp only [laws_toStretchS.l0]
      rw [if_neg (by omega)])
    l.length 0 (List.replicate l.length z85) (by omega) (by simp)
  have hv : run (fun i (s : List S85) => (.inr (s.set i (convS (l.getD i z87))) : List S85 ⊕ List S85)) (fun s => s) l.length 0 (List.replicate l.length z85) = sconv l := by
    refine run_inv (n := l.length) (fun i s => s.length = l.length ∧ ∀ j, j < i → s[j]? = (sconv l)[j]?) (fun b => b = sconv l) (fun i s b _ _ h => by cases h) ?_ ?_ l.length 0 _ (by omega) ⟨by simp, fun j hj => absurd hj (Nat.not_lt_zero _)⟩
    · rintro i s s' hi ⟨h1, h2⟩ h
      cases h
      refine ⟨by simpa using h1, fun j hj => ?_⟩
      by_cases e : j = i
      · subst e
        rw [List.getElem?_set_self (by omega)]
        simp [sconv, hi]
      · rw [List.getElem?_set_ne (by omega)]
        exact h2 j (by omega)
    · rintro s ⟨h1, h2⟩
      apply List.ext_getElem?
      intro j
      by_cases hj : j < l.length
      · exact h2 j hj
      · rw [List.getElem?_eq_none (by omega), List.getElem?_eq_none (by rw [sconv_length]; omega)]
  rw [hv] at key
  exact key

end Go.Proofs.Ythmkgdlmegohoaa.Q
