/- Issuing a warning, finding one by its number, setting one: what both programs do. -/
import Derived.Test.YtfemneoahkglmaaQf48
import Derived.Test.YtfemneoahkglmaaQf46
import Derived.Test.YtfemneoahkglmaaQf42
import Derived.Test.YtfemneoahkglmaaQf47
import Derived.Test.YtfemneoahkglmaaQf42
import Derived.Test.YtfemneoahkglmaaLaEdit
import Derived.Test.YtfemneoahkglmaaLaChk
namespace Go.Proofs.Ytfemneoahkglmaa.Q
open Go.RowKit Go.Proofs.YtfemneoahkglmaaW.PrintWords Go.Proofs.Ytfemneoahkglmaa.Gen
set_option linter.unusedVariables false
set_option linter.unusedSimpArgs false
def idN (l : List S37) : Int := if 0 < l.length then wrap64 ((l.getD (l.length - 1) z37).f0 + 1) else 1
def addW (l : List S37) (x : S37) : List S37 := l ++ [⟨idN l, x.f1, x.f2, x.f3, x.f4, x.f5⟩]
theorem addW_length (l : List S37) (x : S37) : (addW l x).length = l.length + 1 := by simp [addW]
/-- A list, a number and true, if the list is consistent. -/
def chkI (l : List S37) (i : Int) : List S37 × Int × Bool := if consB l = true then (l, i, true) else ([], 0, false)
theorem chkI_len (l : List S37) (i : Int) : (chkI l i).1.length ≤ 12 := by
  unfold chkI
  by_cases h : consB l = true
  · rw [if_pos h]; exact (by unfold consB at h; simp only [Bool.and_eq_true, decide_eq_true_eq] at h; exact h.1)
  · rw [if_neg h]; exact Nat.zero_le _
theorem lastN (l : List S37) (hl : l.length ≤ 2097152) (h : 0 < l.length) : wrap64 ((l.length : Int) - 1) = ((l.length - 1 : Nat) : Int) := by unfold wrap64; omega
theorem issue_f (l : List S37) (hl : l.length ≤ 2097152) (x : S37) : spec_l14Issue.f l x.f0 x.f1 x.f2 x.f3 x.f4 x.f5 = some (addW l x, idN l) := by
  unfold spec_l14Issue.f addW idN
  by_cases h : 0 < l.length
  · rw [if_pos (by omega), lastN l hl h, if_pos (by omega), if_pos (by omega), if_pos h]
    simp only [Option.bind_some, List.nil_append, List.length_nil, Nat.zero_add, List.length_singleton, rdW]
    rw [if_pos (by omega), if_pos (by omega)]
  · rw [if_neg (by omega), if_neg h]
    simp only [Option.bind_some, List.nil_append, List.length_nil, Nat.zero_add, List.length_singleton]
    rw [if_pos (by omega), if_pos (by omega)]
theorem ev_issuedJ (l : List S37) (hl : l.length ≤ 1048576) (i : Int) (x : S37) : Ev (fun k => impl_issued.j0 k l i x.f1 x.f2 x.f3 x.f4 x.f5) (chkI (l ++ [⟨i, x.f1, x.f2, x.f3, x.f4, x.f5⟩]) i) := by
  refine Ev.unr ?_
  simp only [impl_issued.j0, clone_f l (by omega), Option.bind_some, List.length_singleton]
  refine Ev.congr (fun k => if_pos (by omega)) ?_
  refine Ev.bind (f := fun k t => _) (ev_checked _ (by simp; omega)) ?_
  unfold chkR chkI
  by_cases h : consB (l ++ [⟨i, x.f1, x.f2, x.f3, x.f4, x.f5⟩]) = true
  · rw [if_pos h, if_pos h]; exact Ev.congr (fun k => if_pos rfl) (Ev.now _)
  · rw [if_neg h, if_neg h]; exact Ev.congr (fun k => if_neg (by simp)) (Ev.now _)
theorem ev_issued (l : List S37) (hl : l.length ≤ 1048576) (x : S37) : Ev (fun k => impl_issued.f k l x.f0 x.f1 x.f2 x.f3 x.f4 x.f5) (chkI (addW l x) (idN l)) := by
  unfold impl_issued.f addW idN
  by_cases h : 0 < l.length
  · rw [if_pos h]
    refine Ev.congr (fun k => if_pos (by omega)) ?_
    rw [lastN l (by omega) h]
    refine Ev.congr (fun k => if_pos (by omega)) ?_
    refine Ev.congr (fun k => if_pos (by omega)) ?_
    exact ev_issuedJ l hl _ x
  · rw [if_neg h]
    refine Ev.congr (fun k => if_neg (by omega)) ?_
    exact ev_issuedJ l hl _ x
/-- The place of the warning with a number, or -1. -/
def atI (l : List S37) (i : Int) : Int := fIdx (fun x => x.f0 == i) l
theorem ev_find (l : List S37) (hl : l.length ≤ 4611686018427387904) (i : Int) : Ev (fun k => spec_l14Find.f k l i) (atI l i) := by
  have key := ev_run (fun k (_ : Unit) q => spec_l14Find.l0 k l i q) l.length (fun q _ => if ((l.getD q z37).f0 == i) = true then .inl (q : Int) else .inr ()) (fun _ => (-1 : Int)) (fun _ _ => True)
    (by
      intro q s b hq _ h
      obtain ⟨e, hb⟩ := inl_of h
      refine Ev.unr (Ev.eq_now fun k => ?_)
      simp only [spec_l14Find.l0]
      rw [if_pos (by omega), if_pos (by omega), rdW, if_pos (by simpa using e), hb])
    (by
      intro q s s' r hq _ h
      obtain ⟨e, _⟩ := inr_of h
      refine ⟨trivial, fun he => Ev.congr (fun k => ?_) he⟩
      simp only [spec_l14Find.l0]
      rw [if_pos (by omega), if_pos (by omega), rdW, if_neg (by simpa using e), wrapS q (by omega)])
    (by
      intro s _
      refine Ev.eq_now fun k => ?_
      simp only [spec_l14Find.l0]
      rw [if_neg (by omega)])
    l.length 0 () (by omega) trivial
  have hv : run (fun q (_ : Unit) => (if ((l.getD q z37).f0 == i) = true then .inl (q : Int) else .inr () : Int ⊕ Unit)) (fun _ => (-1 : Int)) l.length 0 () = atI l i := by
    refine run_inv (n := l.length) (fun q _ => ∀ j, j < q → ((fun x : S37 => x.f0 == i) (l.getD j z37)) = false) (fun b => b = atI l i) ?_ ?_ ?_ l.length 0 () (by omega) (fun j hj => absurd hj (Nat.not_lt_zero _))
    · intro q s b hq hs h
      obtain ⟨e, hb⟩ := inl_of h
      rw [← hb]
      unfold atI
      rw [fIdx_hit (fun x : S37 => x.f0 == i) l z37 q hq e hs]
    · intro q s s' hq hs h j hj
      obtain ⟨e, _⟩ := inr_of h
      by_cases ej : j = q
      · rw [ej]; exact e
      · exact hs j (by omega)
    · intro s hs
      unfold atI
      rw [fIdx_miss (fun x : S37 => x.f0 == i) l z37 hs]
  rw [hv] at key
  exact key
theorem ev_at (l : List S37) (hl : l.length ≤ 4611686018427387904) (i : Int) : Ev (fun k => impl_warningAt.f k l i) (if consB l = true then atI l i else -1) := by
  unfold impl_warningAt.f
  refine Ev.bind (f := fun k t => _) (ev_IsConsistent l hl) ?_
  by_cases h : consB l = true
  · refine Ev.congr (fun k => if_pos h) ?_; rw [if_pos h]; exact Ev.now _
  · refine Ev.congr (fun k => if_neg h) ?_; rw [if_neg h]; exact Ev.now _
theorem leastP {P : Nat → Prop} : (∃ j, P j) → ∃ q, P q ∧ ∀ j, j < q → ¬ P j := by
  rintro ⟨j, hj⟩
  induction j using Nat.strongRecOn with
  | ind j ih =>
    by_cases h : ∃ i, i < j ∧ P i
    · obtain ⟨i, hi, hp⟩ := h
      exact ih i hi hp
    · exact ⟨j, hj, fun i hi hp => h ⟨i, hi, hp⟩⟩
theorem atI_cases (l : List S37) (i : Int) : atI l i = -1 ∨ ∃ q : Nat, q < l.length ∧ atI l i = (q : Int) := by
  unfold atI
  by_cases h : ∀ j, j < l.length → ((fun x : S37 => x.f0 == i) (l.getD j z37)) = false
  · exact .inl (fIdx_miss _ l z37 h)
  · right
    have hx : ∃ j, j < l.length ∧ ((fun x : S37 => x.f0 == i) (l.getD j z37)) = true := by
      refine Classical.byContradiction fun hn => h fun j hj => ?_
      rw [Bool.eq_false_iff]
      exact fun e => hn ⟨j, hj, e⟩
    obtain ⟨q, ⟨h1, h2⟩, h3⟩ := leastP hx
    exact ⟨q, h1, fIdx_hit _ l z37 q h1 h2 (fun j hj => by
      rw [Bool.eq_false_iff]
      exact fun e => h3 j hj ⟨by omega, e⟩)⟩
theorem with_f (l : List S37) (hl : l.length ≤ 2097152) (q : Nat) (hq : q < l.length) (y : S37) : spec_l14With.f l (q : Int) y.f0 y.f1 y.f2 y.f3 y.f4 y.f5 = some (l.set q y) := by
  unfold spec_l14With.f
  simp only [Option.bind_some, List.nil_append, List.length_nil, Nat.zero_add]
  rw [if_pos (by omega), if_pos (by omega), if_pos (by omega), Int.toNat_natCast]
end Go.Proofs.Ytfemneoahkglmaa.Q
