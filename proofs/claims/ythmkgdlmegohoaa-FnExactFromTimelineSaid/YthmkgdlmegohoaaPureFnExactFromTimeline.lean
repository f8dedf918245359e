/- The two programs make the same warnings of a timeline: for every topic, area and list. -/
import Derived.Test.YthmkgdlmegohoaaQf6
import Derived.Test.YthmkgdlmegohoaaLaToS
import Derived.Test.YthmkgdlmegohoaaLaMarksS
import Derived.Test.YthmkgdlmegohoaaLaChk
import Derived.Test.YthmkgdlmegohoaaLaMarksW
set_option linter.unusedVariables false
set_option linter.unusedSimpArgs false
namespace Go.Proofs.Ythmkgdlmegohoaa.Q
open Go.RowKit Go.Proofs.YthmkgdlmegohoaaW.PrintWords Go.Proofs.Ythmkgdlmegohoaa.Gen Go.Proofs.Ythmkgdlmegohoaa.Tells
/-- The warning of the stretch at place i. -/
def ofS (t a : Int) (l : List S85) (i : Nat) : S30 := ⟨((i + 1 : Nat) : Int), t, (l.getD i z85).f2, a, (l.getD i z85).f0, (l.getD i z85).f1⟩
/-- The stretch at place i begins before the one ahead ends. -/
def badS (l : List S85) (i : Nat) : Bool := decide (0 < i) && decide ((l.getD (i - 1) z85).f1 > (l.getD i z85).f0)
def runS (t a : Int) (l : List S85) (n : Nat) : List S30 × Bool := run (fun i (s : List S30) => if badS l i = true then (.inl (([], false) : List S30 × Bool)) else .inr (s ++ [ofS t a l i])) chkR n 0 []
def fromR (t a : Int) (l : List S85) : List S30 × Bool := if ((1 ≤ t ∧ t ≤ 5) ∧ 1 ≤ a ∧ a ≤ 9) ∧ l.length ≤ 12 then runS t a l l.length else ([], false)
theorem runS_len (t a : Int) (l : List S85) (n : Nat) : (runS t a l n).1.length ≤ 12 :=
  run_inv (n := n) (fun _ _ => True) (fun (b : List S30 × Bool) => b.1.length ≤ 12) (fun i s b _ _ h => by obtain ⟨_, hb⟩ := inl_of h; rw [← hb]; exact Nat.zero_le _) (fun _ _ _ _ _ _ => trivial) (fun s _ => chkR_len s) n 0 [] (by omega) trivial
theorem fromR_len (t a : Int) (l : List S85) : (fromR t a l).1.length ≤ 12 := by
  unfold fromR
  by_cases h : ((1 ≤ t ∧ t ≤ 5) ∧ 1 ≤ a ∧ a ≤ 9) ∧ l.length ≤ 12
  · rw [if_pos h]; exact runS_len t a l _
  · rw [if_neg h]; exact Nat.zero_le _
theorem runS_long (t a : Int) (l : List S85) : runS t a l 13 = ([], false) :=
  run_inv (n := 13) (fun i (s : List S30) => s.length = i) (fun (b : List S30 × Bool) => b = ([], false)) (fun i s b _ _ h => by obtain ⟨_, hb⟩ := inl_of h; exact hb.symm) (fun i s s' _ hs h => by obtain ⟨_, hb⟩ := inr_of h; rw [← hb, List.length_append, hs]; rfl) (fun s hs => by
    unfold chkR
    rw [if_neg (fun hc => by have := consB_twelve hc; omega)]) 13 0 [] (by omega) rfl
theorem ev_specFrom_l0 (t a : Int) (l : List S85) (hl : l.length ≤ 1048576) (n : Nat) (hn : n ≤ l.length) (hx : n = l.length ∨ n = 13) (hy : n ≤ 13) : Ev (fun k => spec_FromTimeline.l0 k t a l [] 0) (runS t a l n) := by
  refine ev_run (fun k (s : List S30) i => spec_FromTimeline.l0 k t a l s i) n _ chkR (fun i s => s.length = i) ?_ ?_ ?_ n 0 [] (by omega) rfl
  · intro i s b hi hs h
    obtain ⟨hb, rfl⟩ := inl_of h
    unfold badS at hb
    simp only [Bool.and_eq_true, decide_eq_true_eq] at hb
    refine Ev.unr ?_
    simp only [spec_FromTimeline.l0]
    refine Ev.congr (fun k => if_pos (by omega)) (Ev.unr ?_)
    simp only [spec_FromTimeline.j2]
    rw [show wrap64 ((i : Int) - 1) = ((i - 1 : Nat) : Int) from by unfold wrap64; omega, rdVS, rdVS]
    refine Ev.eq_now fun k => ?_
    rw [if_pos (decide_eq_true (by omega)), if_pos (by omega), if_pos (by omega), if_pos (by omega), if_pos (by omega), if_pos (by omega), if_pos hb.2]
  · intro i s s' r hi hs h
    obtain ⟨hb, rfl⟩ := inr_of h
    refine ⟨by rw [List.length_append, hs]; rfl, fun he => ?_⟩
    simp only [spec_FromTimeline.l0]
    refine Ev.congr (fun k => if_pos (by omega)) (Ev.unr ?_)
    simp only [spec_FromTimeline.j2]
    rw [wrapS i (by omega), rdVS]
    refine Ev.congr (fun k => if_pos (decide_eq_true (by omega))) ?_
    by_cases h0 : 0 < i
    · rw [show wrap64 ((i : Int) - 1) = ((i - 1 : Nat) : Int) from by unfold wrap64; omega, rdVS]
      have hb' : ¬ (l.getD (i - 1) z85).f1 > (l.getD i z85).f0 := fun e => by
        unfold badS at hb
        rw [decide_eq_true h0, decide_eq_true e] at hb
        cases hb
      refine Ev.congr (fun k => if_pos (by omega)) ?_
      refine Ev.congr (fun k => if_pos (by omega)) ?_
      refine Ev.congr (fun k => if_pos (by omega)) ?_
      refine Ev.congr (fun k => if_pos (by omega)) ?_
      refine Ev.congr (fun k => if_pos (by omega)) ?_
      refine Ev.congr (fun k => if_neg hb') ?_
      refine Ev.congr (fun k => if_pos (by omega)) ?_
      exact he
    · refine Ev.congr (fun k => if_neg (by omega)) ?_
      refine Ev.congr (fun k => if_pos (by omega)) ?_
      refine Ev.congr (fun k => if_pos (by omega)) ?_
      refine Ev.congr (fun k => if_pos (by omega)) ?_
      exact he
  · intro s hs
    have hj : Ev (fun k => spec_FromTimeline.j2 k t a l s (n : Int) false) (chkR s) := by
      refine Ev.unr ?_
      simp only [spec_FromTimeline.j2]
      refine Ev.congr (fun k => if_neg (by simp)) ?_
      refine Ev.bind (f := fun k t => _) (ev_specChecked s) ?_
      exact Ev.now _
    simp only [spec_FromTimeline.l0]
    rcases hx with hx | hx
    · exact Ev.congr (fun k => if_neg (by omega)) hj
    · by_cases hlt : (n : Int) < (l.length : Int)
      · refine Ev.congr (fun k => if_pos hlt) ?_
        rw [decide_eq_false (show ¬ (n : Int) ≤ 12 from by omega)]
        exact hj
      · exact Ev.congr (fun k => if_neg hlt) hj
theorem ev_implFrom_l0 (t a : Int) (l : List S85) (hl : l.length ≤ 12) : Ev (fun k => impl_FromTimeline.l0 k t a l [] l (l.length : Int) 0) (runS t a l l.length) := by
  refine ev_run (fun k (s : List S30) i => impl_FromTimeline.l0 k t a l s l (l.length : Int) i) l.length _ chkR (fun i s => s.length = i) ?_ ?_ ?_ l.length 0 [] (by omega) rfl
  · intro i s b hi hs h
    obtain ⟨hb, rfl⟩ := inl_of h
    unfold badS at hb
    simp only [Bool.and_eq_true, decide_eq_true_eq] at hb
    refine Ev.eq_now fun k => ?_
    simp only [impl_FromTimeline.l0]
    rw [show wrap64 ((i : Int) - 1) = ((i - 1 : Nat) : Int) from by unfold wrap64; omega, rdVS, rdVS, if_pos (by omega), if_pos (by omega), if_pos (by omega), if_pos (by omega), if_pos (by omega), if_pos (by omega), if_pos hb.2]
  · intro i s s' r hi hs h
    obtain ⟨hb, rfl⟩ := inr_of h
    refine ⟨by rw [List.length_append, hs]; rfl, fun he => ?_⟩
    simp only [impl_FromTimeline.l0]
    rw [wrapS i (by omega), rdVS]
    refine Ev.congr (fun k => if_pos (by omega)) ?_
    refine Ev.congr (fun k => if_pos (by omega)) ?_
    refine Ev.congr (fun k => if_pos (by omega)) ?_
    by_cases h0 : 0 < i
    · rw [show wrap64 ((i : Int) - 1) = ((i - 1 : Nat) : Int) from by unfold wrap64; omega, rdVS]
      have hb' : ¬ (l.getD (i - 1) z85).f1 > (l.getD i z85).f0 := fun e => by
        unfold badS at hb
        rw [decide_eq_true h0, decide_eq_true e] at hb
        cases hb
      refine Ev.congr (fun k => if_pos (by omega)) ?_
      refine Ev.congr (fun k => if_pos (by omega)) ?_
      refine Ev.congr (fun k => if_pos (by omega)) ?_
      refine Ev.congr (fun k => if_neg hb') ?_
      refine Ev.congr (fun k => if_pos (by omega)) ?_
      exact he
    · refine Ev.congr (fun k => if_neg (by omega)) ?_
      refine Ev.congr (fun k => if_pos (by omega)) ?_
      exact he
  · intro s hs
    simp only [impl_FromTimeline.l0]
    refine Ev.congr (fun k => if_neg (by omega)) ?_
    refine Ev.bind (f := fun k t => _) (ev_checked s (by omega)) ?_
    exact Ev.now _
theorem ev_specFrom (t a : Int) (l : List S85) (hl : l.length ≤ 1048576) : Ev (fun k => spec_FromTimeline.f k t a l) (fromR t a l) := by
  unfold spec_FromTimeline.f fromR
  have hz : ∀ b, b = true → Ev (fun k => spec_FromTimeline.j0 k t a l [] b) (([] : List S30), false) := by
    rintro b rfl
    refine Ev.unr ?_
    simp only [spec_FromTimeline.j0]
    exact Ev.congr (fun k => if_pos trivial) (Ev.now _)
  refine Ev.bind (f := fun k t => _) (Ev.now _) ?_
  refine Ev.bind (f := fun k t => _) (Ev.eq_now (r := decide (1 ≤ t ∧ t ≤ 5)) fun k => by unfold spec_l15Topic.f; rw [l1In_f]; rfl) ?_
  by_cases h1 : 1 ≤ t ∧ t ≤ 5
  · refine Ev.congr (fun k => if_pos (decide_eq_true h1)) ?_
    refine Ev.bind (f := fun k t => _) (Ev.eq_now (r := decide (1 ≤ a ∧ a ≤ 9)) fun k => by unfold spec_l15Area.f; rw [l1In_f]; rfl) ?_
    by_cases h2 : 1 ≤ a ∧ a ≤ 9
    · rw [decide_eq_true h2]
      refine Ev.unr ?_
      simp only [spec_FromTimeline.j0]
      refine Ev.congr (fun k => if_neg (by simp)) ?_
      by_cases h3 : l.length ≤ 12
      · rw [if_pos ⟨⟨h1, h2⟩, h3⟩]
        exact ev_specFrom_l0 t a l hl l.length (Nat.le_refl _) (.inl rfl) (by omega)
      · rw [if_neg (fun c => h3 c.2), ← runS_long t a l]
        exact ev_specFrom_l0 t a l hl 13 (by omega) (.inr rfl) (Nat.le_refl _)
    · rw [if_neg (fun c => h2 c.1.2), decide_eq_false h2]
      exact hz _ rfl
  · rw [if_neg (fun c => h1 c.1.1)]
    exact Ev.congr (fun k => if_neg (by rw [decide_eq_false h1]; simp)) (hz _ rfl)
theorem isTopicArea_f2 (t a : Int) : impl_isTopicArea.f t a = some (decide ((1 ≤ t ∧ t ≤ 5) ∧ 1 ≤ a ∧ a ≤ 9)) := by
  unfold impl_isTopicArea.f
  simp only [within_f, Option.bind_some, decide_eq_true_eq]
  by_cases h1 : 1 ≤ t ∧ t ≤ 5
  · rw [if_pos h1]; congr 1; exact decide_eq_decide.2 ⟨fun h => ⟨h1, h⟩, fun h => h.2⟩
  · rw [if_neg h1]; congr 1; exact (decide_eq_false (fun h => h1 h.1)).symm
theorem ev_implFrom (t a : Int) (l : List S85) : Ev (fun k => impl_FromTimeline.f k t a l) (fromR t a l) := by
  unfold impl_FromTimeline.f fromR
  have hz : ∀ b, b = true → Ev (fun k => impl_FromTimeline.j0 k t a l b) (([] : List S30), false) := by
    rintro b rfl
    refine Ev.unr ?_
    simp only [impl_FromTimeline.j0]
    exact Ev.congr (fun k => if_pos trivial) (Ev.now _)
  refine Ev.bind (f := fun k t => _) (Ev.eq_now fun k => isTopicArea_f2 t a) ?_
  by_cases h1 : (1 ≤ t ∧ t ≤ 5) ∧ 1 ≤ a ∧ a ≤ 9
  · refine Ev.congr (fun k => if_pos (decide_eq_true h1)) ?_
    by_cases h3 : l.length ≤ 12
    · rw [if_pos ⟨h1, h3⟩, decide_eq_false (show ¬ (l.length : Int) > 12 from by omega)]
      refine Ev.unr ?_
      simp only [impl_FromTimeline.j0]
      refine Ev.congr (fun k => if_neg (by simp)) ?_
      exact ev_implFrom_l0 t a l h3
    · rw [if_neg (fun c => h3 c.2)]
      exact hz _ (decide_eq_true (by omega))
  · rw [if_neg (fun c => h1 c.1)]
    exact Ev.congr (fun k => if_neg (by rw [decide_eq_false h1]; simp)) (hz _ rfl)
end Go.Proofs.Ythmkgdlmegohoaa.Q
namespace Go.Proofs.Ythmkgdlmegohoaa.Pure
open Go.RowKit Go.Proofs.YthmkgdlmegohoaaW.PrintWords Go.Proofs.Ythmkgdlmegohoaa.Tells Go.Proofs.Ythmkgdlmegohoaa.Q Go.Proofs.Ythmkgdlmegohoaa.Gen
theorem FnExactFromTimeline : ∀ (a0 : Int) (a1 : Int) (l2 : List S87), I64 a0 → I64 a1 → l2.length ≤ maxLen → (∀ x ∈ l2, G87 x) → ∃ k, laws_FnExactFromTimeline.f k a0 a1 l2 = some true := by
  intro t a l _ _ hl _
  refine Ev.rounds ?_
  unfold laws_FnExactFromTimeline.f
  refine Ev.bind (f := fun k t => if t < 0 then some true else _) (Ev.eq_now fun k => szS_f l 1048576 (by omega) hl) ?_
  by_cases h : (l.length : Int) ≤ 1048576
  · rw [if_pos h]
    refine Ev.congr (fun k => if_neg (by omega)) ?_
    have hc := ev_toS l (by omega)
    have hw : (sconv l).length ≤ 1048576 := by rw [sconv_length]; omega
    have hsp := ev_specFrom t a (sconv l) hw
    have him := ev_implFrom t a (sconv l)
    have hv := fromR_len t a (sconv l)
    generalize fromR t a (sconv l) = v at hsp him hv
    refine Ev.bind (f := fun k t => _) hc ?_
    refine Ev.bind (f := fun k t => _) hsp ?_
    refine Ev.bind (f := fun k t => _) hc ?_
    refine Ev.bind (f := fun k t => _) him ?_
    refine Ev.bind (f := fun k t => _) (ev_eqVW _ (by omega)) ?_
    refine Ev.congr (fun k => if_pos (by first | rfl | trivial)) (Ev.unr ?_)
    simp only [laws_FnExactFromTimeline.j0, bne_self_eq_false, Bool.false_eq_true, if_false]
    refine Ev.bind (f := fun k t => _) hc ?_
    refine Ev.bind (f := fun k t => _) (ev_eqVS _ (by omega)) ?_
    refine Ev.congr (fun k => if_pos (by first | rfl | trivial)) ?_
    refine Ev.bind (f := fun k t => _) (ev_markVS (sconv l) (by omega)) ?_
    refine Ev.congr (fun k => if_neg (by omega)) ?_
    refine Ev.bind (f := fun k t => _) (ev_eqVW _ (by omega)) ?_
    refine Ev.congr (fun k => if_pos (by first | rfl | trivial)) (Ev.unr ?_)
    simp only [laws_FnExactFromTimeline.j1, bne_self_eq_false, Bool.false_eq_true, if_false]
    refine Ev.bind (f := fun k t => _) (ev_markVW _ (by omega)) ?_
    refine Ev.bind (f := fun k t => _) (ev_heldVW _ (by omega)) ?_
    refine Ev.congr (fun k => if_neg (by omega)) ?_
    refine Ev.congr (fun k => if_pos (by first | rfl | trivial)) ?_
    refine Ev.bind (f := fun k t => _) hc ?_
    refine Ev.bind (f := fun k t => _) him ?_
    refine Ev.bind (f := fun k t => _) (ev_eqVW _ (by omega)) ?_
    refine Ev.congr (fun k => if_pos (by first | rfl | trivial)) (Ev.unr ?_)
    simp only [laws_FnExactFromTimeline.j2, bne_self_eq_false, Bool.false_eq_true, if_false]
    refine Ev.bind (f := fun k t => _) (ev_heldVW _ (by omega)) ?_
    refine Ev.congr (fun k => if_neg (by omega)) ?_
    refine Ev.congr (fun k => if_pos rfl) (Ev.now _)
  · rw [if_neg h]
    exact Ev.now _
end Go.Proofs.Ythmkgdlmegohoaa.Pure
