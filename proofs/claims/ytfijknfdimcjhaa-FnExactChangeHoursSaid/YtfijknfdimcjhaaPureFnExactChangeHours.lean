/- The two programs name the same hours at which a level changes: for every list. -/
import Derived.Test.YtfijknfdimcjhaaQf12
import Derived.Test.YtfijknfdimcjhaaLaLevel
import Derived.Test.YtfijknfdimcjhaaLaInts
import Derived.Test.YtfijknfdimcjhaaLaMarkW
namespace Go.Proofs.Ytfijknfdimcjhaa.Q
open Go.RowKit Go.Proofs.YtfijknfdimcjhaaW.PrintWords Go.Proofs.Ytfijknfdimcjhaa.Gen
set_option linter.unusedVariables false
set_option linter.unusedSimpArgs false
theorem wrap_at {x : S25} (h : okW x = true) (q : Int) : atB x q = true ↔ x.f4 ≤ q ∧ q < x.f5 := by
  have ho := (okW_iff x).1 h
  unfold atB
  rw [decide_eq_true_eq, show wrap64 (x.f5 - 1) = x.f5 - 1 from by unfold wrap64; omega]
  omega
/-- On a consistent list at most one warning of a topic and an area holds at an hour. -/
theorem one_holds {l : List S25} (hc : consB l = true) {t a h : Int} {x y : S25} (hx : x ∈ l) (hy : y ∈ l) (h1 : holdsB t a h x = true) (h2 : holdsB t a h y = true) : x = y := by
  have ox := consB_ok hc x hx
  have oy := consB_ok hc y hy
  obtain ⟨i, hi, rfl⟩ := List.getElem_of_mem hx
  obtain ⟨j, hj, rfl⟩ := List.getElem_of_mem hy
  unfold holdsB at h1 h2
  simp only [Bool.and_eq_true, decide_eq_true_eq] at h1 h2
  have w1 := (wrap_at ox h).1 h1.2.2
  have w2 := (wrap_at oy h).1 h2.2.2
  have hm : meetB l[i] l[j] = true := by
    unfold meetB
    simp only [Bool.and_eq_true, decide_eq_true_eq]
    exact ⟨h1.1.trans h2.1.symm, h1.2.1.trans h2.2.1.symm, by omega, by omega⟩
  unfold consB at hc
  simp only [Bool.and_eq_true, decide_eq_true_eq] at hc
  have key : ∀ p q (hp : p < l.length) (hq : q < l.length), p < q → meetB l[q] l[p] = true → False := by
    intro p q hp hq hpq hpm
    have := (hc.2 q hq).2
    unfold clearB at this
    rw [any_take l _ q (by omega)] at this
    simp only [Bool.not_eq_true', decide_eq_false_iff_not, not_exists, not_and, Bool.not_eq_true] at this
    have := this p hpq
    rw [getD_lt l z25 q hq, getD_lt l z25 p hp, hpm] at this
    cases this
  rcases Nat.lt_trichotomy i j with h | h | h
  · exact (key i j hi hj h (by rw [meetB_comm]; exact hm)).elim
  · subst h; rfl
  · exact (key j i hj hi h hm).elim
theorem lvl_of {l : List S25} (hc : consB l = true) {t a h : Int} {x : S25} (hx : x ∈ l) (h1 : holdsB t a h x = true) : lvl l t a h = x.f2 := by
  rw [lvl_find]
  cases hf : l.find? (holdsB t a h) with
  | none => exact absurd h1 (List.find?_eq_none.1 hf x hx)
  | some y => rw [one_holds hc hx (List.mem_of_find?_eq_some hf) h1 (List.find?_some hf)]; rfl
theorem lvl_none {l : List S25} {t a h : Int} (h1 : ∀ x ∈ l, holdsB t a h x = false) : lvl l t a h = 0 := by
  rw [lvl_find, List.find?_eq_none.2 (fun x hx => by rw [h1 x hx]; simp)]
  rfl
def chgB (l : List S25) (h : Int) : Bool := l.any fun w => lvl l w.f1 w.f3 (h - 1) != lvl l w.f1 w.f3 h
def chgI (l : List S25) (h : Int) : Bool := l.any fun x => (decide (x.f4 = h) || decide (x.f5 = h)) && (lvl l x.f1 x.f3 h != lvl l x.f1 x.f3 (h - 1))
theorem holdsB_iff {l : List S25} (hc : consB l = true) {x : S25} (hx : x ∈ l) (t a h : Int) : holdsB t a h x = true ↔ x.f1 = t ∧ x.f3 = a ∧ x.f4 ≤ h ∧ h < x.f5 := by
  unfold holdsB
  simp only [Bool.and_eq_true, decide_eq_true_eq]
  rw [wrap_at (consB_ok hc x hx)]
theorem chg_same {l : List S25} (hc : consB l = true) (h : Int) : chgI l h = chgB l h := by
  rw [Bool.eq_iff_iff]
  unfold chgI chgB
  rw [List.any_eq_true, List.any_eq_true]
  constructor
  · rintro ⟨x, hx, hp⟩
    simp only [Bool.and_eq_true, bne_iff_ne] at hp
    exact ⟨x, hx, by rw [bne_iff_ne]; exact fun e => hp.2 e.symm⟩
  · rintro ⟨w, hw, hp⟩
    rw [bne_iff_ne] at hp
    have fin : ∀ x ∈ l, x.f1 = w.f1 → x.f3 = w.f3 → (x.f4 = h ∨ x.f5 = h) → ∃ x ∈ l, ((decide (x.f4 = h) || decide (x.f5 = h)) && (lvl l x.f1 x.f3 h != lvl l x.f1 x.f3 (h - 1))) = true := by
      intro x hx e1 e2 e3
      refine ⟨x, hx, ?_⟩
      simp only [Bool.and_eq_true, Bool.or_eq_true, decide_eq_true_eq, bne_iff_ne]
      exact ⟨e3, by rw [e1, e2]; exact fun e => hp e.symm⟩
    by_cases hy : ∃ y ∈ l, holdsB w.f1 w.f3 (h - 1) y = true
    · obtain ⟨y, hy, hh⟩ := hy
      have h1 := (holdsB_iff hc hy _ _ _).1 hh
      have hn : ¬ holdsB w.f1 w.f3 h y = true := fun hh2 => hp (by rw [lvl_of hc hy hh, lvl_of hc hy hh2])
      rw [holdsB_iff hc hy] at hn
      exact fin y hy h1.1 h1.2.1 (.inr (by omega))
    · by_cases hz : ∃ z ∈ l, holdsB w.f1 w.f3 h z = true
      · obtain ⟨z, hz, hh⟩ := hz
        have h1 := (holdsB_iff hc hz _ _ _).1 hh
        have hn : ¬ holdsB w.f1 w.f3 (h - 1) z = true := fun hh2 => hy ⟨z, hz, hh2⟩
        rw [holdsB_iff hc hz] at hn
        exact fin z hz h1.1 h1.2.1 (.inl (by omega))
      · refine absurd ?_ hp
        rw [lvl_none (fun x hx => Bool.eq_false_iff.2 fun e => hy ⟨x, hx, e⟩), lvl_none (fun x hx => Bool.eq_false_iff.2 fun e => hz ⟨x, hx, e⟩)]
def changeV (l : List S25) : List Int := run (fun i (s : List Int) => .inr (if chgB l (i : Int) = true then s ++ [(i : Int)] else s)) (fun s => s) 241 0 []
theorem changeV_len (l : List S25) : (changeV l).length ≤ 241 :=
  run_inv (n := 241) (fun i (s : List Int) => s.length ≤ i) (fun (b : List Int) => b.length ≤ 241) (fun i s b _ _ hf => by cases hf) (fun i s s' _ hs hf => by
    cases hf
    split
    · simp; omega
    · omega) (fun s hs => hs) 241 0 [] (by omega) (by simp)
def changeR (l : List S25) : List Int × Bool := if consB l = true then (changeV l, true) else ([], false)
theorem changeR_len (l : List S25) : (changeR l).1.length ≤ 241 := by
  have hv := changeV_len l
  unfold changeR
  generalize changeV l = v at hv
  by_cases hc : consB l = true
  · rw [if_pos hc]; exact hv
  · rw [if_neg hc]; exact Nat.zero_le _
theorem ev_change_l1 (l : List S25) (hl : l.length ≤ 12) (s : List Int) (h : Nat) (hh : h < 241) (hs : s.length ≤ 241) (r : List Int × Bool) (hr : Ev (fun k => spec_ChangeHours.l0 k l (if chgB l (h : Int) = true then s ++ [(h : Int)] else s) ((h + 1 : Nat) : Int)) r) : Ev (fun k => spec_ChangeHours.l1 k l s (h : Int) false 0) r := by
  have key := ev_run (fun k (b : Bool) i => spec_ChangeHours.l1 k l s (h : Int) b i) l.length (fun i (b : Bool) => (.inr (b || (lvl l (l.getD i z25).f1 (l.getD i z25).f3 ((h : Int) - 1) != lvl l (l.getD i z25).f1 (l.getD i z25).f3 (h : Int))) : (List Int × Bool) ⊕ Bool)) (fun _ => r) (fun i b => b = (l.take i).any (fun w => lvl l w.f1 w.f3 ((h : Int) - 1) != lvl l w.f1 w.f3 (h : Int)))
    (by intro i s b hi _ hf; cases hf)
    (by
      intro i b s' r' hi hs hf
      cases hf
      refine ⟨?_, fun he => ?_⟩
      · rw [hs, List.take_succ_eq_append_getElem hi, List.any_append, ← getD_lt l z25 i hi]
        simp
      · simp only [spec_ChangeHours.l1]
        refine Ev.congr (fun k => if_pos (by omega)) ?_
        refine Ev.congr (fun k => if_pos (by omega)) ?_
        rw [rdW, wrapS i (by omega), show wrap64 ((h : Int) - 1) = (h : Int) - 1 from by unfold wrap64; omega]
        refine Ev.bind (f := fun k t => _) (ev_l15Level l (by omega) _ _ _) ?_
        refine Ev.bind (f := fun k t => _) (ev_l15Level l (by omega) _ _ _) ?_
        cases b with
        | true => refine Ev.congr (fun k => if_pos rfl) ?_; exact he
        | false => refine Ev.congr (fun k => if_neg (by simp)) ?_; exact he)
    (by
      intro b hb
      rw [List.take_length] at hb
      refine Ev.congr (fun k => ?_) hr
      simp only [spec_ChangeHours.l1]
      rw [if_neg (by omega), hb, wrapS h (by omega)]
      unfold chgB
      cases l.any (fun w => lvl l w.f1 w.f3 ((h : Int) - 1) != lvl l w.f1 w.f3 (h : Int)) with
      | true => rw [if_pos rfl, if_pos (by omega), if_pos rfl]
      | false => rfl)
    l.length 0 false (by omega) (by simp)
  have hv : run (fun i (b : Bool) => (.inr (b || (lvl l (l.getD i z25).f1 (l.getD i z25).f3 ((h : Int) - 1) != lvl l (l.getD i z25).f1 (l.getD i z25).f3 (h : Int))) : (List Int × Bool) ⊕ Bool)) (fun _ => r) l.length 0 false = r :=
    run_inv (n := l.length) (fun _ _ => True) (fun b => b = r) (fun i s b _ _ hf => by cases hf) (fun _ _ _ _ _ _ => trivial) (fun _ _ => rfl) l.length 0 false (by omega) trivial
  rw [hv] at key
  exact key
theorem ev_specChangeHours (l : List S25) : Ev (fun k => spec_ChangeHours.f k l) (changeR l) := by
  unfold spec_ChangeHours.f changeR
  simp only [Option.bind_some]
  refine Ev.bind (f := fun k t => _) (ev_l14List l) ?_
  by_cases hc : consB l = true
  · simp only [hc, if_true]
    have key := ev_run (fun k (s : List Int) i => spec_ChangeHours.l0 k l s i) 241 (fun i (s : List Int) => .inr (if chgB l (i : Int) = true then s ++ [(i : Int)] else s)) (fun s => (s, true)) (fun i s => s.length ≤ i)
      (by intro i s b hi _ hf; cases hf)
      (by
        intro i s s' r hi hs hf
        cases hf
        refine ⟨by split <;> (try simp) <;> omega, fun he => ?_⟩
        simp only [spec_ChangeHours.l0]
        refine Ev.congr (fun k => if_pos (by omega)) ?_
        exact ev_change_l1 l (consB_len hc) s i hi (by omega) r he)
      (by
        intro s _
        refine Ev.eq_now fun k => ?_
        simp only [spec_ChangeHours.l0]
        rw [if_neg (by omega)])
      241 0 [] (by omega) (by simp)
    rw [run_map (fun s => (s, true))] at key
    exact key
  · simp only [hc, if_false]
    exact Ev.now _
theorem ev_implChangeHours (l : List S25) (hl : l.length ≤ 4611686018427387904) : Ev (fun k => impl_ChangeHours.f k l) (changeR l) := by
  unfold impl_ChangeHours.f changeR
  refine Ev.bind (f := fun k t => _) (ev_IsConsistent l hl) ?_
  by_cases hc : consB l = true
  · simp only [hc, if_true]
    have key := ev_run (fun k (s : List Int) i => impl_ChangeHours.l0 k l s i) 241 (fun i (s : List Int) => .inr (if chgB l (i : Int) = true then s ++ [(i : Int)] else s)) (fun s => (s, true)) (fun i s => s.length ≤ i)
      (by intro i s b hi _ hf; cases hf)
      (by
        intro i s s' r hi hs hf
        cases hf
        refine ⟨by split <;> (try simp) <;> omega, fun he => Ev.congr (fun k => ?_) he⟩
        simp only [impl_ChangeHours.l0, impl_isChangeHour.f]
        rw [if_pos (by omega), if_pos hl, show wrap64 ((i : Int) - 1) = (i : Int) - 1 from by unfold wrap64; omega, wrapS i (by omega)]
        simp only [Option.bind_some]
        rw [show (l.any fun x => (decide (x.f4 = (i : Int)) || decide (x.f5 = (i : Int))) && (lvl l x.f1 x.f3 (i : Int) != lvl l x.f1 x.f3 ((i : Int) - 1))) = chgB l (i : Int) from chg_same hc (i : Int)]
        by_cases ha : chgB l (i : Int) = true
        · rw [if_pos ha, if_pos ha, if_pos (by omega)]
        · rw [if_neg ha, if_neg ha])
      (by
        intro s _
        refine Ev.eq_now fun k => ?_
        simp only [impl_ChangeHours.l0]
        rw [if_neg (by omega)])
      241 0 [] (by omega) (by simp)
    rw [run_map (fun s => (s, true))] at key
    exact key
  · simp only [hc, if_false]
    exact Ev.now _
end Go.Proofs.Ytfijknfdimcjhaa.Q
set_option linter.unusedVariables false
set_option linter.unusedSimpArgs false
namespace Go.Proofs.Ytfijknfdimcjhaa.Pure
open Go.RowKit Go.Proofs.YtfijknfdimcjhaaW.PrintWords Go.Proofs.Ytfijknfdimcjhaa.Tells Go.Proofs.Ytfijknfdimcjhaa.Q Go.Proofs.Ytfijknfdimcjhaa.Gen
theorem FnExactChangeHours : ∀ (l0 : List S23), l0.length ≤ maxLen → (∀ x ∈ l0, G23 x) → ∃ k, laws_FnExactChangeHours.f k l0 = some true := by
  intro l hl _
  refine Ev.rounds ?_
  unfold laws_FnExactChangeHours.f
  refine Ev.bind (f := fun k t => if t < 0 then some true else _) (Ev.eq_now fun k => szW_f l 1048576 (by omega) hl) ?_
  by_cases h : (l.length : Int) ≤ 1048576
  · rw [if_pos h]
    refine Ev.congr (fun k => if_neg (by omega)) ?_
    have hc := ev_toW l (by omega)
    have hw : (wconv l).length ≤ 1048576 := by rw [wconv_length]; omega
    have hsp := ev_specChangeHours (wconv l)
    have him := ev_implChangeHours (wconv l) (by omega)
    have hv := changeR_len (wconv l)
    generalize changeR (wconv l) = v at hsp him hv
    refine Ev.bind (f := fun k t => _) hc ?_
    refine Ev.bind (f := fun k t => _) hsp ?_
    refine Ev.bind (f := fun k t => _) hc ?_
    refine Ev.bind (f := fun k t => _) him ?_
    refine Ev.bind (f := fun k t => _) (ev_eqI _ (by omega)) ?_
    refine Ev.congr (fun k => if_pos rfl) (Ev.unr ?_)
    simp only [laws_FnExactChangeHours.j0, bne_self_eq_false, Bool.false_eq_true, if_false]
    refine Ev.bind (f := fun k t => _) hc ?_
    refine Ev.bind (f := fun k t => _) (ev_eqW _ (by omega)) ?_
    refine Ev.congr (fun k => if_pos rfl) ?_
    obtain ⟨l', hm⟩ := ev_markW (wconv l) hw
    refine Ev.bind (f := fun k t => _) hm ?_
    refine Ev.congr (fun k => if_neg (by omega)) ?_
    refine Ev.bind (f := fun k t => _) (ev_eqI _ (by omega)) ?_
    refine Ev.congr (fun k => if_pos rfl) (Ev.unr ?_)
    simp only [laws_FnExactChangeHours.j1, bne_self_eq_false, Bool.false_eq_true, if_false]
    refine Ev.bind (f := fun k t => _) (ev_markI _ (by omega)) ?_
    refine Ev.bind (f := fun k t => _) (ev_heldI _ (by omega)) ?_
    refine Ev.congr (fun k => if_neg (by omega)) ?_
    refine Ev.congr (fun k => if_pos rfl) ?_
    refine Ev.bind (f := fun k t => _) hc ?_
    refine Ev.bind (f := fun k t => _) him ?_
    refine Ev.bind (f := fun k t => _) (ev_eqI _ (by omega)) ?_
    refine Ev.congr (fun k => if_pos rfl) (Ev.unr ?_)
    simp only [laws_FnExactChangeHours.j2, bne_self_eq_false, Bool.false_eq_true, if_false]
    refine Ev.bind (f := fun k t => _) (ev_heldI _ (by omega)) ?_
    refine Ev.congr (fun k => if_neg (by omega)) ?_
    refine Ev.congr (fun k => if_pos rfl) (Ev.now _)
  · rw [if_neg h]
    exact Ev.now _
end Go.Proofs.Ytfijknfdimcjhaa.Pure
