/- Whatever is issued, extended, changed or cancelled: at most one warning of a topic and an area at each hour. -/
import Derived.Test.YtfemneoahkglmaaQf5
import Derived.Test.YtfemneoahkglmaaLaOkAll
import Derived.Test.YtfemneoahkglmaaLaGen
set_option linter.unusedVariables false
set_option linter.unusedSimpArgs false
namespace Go.Proofs.Ytfemneoahkglmaa.Q
open Go.RowKit Go.Proofs.YtfemneoahkglmaaW.PrintWords Go.Proofs.Ytfemneoahkglmaa.Gen
theorem getD_takeE (l : List S37) (i j : Nat) (h : j < i) : (l.take i).getD j z37 = l.getD j z37 := getD_take l z37 j i h
/-- The law's own test on a consistent list. -/
theorem ev_once (l : List S37) (hc : consB l = true) : Ev (fun k => laws_tdOnce.f k l) true := by
  have hl := consB_len hc
  have hcc := ((consB_iff l).1 hc).2
  unfold laws_tdOnce.f
  have key := ev_allN (fun k i => laws_tdOnce.l0 k l l (l.length : Int) i) l.length (fun _ => true) true false
    (by
      intro i r hi _ he
      simp only [laws_tdOnce.l0]
      refine Ev.congr (fun k => if_pos (by omega)) (Ev.congr (fun k => if_pos (by omega)) (Ev.congr (fun k => if_pos (by omega)) (Ev.congr (fun k => if_pos (by omega)) ?_)))
      refine Ev.bind (f := fun k t => _) (Ev.now _) ?_
      rw [Int.toNat_natCast]
      have hlen : (l.take i).length = i := by rw [List.length_take]; omega
      rw [hlen]
      have key2 := ev_allN (fun k j => laws_tdOnce.l1 k l l (l.length : Int) (i : Int) (l.take i) (i : Int) j (l.getD i z37).f0 (l.getD i z37).f1 (l.getD i z37).f2 (l.getD i z37).f3 (l.getD i z37).f4 (l.getD i z37).f5) i (fun _ => true) r true
        (by
          intro j r' hj _ he'
          refine Ev.congr (fun k => ?_) he'
          have hm := (hcc i hi).2.2 j hj
          simp only [laws_tdOnce.l1]
          rw [hlen, if_pos (by omega), if_pos (by omega), if_pos (by omega), rdW, getD_takeE l i j hj, wrapS j (by omega)]
          unfold meetB at hm
          by_cases c1 : (l.getD i z37).f1 = (l.getD j z37).f1
          · rw [if_pos c1]
            by_cases c2 : (l.getD i z37).f3 = (l.getD j z37).f3
            · rw [if_pos c2]
              by_cases c3 : (l.getD i z37).f4 < (l.getD j z37).f5
              · rw [if_pos c3, if_neg]
                intro c4
                rw [decide_eq_true c1, decide_eq_true c2, decide_eq_true c3, decide_eq_true c4] at hm
                cases hm
              · rw [if_neg c3]
            · rw [if_neg c2]
          · rw [if_neg c1])
        (by intro j _ h; cases h)
        (by
          refine Ev.congr (fun k => ?_) he
          simp only [laws_tdOnce.l1]
          rw [if_neg (by omega), wrapS i (by omega)])
      rw [if_pos (fun _ _ => rfl)] at key2
      exact key2)
    (by intro i _ h; cases h)
    (Ev.eq_now fun k => by
      simp only [laws_tdOnce.l0]
      rw [if_neg (by omega)])
  rw [if_pos (fun _ _ => rfl)] at key
  exact key
end Go.Proofs.Ytfemneoahkglmaa.Q
namespace Go.Proofs.Ytfemneoahkglmaa.Pure
open Go.RowKit Go.Proofs.YtfemneoahkglmaaW.PrintWords Go.Proofs.Ytfemneoahkglmaa.Tells Go.Proofs.Ytfemneoahkglmaa.Q Go.Proofs.Ytfemneoahkglmaa.Gen
theorem FnEveryWarning : ∀ (l0 : List S37) (x1 : S37) (a2 : Int) (a3 : Int) (a4 : Int), l0.length ≤ maxLen → (∀ x ∈ l0, G37 x) → G37 x1 → I64 a2 → I64 a3 → I64 a4 → ∃ k, laws_FnEveryWarning.f k l0 x1.f0 x1.f1 x1.f2 x1.f3 x1.f4 x1.f5 a2 a3 a4 = some true := by
  intro l x i v h hl _ _ _ _ _
  refine Ev.rounds ?_
  unfold laws_FnEveryWarning.f
  by_cases hb : (l.length : Int) > 4096
  · exact Ev.congr (fun k => if_pos hb) (Ev.now _)
  · refine Ev.congr (fun k => if_neg hb) ?_
    have hl1 : l.length ≤ 1048576 := by omega
    refine Ev.bind (f := fun k t => _) (ev_IsConsistent l (by omega)) ?_
    refine Ev.bind (f := fun k t => _) (ev_specCons l) ?_
    refine Ev.congr (fun k => if_neg (by simp)) ?_
    have o1 := fun e => @issue_ok l x e
    have o2 := fun e => @extend_ok l i h e
    have o3 := fun e => @change_ok l i v h e
    have o4 := fun e => @cancel_ok l i h e
    refine Ev.bind (f := fun k t => _) (ev_implIssue l hl1 x) ?_
    refine Ev.bind (f := fun k t => _) (ev_implExtend l hl1 i h) ?_
    refine Ev.bind (f := fun k t => _) (ev_implChange l hl1 i v h) ?_
    refine Ev.bind (f := fun k t => _) (ev_implCancel l hl1 i h) ?_
    refine Ev.bind (f := fun k t => _) (ev_specIssue l hl1 x) ?_
    refine Ev.bind (f := fun k t => _) (ev_specExtend l hl1 i h) ?_
    refine Ev.bind (f := fun k t => _) (ev_specChange l hl1 i v h) ?_
    refine Ev.bind (f := fun k t => _) (ev_specCancel l hl1 i h) ?_
    refine Ev.congr (fun k => if_neg (by simp)) (Ev.congr (fun k => if_neg (by simp)) (Ev.congr (fun k => if_neg (by simp)) (Ev.unr ?_)))
    simp only [laws_FnEveryWarning.j0]
    refine Ev.congr (fun k => if_neg (by simp)) ?_
    have a1 : (issueR l x).2.2 = true → consB (issueR l x).1 = true ∧ (issueR l x).1.length = l.length + 1 := fun e => by
      obtain ⟨_, h2, h3⟩ := o1 e
      rw [h3]
      exact ⟨h2, addW_length l x⟩
    generalize issueR l x = r1 at a1 ⊢
    generalize extendR l i h = r2 at o2 ⊢
    generalize changeLR l i v h = r3 at o3 ⊢
    generalize cancelR l i h = r4 at o4 ⊢
    -- the last three tests, one behind the other
    have last : Ev (fun k => if r4.2 = true then ((laws_tdOnce.f k r4.1).bind fun t => some t) else some true) true := by
      by_cases e : r4.2 = true
      · exact Ev.congr (fun k => if_pos e) (Ev.bind (f := fun k t => _) (ev_once r4.1 (o4 e).1) (Ev.now _))
      · exact Ev.congr (fun k => if_neg e) (Ev.now _)
    have third : Ev (fun k => if r3.2.2 = true then ((laws_tdOnce.f k r3.1).bind fun t => (if t = true then (if r4.2 = true then ((laws_tdOnce.f k r4.1).bind fun t => some t) else some true) else none)) else (if r4.2 = true then ((laws_tdOnce.f k r4.1).bind fun t => some t) else some true)) true := by
      by_cases e : r3.2.2 = true
      · refine Ev.congr (fun k => if_pos e) (Ev.bind (f := fun k t => _) (ev_once r3.1 (o3 e)) ?_)
        exact Ev.congr (fun k => if_pos rfl) last
      · exact Ev.congr (fun k => if_neg e) last
    have second : ∀ z, z = false → Ev (fun k => laws_FnEveryWarning.j1 k l r1.1 r1.2.2 r2.1 r2.2 r3.1 r3.2.2 r4.1 r4.2 z) true := by
      rintro _ rfl
      refine Ev.unr ?_
      simp only [laws_FnEveryWarning.j1]
      refine Ev.congr (fun k => if_neg (by decide)) ?_
      by_cases e1 : r1.2.2 = true
      · refine Ev.congr (fun k => if_pos e1) (Ev.bind (f := fun k t => _) (ev_once r1.1 (a1 e1).1) ?_)
        refine Ev.congr (fun k => if_pos rfl) ?_
        have hlen := (a1 e1).2
        refine Ev.congr (fun k => if_pos (by unfold wrap64; omega)) ?_
        by_cases e2 : r2.2 = true
        · refine Ev.congr (fun k => if_pos e2) (Ev.bind (f := fun k t => _) (ev_once r2.1 (o2 e2).1) ?_)
          exact Ev.congr (fun k => if_pos rfl) third
        · exact Ev.congr (fun k => if_neg e2) third
      · refine Ev.congr (fun k => if_neg e1) ?_
        by_cases e2 : r2.2 = true
        · refine Ev.congr (fun k => if_pos e2) (Ev.bind (f := fun k t => _) (ev_once r2.1 (o2 e2).1) ?_)
          exact Ev.congr (fun k => if_pos rfl) third
        · exact Ev.congr (fun k => if_neg e2) third
    refine Ev.bind (f := fun k t => _) (ev_IsConsistent l (by omega)) ?_
    by_cases hc : consB l = true
    · refine Ev.congr (fun k => if_pos hc) (Ev.bind (f := fun k t => _) (ev_once l hc) ?_)
      exact second _ rfl
    · exact Ev.congr (fun k => if_neg hc) (second _ rfl)
end Go.Proofs.Ytfemneoahkglmaa.Pure
