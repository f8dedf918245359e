/- Texts of this seat, put together: LaDrawK, PureFnTracking. -/
import Derived.Test.YtcfjglbnhbgbdaaBFnTracking0
import Derived.Test.YtcfjglbnhbgbdaaBFnTracking1
import Derived.Test.YtcfjglbnhbgbdaaBFnTracking6
/- Drawn storms and trackings: each draw comes to an end. -/
set_option linter.unusedVariables false
set_option linter.unusedSimpArgs false
namespace Go.Proofs.Ytcfjglbnhbgbdaa.Q
open Go.RowKit Go.Proofs.YtcfjglbnhbgbdaaW.PrintWords Go.Proofs.Ytcfjglbnhbgbdaa.Gen
theorem len_app (L : List S54) (x : S54) : (L ++ [x]).length = L.length + 1 := by rw [List.length_append, List.length_singleton]
theorem storms_l1 {l : List Int} (h : Cod l) : ∀ (d : Nat) (L : List S54) (m s q : Int), m + (d : Int) = 7 → 0 ≤ m → L.length + d ≤ 1000 → 0 ≤ s → s + 2 * (d : Int) ≤ 999999000 →
    ∃ L' s' q', Ev (fun k => spec_l1Cur_storms.l1 k L m l s q) (L', s', q') ∧ L'.length ≤ L.length + d ∧ s ≤ s' ∧ s' ≤ s + 2 * (d : Int) + 2 := by
  intro d
  induction d with
  | zero =>
    intro L m s q hm hm0 hL h0 h1
    obtain ⟨x, s1, q1, e1, x0, x1, u1, v1⟩ := pick_ok h s q h0 (by omega) 2
    refine ⟨L, s1, q1, Ev.unr ?_, by omega, by omega, by omega⟩
    simp only [spec_l1Cur_storms.l1, e1, Option.bind_some]
    by_cases c : (L.length : Int) < wrap64 (5 + x)
    · exact Ev.congr (fun k => (if_pos c).trans (if_neg (by omega))) (Ev.now _)
    · exact Ev.congr (fun k => if_neg c) (Ev.now _)
  | succ d ih =>
    intro L m s q hm hm0 hL h0 h1
    obtain ⟨x, s1, q1, e1, x0, x1, u1, v1⟩ := pick_ok h s q h0 (by omega) 2
    by_cases c : (L.length : Int) < wrap64 (5 + x)
    · obtain ⟨L', s', q', e', l', u', v'⟩ := ih (L ++ [⟨m, m, 1, 5⟩]) (m + 1) s1 q1 (by omega) (by omega) (by rw [len_app]; omega) (by omega) (by omega)
      rw [len_app] at l'
      refine ⟨L', s', q', Ev.unr ?_, by omega, by omega, by omega⟩
      simp only [spec_l1Cur_storms.l1, e1, Option.bind_some]
      rw [show wrap64 (m + 1) = m + 1 from by unfold wrap64; omega]
      exact Ev.congr (fun k => (if_pos c).trans ((if_pos (by omega)).trans (if_pos (by omega)))) e'
    · refine ⟨L, s1, q1, Ev.unr ?_, by omega, by omega, by omega⟩
      simp only [spec_l1Cur_storms.l1, e1, Option.bind_some]
      exact Ev.congr (fun k => if_neg c) (Ev.now _)
theorem storms_l0 {l : List Int} (h : Cod l) : ∀ (n : Nat) (L : List S54) (s q : Int), L.length + n ≤ 900 → 0 ≤ s → s + 8 * (n : Int) ≤ 999998000 →
    ∃ L' s' q', Ev (fun k => spec_l1Cur_storms.l0 k L (n : Int) l s q) (L', s', q') ∧ L'.length ≤ L.length + n + 7 ∧ s ≤ s' ∧ s' ≤ s + 8 * (n : Int) + 30 := by
  intro n
  induction n with
  | zero =>
    intro L s q hL h0 h1
    obtain ⟨x, s1, q1, e1, x0, x1, u1, v1⟩ := pick_ok h s q h0 (by omega) 24
    by_cases c : x = 0
    · obtain ⟨y, s2, q2, e2, _, u2, v2⟩ := among_ok h s1 q1 (by omega) (by omega) [8, -1, 7] (by decide)
      obtain ⟨z, s3, q3, e3, _, u3, v3⟩ := among_ok h s2 q2 (by omega) (by omega) [64, 65, 0] (by decide)
      refine ⟨L ++ [⟨y, 7, z, 9000⟩], s3, q3, Ev.unr ?_, by rw [len_app]; omega, by omega, by omega⟩
      simp only [spec_l1Cur_storms.l0, e1, Option.bind_some]
      refine Ev.congr (fun k => (if_neg (by omega)).trans (if_pos c)) ?_
      simp only [e2, e3, Option.bind_some]
      exact Ev.congr (fun k => if_pos (by omega)) (Ev.now _)
    · by_cases c1 : x = 1
      · obtain ⟨L', s', q', e', l', u', v'⟩ := storms_l1 h 7 L 0 s1 q1 (by omega) (by omega) (by omega) (by omega) (by omega)
        refine ⟨L', s', q', Ev.unr ?_, by omega, by omega, by omega⟩
        simp only [spec_l1Cur_storms.l0, e1, Option.bind_some]
        exact Ev.congr (fun k => (if_neg (by omega)).trans ((if_neg c).trans (if_pos c1))) e'
      · refine ⟨L, s1, q1, Ev.unr ?_, by omega, by omega, by omega⟩
        simp only [spec_l1Cur_storms.l0, e1, Option.bind_some]
        exact Ev.congr (fun k => (if_neg (by omega)).trans ((if_neg c).trans (if_neg c1))) (Ev.now _)
  | succ n ih =>
    intro L s q hL h0 h1
    obtain ⟨a, s1, q1, e1, _, _, u1, v1⟩ := pick_ok h s q h0 (by omega) 8
    obtain ⟨b, s2, q2, e2, _, _, u2, v2⟩ := pick_ok h s1 q1 (by omega) (by omega) 8
    obtain ⟨c, s3, q3, e3, _, _, u3, v3⟩ := pick_ok h s2 q2 (by omega) (by omega) 9
    obtain ⟨d, s4, q4, e4, _, _, u4, v4⟩ := pick_ok h s3 q3 (by omega) (by omega) 60
    obtain ⟨L', s', q', e', l', u', v'⟩ := ih (L ++ [⟨a, b, wrap64 (1 + c), wrap64 (20 + d)⟩]) s4 q4 (by rw [len_app]; omega) (by omega) (by omega)
    rw [len_app] at l'
    refine ⟨L', s', q', Ev.unr ?_, by omega, by omega, by omega⟩
    simp only [spec_l1Cur_storms.l0, e1, e2, e3, e4, Option.bind_some]
    rw [show wrap64 (((n + 1 : Nat) : Int) - 1) = (n : Int) from by unfold wrap64; omega]
    exact Ev.congr (fun k => (if_pos (by omega)).trans (if_pos (by omega))) e'
theorem storms_ok {l : List Int} (h : Cod l) (s q : Int) (h0 : 0 ≤ s) (h1 : s ≤ 999990000) : ∃ L' s' q', Ev (fun k => spec_l1Cur_storms.f k l s q) (L', s', q') ∧ L'.length ≤ 12 ∧ s ≤ s' ∧ s' ≤ s + 100 := by
  obtain ⟨x, s1, q1, e1, x0, x1, u1, v1⟩ := pick_ok h s q h0 (by omega) 5
  obtain ⟨n, rfl⟩ : ∃ n : Nat, x = (n : Int) := ⟨x.toNat, by omega⟩
  obtain ⟨L', s', q', e', l', u', v'⟩ := storms_l0 h n [] s1 q1 (by rw [List.length_nil]; omega) (by omega) (by omega)
  rw [List.length_nil] at l'
  refine ⟨L', s', q', ?_, by omega, by omega, by omega⟩
  unfold spec_l1Cur_storms.f
  simp only [e1, Option.bind_some]
  exact e'
theorem tracking_l0 {l : List Int} (h : Cod l) (a b : List S54) (ha : a.length ≤ 100) (hb : b.length ≤ 100) : ∀ (d i : Nat) (T : List Int) (s q : Int), i + d = a.length → T.length ≤ i → 0 ≤ s → s + 2 * (d : Int) ≤ 999998000 →
    ∃ T' s' q', Ev (fun k => spec_l1Cur_tracking.l0 k a b T (i : Int) l s q) (T', s', q') ∧ T'.length ≤ 100 ∧ s ≤ s' ∧ s' ≤ s + 2 * (d : Int) + 4 := by
  intro d
  induction d with
  | zero =>
    intro i T s q hi hT h0 h1
    by_cases c : (T.length : Int) > 0
    · obtain ⟨t, s1, q1, e1, u1, v1⟩ := one_ok h s q h0 (by omega) 12
      cases t with
      | true =>
        obtain ⟨x, s2, q2, e2, _, _, u2, v2⟩ := pick_ok h s1 q1 (by omega) (by omega) 7
        refine ⟨T.set (0 : Int).toNat (wrap64 (x - 1)), s2, q2, Ev.unr ?_, by rw [List.length_set]; omega, by omega, by omega⟩
        simp only [spec_l1Cur_tracking.l0]
        refine Ev.congr (fun k => (if_neg (by omega)).trans (if_pos c)) ?_
        simp only [e1, e2, Option.bind_some]
        exact Ev.congr (fun k => (if_pos (by first | trivial | rfl)).trans (if_pos (by omega))) (Ev.now _)
      | false =>
        refine ⟨T, s1, q1, Ev.unr ?_, by omega, by omega, by omega⟩
        simp only [spec_l1Cur_tracking.l0]
        refine Ev.congr (fun k => (if_neg (by omega)).trans (if_pos c)) ?_
        simp only [e1, Option.bind_some]
        exact Ev.congr (fun k => if_neg (by simp)) (Ev.now _)
    · refine ⟨T, s, q, Ev.unr ?_, by omega, by omega, by omega⟩
      simp only [spec_l1Cur_tracking.l0]
      exact Ev.congr (fun k => (if_neg (by omega)).trans (if_neg c)) (Ev.now _)
  | succ d ih =>
    intro i T s q hi hT h0 h1
    obtain ⟨x, s1, q1, e1, _, _, u1, v1⟩ := pick_ok h s q h0 (by omega) (wrap64 ((b.length : Int) + 1))
    by_cases c : wrap64 (x - 1) ∈ T
    · obtain ⟨T', s', q', e', l', u', v'⟩ := ih (i + 1) (T ++ [-1]) s1 q1 (by omega) (by rw [List.length_append, List.length_singleton]; omega) (by omega) (by omega)
      refine ⟨T', s', q', Ev.unr ?_, l', by omega, by omega⟩
      simp only [spec_l1Cur_tracking.l0, e1, Option.bind_some]
      rw [wrapS i (by omega)]
      refine Ev.congr (fun k => if_pos (by omega)) ?_
      refine Ev.bind (f := fun k t => _) (has_f T (by omega) _) ?_
      exact Ev.congr (fun k => (if_pos (decide_eq_true c)).trans (if_pos (by omega))) e'
    · obtain ⟨T', s', q', e', l', u', v'⟩ := ih (i + 1) (T ++ [wrap64 (x - 1)]) s1 q1 (by omega) (by rw [List.length_append, List.length_singleton]; omega) (by omega) (by omega)
      refine ⟨T', s', q', Ev.unr ?_, l', by omega, by omega⟩
      simp only [spec_l1Cur_tracking.l0, e1, Option.bind_some]
      rw [wrapS i (by omega)]
      refine Ev.congr (fun k => if_pos (by omega)) ?_
      refine Ev.bind (f := fun k t => _) (has_f T (by omega) _) ?_
      exact Ev.congr (fun k => (if_neg (by rw [decide_eq_true_eq]; exact c)).trans (if_pos (by omega))) e'
theorem drawTC_ok {l : List Int} (h : Cod l) : ∃ a b tr p, Ev (fun k => spec_DrawTrackingCost.f k l) (a, b, tr, p) ∧ a.length ≤ 100 ∧ b.length ≤ 100 ∧ tr.length ≤ 100 := by
  obtain ⟨a, s1, q1, e1, l1, u1, v1⟩ := storms_ok h 0 0 (by omega) (by omega)
  obtain ⟨b, s2, q2, e2, l2, u2, v2⟩ := storms_ok h s1 q1 (by omega) (by omega)
  obtain ⟨tr, s3, q3, e3, l3, u3, v3⟩ := tracking_l0 h a b (by omega) (by omega) a.length 0 [] s2 q2 (by omega) (by simp) (by omega) (by omega)
  obtain ⟨p, s4, q4, e4, _, u4, v4⟩ := among_ok h s3 q3 (by omega) (by omega) [0, 1, 3, 5, 20, 21, -1, 4] (by decide)
  refine ⟨a, b, tr, p, ?_, by omega, by omega, l3⟩
  unfold spec_DrawTrackingCost.f
  refine Ev.bind (f := fun k t => _) e1 ?_
  refine Ev.bind (f := fun k t => _) e2 ?_
  refine Ev.bind (f := fun k t => _) (show Ev (fun k => spec_l1Cur_tracking.f k l s2 q2 a b) (tr, s3, q3) from by unfold spec_l1Cur_tracking.f; exact e3) ?_
  simp only [e4, Option.bind_some]
  exact Ev.now _
end Go.Proofs.Ytcfjglbnhbgbdaa.Q
/- The best tracking does not cost more than a drawn one or none, and new storms are those that it does not contain: for every input. -/
set_option linter.unusedVariables false
set_option linter.unusedSimpArgs false
namespace Go.Proofs.Ytcfjglbnhbgbdaa.Pure
open Go.RowKit Go.Proofs.YtcfjglbnhbgbdaaW.PrintWords Go.Proofs.Ytcfjglbnhbgbdaa.Tells Go.Proofs.Ytcfjglbnhbgbdaa.Q Go.Proofs.Ytcfjglbnhbgbdaa.Gen
theorem wrap_mul (p x : Int) (hp : 0 ≤ p ∧ p ≤ 20) (hx : 0 ≤ x ∧ x ≤ 200) : wrap64 (p * x) = p * x := by
  have h1 := Int.mul_nonneg hp.1 hx.1
  have h2 := Int.mul_le_mul hp.2 hx.2 hx.1 (show (0 : Int) ≤ 20 by decide)
  generalize p * x = X at h1 h2 ⊢
  unfold wrap64
  omega
theorem track_l0 (b : List S54) (best : List Int) (hb : b.length ≤ 1048576) (hl : best.length ≤ 1048576) : ∀ d i, i + d = b.length → Ev (fun k => laws_FnTracking.l0 k b best (news best b.length 0) (i : Int)) true := by
  have hn := news_len best b.length 0
  intro d
  induction d with
  | zero =>
    intro i hi
    refine Ev.unr (Ev.eq_now fun k => ?_)
    simp only [laws_FnTracking.l0]
    rw [if_neg (by omega)]
  | succ d ih =>
    intro i hi
    refine Ev.unr ?_
    simp only [laws_FnTracking.l0]
    refine Ev.congr (fun k => if_pos (by omega)) ?_
    refine Ev.bind (f := fun k t => _) (ev_vHas (news best b.length 0) (by omega) (i : Int)) ?_
    refine Ev.bind (f := fun k t => _) (ev_vHas best hl (i : Int)) ?_
    rw [wrapS i (by omega)]
    refine Ev.congr (fun k => if_neg ?_) (ih (i + 1) (by omega))
    have hm := news_mem best b.length 0 i
    by_cases c : (i : Int) ∈ best
    · rw [decide_eq_true c, decide_eq_false (fun q => (hm.1 q).2 c)]
      decide
    · rw [decide_eq_false c, decide_eq_true (hm.2 ⟨by omega, c⟩)]
      decide
theorem FnTracking : ∀ (l : List Int), l.length ≤ maxLen → (∀ x ∈ l, 0 ≤ x ∧ x ≤ 255) → ∃ k, laws_FnTracking.f k l = some true := by
  intro l _ hx
  refine Ev.rounds ?_
  unfold laws_FnTracking.f
  refine Ev.bind (f := fun k t => _) (Ev.eq_now fun k => (show laws_vBig.f l = some (decide ((l.length : Int) > 65536)) from rfl)) ?_
  by_cases hl : (l.length : Int) > 65536
  · exact Ev.congr (fun k => if_pos (decide_eq_true hl)) (Ev.now _)
  refine Ev.congr (fun k => if_neg (by rw [decide_eq_true_eq]; exact hl)) ?_
  have hc : Cod l := ⟨by omega, hx⟩
  obtain ⟨a, b, tr, p, e, la, lb, lt⟩ := drawTC_ok hc
  refine Ev.bind (f := fun k t => _) e ?_
  refine Ev.bind (f := fun k t => _) (ev_implTC a b tr p (by omega) (by omega) (by omega)) ?_
  refine Ev.bind (f := fun k t => _) (ev_specTC a b tr p (by omega) (by omega) (by omega)) ?_
  have hmin := @best_min a b p tr
  have hown := @best_own a b p
  have hmost := Aside0.mk (@best_most a b p)
  have hlen := bestR_len a b p
  have hib := ev_implBT a b p
  have hsb := ev_specBT a b p
  generalize tcR a b tr p = v at hmin ⊢
  generalize bestR a b p = B at hmin hown hmost hlen hib hsb
  refine Ev.congr (fun k => if_pos rfl) (Ev.unr ?_)
  simp only [laws_FnTracking.j0, bne_self_eq_false]
  refine Ev.congr (fun k => if_neg (by simp)) ?_
  refine Ev.bind (f := fun k t => _) hib ?_
  refine Ev.bind (f := fun k t => _) hsb ?_
  refine Ev.congr (fun k => (if_neg (by simp)).trans (if_pos rfl)) ?_
  refine Ev.bind (f := fun k t => _) (ev_vI B.1 (by omega)) ?_
  refine Ev.unr ?_
  simp only [laws_FnTracking.j1]
  refine Ev.congr (fun k => if_neg (by simp)) ?_
  have j2 : Ev (fun k => laws_FnTracking.j2 k a b p v.2 B.1 B.2.1 B.2.2 false) true := by
    refine Ev.unr ?_
    simp only [laws_FnTracking.j2]
    refine Ev.congr (fun k => if_neg (by simp)) ?_
    by_cases hf : B.2.2 = true
    · obtain ⟨o1, o2⟩ := hown hf
      obtain ⟨g, eg, lg⟩ := ev_implGrow a b B.1 (by omega) (by omega) (by omega) o1
      have htc := ev_implTC a b B.1 p (by omega) (by omega) (by omega)
      rw [o2] at htc
      refine Ev.congr (fun k => if_pos hf) ?_
      refine Ev.bind (f := fun k t => _) htc ?_
      refine Ev.bind (f := fun k t => _) (ev_implNew a b B.1 (by omega) (by omega) (by omega) o1) ?_
      refine Ev.bind (f := fun k t => _) eg ?_
      refine Ev.congr (fun k => (if_pos rfl).trans ((if_pos rfl).trans ((if_pos rfl).trans ((if_pos rfl).trans (if_pos (by dsimp only; omega)))))) ?_
      have hp : 0 ≤ p ∧ p ≤ 20 := by
        have := o1
        have h2 : (tcR a b B.1 p).2 = true := by rw [o2]
        unfold tcR at h2
        split at h2
        · rename_i c
          rw [Bool.and_eq_true] at c
          exact of_decide_eq_true c.2
        · cases h2
      have w1 : wrap64 ((a.length : Int) + (b.length : Int)) = (a.length : Int) + (b.length : Int) := by unfold wrap64; omega
      have w2 := wrap_mul p ((a.length : Int) + (b.length : Int)) hp ⟨by omega, by omega⟩
      rw [w1, w2, decide_eq_false (Int.not_lt.2 (hmost.out hf))]
      refine Ev.unr ?_
      simp only [laws_FnTracking.j3]
      refine Ev.congr (fun k => if_neg (by simp)) ?_
      exact track_l0 b B.1 (by omega) (by omega) b.length 0 (by omega)
    · refine Ev.congr (fun k => if_neg hf) ?_
      cases hv : v.2 with
      | true => exact absurd (hmin hv).1 hf
      | false => exact Ev.now _
  cases hv : v.2 with
  | true =>
    obtain ⟨m1, m2⟩ := hmin hv
    rw [hv] at j2
    refine Ev.congr (fun k => (if_pos rfl).trans (if_pos m1)) ?_
    rw [decide_eq_false (show ¬ v.1 < B.2.1 by omega)]
    exact j2
  | false =>
    rw [hv] at j2
    exact Ev.congr (fun k => if_neg (by simp)) j2
end Go.Proofs.Ytcfjglbnhbgbdaa.Pure
