/- Texts of this seat, put together: PureFnLevels. -/
import Derived.Test.YtklepiechbnenaaZFnLevels
import Derived.Test.YtklepiechbnenaaBFnLevels10
import Derived.Test.YtklepiechbnenaaBFnLevels11
/- A changed level holds from its hour to the warning's end, the level before it holds up to that hour, the hours of the area stay as they were, and what CancelWarning hands back is consistent and no longer: for every drawn input. -/
set_option linter.unusedVariables false
set_option linter.unusedSimpArgs false
namespace Go.Proofs.Ytklepiechbnenaa.Q
open Go.RowKit Go.Proofs.YtklepiechbnenaaW.PrintWords Go.Proofs.Ytklepiechbnenaa.Gen
theorem hit_iff (l : List S31) (a h : Int) : hitB l a h = true ↔ ∃ j, j < l.length ∧ (decide ((l.getD j z31).f3 = a) && atB (l.getD j z31) h) = true := by
  have e := any_take l (fun x => decide (x.f3 = a) && atB x h) l.length (Nat.le_refl _)
  rw [List.take_length] at e
  unfold hitB
  rw [e, decide_eq_true_eq]
theorem at_iff {x : S31} (hx : okW x = true) (h : Int) : atB x h = true ↔ x.f4 ≤ h ∧ h < x.f5 := by
  have ho := (okW_iff x).1 hx
  show decide (x.f4 ≤ h ∧ h ≤ wrap64 (x.f5 - 1)) = true ↔ _
  rw [decide_eq_true_eq, show wrap64 (x.f5 - 1) = x.f5 - 1 from by unfold wrap64; omega]
  omega
theorem hit_ok {l : List S31} (hc : consB l = true) (a h : Int) : hitB l a h = true ↔ ∃ j, j < l.length ∧ (l.getD j z31).f3 = a ∧ (l.getD j z31).f4 ≤ h ∧ h < (l.getD j z31).f5 := by
  rw [hit_iff]
  constructor
  · rintro ⟨j, hj, e⟩
    rw [Bool.and_eq_true, decide_eq_true_eq, at_iff (cons_at hc hj)] at e
    exact ⟨j, hj, e⟩
  · rintro ⟨j, hj, e⟩
    refine ⟨j, hj, ?_⟩
    rw [Bool.and_eq_true, decide_eq_true_eq, at_iff (cons_at hc hj)]
    exact e
theorem atI_id {l : List S31} {i : Int} (h : ¬ atI l i < 0) : (l.getD (atI l i).toNat z31).f0 = i := by
  have hq := atI_lt h
  apply Classical.byContradiction
  intro hn
  by_cases hall : ∀ j, j < l.length → ((fun x : S31 => x.f0 == i) (l.getD j z31)) = false
  · exact h (by have := fIdx_miss (fun x : S31 => x.f0 == i) l z31 hall; unfold atI; omega)
  · have hex : ∃ j, j < l.length ∧ (l.getD j z31).f0 = i := by
      apply Classical.byContradiction
      intro hno
      exact hall (fun j hj => by
        simp only [beq_eq_false_iff_ne]
        exact fun e => hno ⟨j, hj, e⟩)
    have hmin : ∀ n j, j ≤ n → j < l.length → (l.getD j z31).f0 = i → ∃ m, m < l.length ∧ (l.getD m z31).f0 = i ∧ ∀ y, y < m → (l.getD y z31).f0 ≠ i := by
      intro n
      induction n with
      | zero => intro j hj hl he; exact ⟨j, hl, he, fun y hy => by omega⟩
      | succ n ih =>
        intro j hj hl he
        by_cases c : ∃ y, y < j ∧ (l.getD y z31).f0 = i
        · obtain ⟨y, hy, ey⟩ := c
          exact ih y (by omega) (by omega) ey
        · exact ⟨j, hl, he, fun y hy ey => c ⟨y, hy, ey⟩⟩
    obtain ⟨j, hj, ej⟩ := hex
    obtain ⟨m, hm, em, hf⟩ := hmin j j (Nat.le_refl _) hj ej
    have e := fIdx_hit (fun x : S31 => x.f0 == i) l z31 m hm (by simpa using em) (fun y hy => by simpa using hf y hy)
    apply hn
    unfold atI
    rw [e, Int.toNat_natCast]
    exact em
theorem addW_old (l : List S31) (x : S31) (j : Nat) (hj : j < l.length) : (addW l x).getD j z31 = l.getD j z31 := by
  unfold addW
  rw [List.getD_eq_getElem?_getD, List.getElem?_append_left hj, ← List.getD_eq_getElem?_getD]
theorem addW_new (l : List S31) (x : S31) : (addW l x).getD l.length z31 = ⟨idN l, x.f1, x.f2, x.f3, x.f4, x.f5⟩ := by
  unfold addW
  rw [List.getD_eq_getElem?_getD, List.getElem?_append_right (Nat.le_refl _), Nat.sub_self]
  rfl
/-- What a change that is made brings. -/
theorem change_facts {l : List S31} {i v t : Int} (h : (changeLR l i v t).2.2 = true) : ∃ q : Nat, q < l.length ∧ atI l i = (q : Int) ∧ consB l = true ∧ (l.getD q z31).f0 = i ∧ (l.getD q z31).f2 ≠ v ∧ t < (l.getD q z31).f5 ∧ consB (changeLR l i v t).1 = true ∧
    (∃ p, p < (changeLR l i v t).1.length ∧ ((changeLR l i v t).1.getD p z31).f1 = (l.getD q z31).f1 ∧ ((changeLR l i v t).1.getD p z31).f2 = v ∧ ((changeLR l i v t).1.getD p z31).f3 = (l.getD q z31).f3 ∧ ((changeLR l i v t).1.getD p z31).f4 = (if t < (l.getD q z31).f4 then (l.getD q z31).f4 else t) ∧ ((changeLR l i v t).1.getD p z31).f5 = (l.getD q z31).f5) ∧
    (t > (l.getD q z31).f4 → ∃ p, p < (changeLR l i v t).1.length ∧ ((changeLR l i v t).1.getD p z31).f1 = (l.getD q z31).f1 ∧ ((changeLR l i v t).1.getD p z31).f2 = (l.getD q z31).f2 ∧ ((changeLR l i v t).1.getD p z31).f3 = (l.getD q z31).f3 ∧ ((changeLR l i v t).1.getD p z31).f4 = (l.getD q z31).f4 ∧ ((changeLR l i v t).1.getD p z31).f5 = t) ∧
    (∀ a g, hitB (changeLR l i v t).1 a g = hitB l a g) := by
  have hm := change_ok h
  unfold changeLR at h hm ⊢
  by_cases c : consB l = true ∧ ¬ atI l i < 0 ∧ ¬ (l.getD (atI l i).toNat z31).f2 = v ∧ (1 ≤ v ∧ v ≤ 3) ∧ ¬ t ≥ (l.getD (atI l i).toNat z31).f5
  · rw [if_pos c] at h hm ⊢
    have hq := atI_lt c.2.1
    have hid := atI_id c.2.1
    have hqe : atI l i = ((atI l i).toNat : Int) := by have := c.2.1; omega
    obtain ⟨c1, c2, c3, c4, c5⟩ := c
    refine ⟨(atI l i).toNat, hq, hqe, c1, hid, c3, by omega, ?_⟩
    generalize (atI l i).toNat = q at *
    by_cases d : t ≤ (l.getD q z31).f4
    · rw [if_pos d] at hm ⊢
      dsimp only at hm ⊢
      have hlen : (levelAt l q v).length = l.length := by unfold levelAt; simp
      have hg : ∀ j, (levelAt l q v).getD j z31 = if j = q then ⟨(l.getD q z31).f0, (l.getD q z31).f1, v, (l.getD q z31).f3, (l.getD q z31).f4, (l.getD q z31).f5⟩ else l.getD j z31 := fun j => getD_set l q j hq _
      have ht : (if t < (l.getD q z31).f4 then (l.getD q z31).f4 else t) = (l.getD q z31).f4 := by split <;> omega
      refine ⟨hm, ⟨q, by omega, ?_⟩, fun g => absurd g (by omega), fun a g => ?_⟩
      · rw [hg q, if_pos rfl, ht]
        exact ⟨rfl, rfl, rfl, rfl, rfl⟩
      · rw [Bool.eq_iff_iff, hit_ok hm, hit_ok c1]
        constructor
        · rintro ⟨j, hj, e⟩
          rw [hg j] at e
          by_cases ej : j = q
          · rw [if_pos ej] at e; exact ⟨q, hq, e⟩
          · rw [if_neg ej] at e; exact ⟨j, by omega, e⟩
        · rintro ⟨j, hj, e⟩
          refine ⟨j, by omega, ?_⟩
          rw [hg j]
          by_cases ej : j = q
          · rw [if_pos ej]; subst ej; exact e
          · rw [if_neg ej]; exact e
    · rw [if_neg d] at h hm ⊢
      obtain ⟨h1, h2⟩ := chkI_ok h
      rw [h1] at hm ⊢
      dsimp only at hm ⊢
      have hs : (shortAt l q t).length = l.length := by unfold shortAt; simp
      have hlen := addW_length (shortAt l q t) (nextAt l q v t)
      have hg : ∀ j, (shortAt l q t).getD j z31 = if j = q then ⟨(l.getD q z31).f0, (l.getD q z31).f1, (l.getD q z31).f2, (l.getD q z31).f3, (l.getD q z31).f4, t⟩ else l.getD j z31 := fun j => getD_set l q j hq _
      have hold : ∀ j, j < l.length → (addW (shortAt l q t) (nextAt l q v t)).getD j z31 = (shortAt l q t).getD j z31 := fun j hj => addW_old _ _ j (by omega)
      have hnew : (addW (shortAt l q t) (nextAt l q v t)).getD l.length z31 = ⟨idN (shortAt l q t), (l.getD q z31).f1, v, (l.getD q z31).f3, t, (l.getD q z31).f5⟩ := by
        have e := addW_new (shortAt l q t) (nextAt l q v t)
        rw [hs] at e
        exact e
      have ht : (if t < (l.getD q z31).f4 then (l.getD q z31).f4 else t) = t := if_neg (by omega)
      refine ⟨hm, ⟨l.length, by omega, ?_⟩, fun _ => ⟨q, by omega, ?_⟩, fun a g => ?_⟩
      · rw [hnew, ht]
        exact ⟨rfl, rfl, rfl, rfl, rfl⟩
      · rw [hold q hq, hg q, if_pos rfl]
        exact ⟨rfl, rfl, rfl, rfl, rfl⟩
      · rw [Bool.eq_iff_iff, hit_ok hm, hit_ok c1]
        constructor
        · rintro ⟨j, hj, e⟩
          by_cases ejl : j < l.length
          · rw [hold j ejl, hg j] at e
            by_cases ej : j = q
            · rw [if_pos ej] at e
              dsimp only at e
              exact ⟨q, hq, e.1, e.2.1, by omega⟩
            · rw [if_neg ej] at e; exact ⟨j, ejl, e⟩
          · obtain rfl : j = l.length := by omega
            rw [hnew] at e
            dsimp only at e
            exact ⟨q, hq, e.1, by omega, e.2.2⟩
        · rintro ⟨j, hj, e⟩
          by_cases ej : j = q
          · subst ej
            by_cases eg : g < t
            · refine ⟨j, by omega, ?_⟩
              rw [hold j hj, hg j, if_pos rfl]
              exact ⟨e.1, e.2.1, eg⟩
            · refine ⟨l.length, by omega, ?_⟩
              rw [hnew]
              exact ⟨e.1, by dsimp only; omega, e.2.2⟩
          · refine ⟨j, by omega, ?_⟩
            rw [hold j hj, hg j, if_neg ej]
            exact e
  · rw [if_neg c] at h; cases h
end Go.Proofs.Ytklepiechbnenaa.Q
namespace Go.Proofs.Ytklepiechbnenaa.Pure
open Go.RowKit Go.Proofs.YtklepiechbnenaaW.PrintWords Go.Proofs.Ytklepiechbnenaa.Tells Go.Proofs.Ytklepiechbnenaa.Q Go.Proofs.Ytklepiechbnenaa.Gen
theorem levels_j6 {l : List Int} (hc : Cod l) : Ev (fun k => laws_FnLevels.j6 k l) true := by
  obtain ⟨L, i, t, e, hL⟩ := drawCancel_ok hc
  refine Ev.unr ?_
  simp only [laws_FnLevels.j6]
  refine Ev.bind (f := fun k t => _) e ?_
  refine Ev.bind (f := fun k t => _) (ev_implCancel L (by omega) i t) ?_
  refine Ev.bind (f := fun k t => _) (ev_specCancel L (by omega) i t) ?_
  have hlen := cancelR_len L i t
  refine Ev.congr (fun k => if_pos (by simp)) ?_
  refine Ev.bind (f := fun k t => _) (ev_vW (cancelR L i t).1 (by omega)) ?_
  refine Ev.congr (fun k => if_pos rfl) ?_
  by_cases h : (cancelR L i t).2 = true
  · obtain ⟨h1, h2⟩ := cancel_ok h
    refine Ev.congr (fun k => if_pos h) ?_
    refine Ev.bind (f := fun k t => _) (ev_IsConsistent (cancelR L i t).1 (by omega)) ?_
    refine Ev.congr (fun k => if_pos h1) ?_
    rw [decide_eq_true (show ((cancelR L i t).1.length : Int) ≤ (L.length : Int) by omega)]
    exact Ev.now _
  · exact Ev.congr (fun k => if_neg h) (Ev.now _)
theorem levels_l0 {b : List Int} (L M : List S31) (hL : L.length ≤ 1048576) (i v t : Int) (q : Nat) (hq : q < L.length) (hu : ∀ j, j < L.length → ((L.getD j z31).f0 = i ↔ j = q))
    (hr : Ev (fun k => (impl_IsConsistent.f k M).bind fun t458 => (laws_FnLevels.j2 k b L v t M (q : Int) (!t458))) true) : ∀ d j, j + d = L.length → Ev (fun k => laws_FnLevels.l0 k b L i v t M (if q < j then (q : Int) else -1) (j : Int)) true := by
  intro d
  induction d with
  | zero =>
    intro j hj
    obtain rfl : j = L.length := by omega
    rw [if_pos hq]
    refine Ev.unr ?_
    simp only [laws_FnLevels.l0]
    refine Ev.congr (fun k => if_neg (by omega)) ?_
    exact Ev.congr (fun k => if_neg (by omega)) hr
  | succ d ih =>
    intro j hj
    have key := ih (j + 1) (by omega)
    refine Ev.unr ?_
    simp only [laws_FnLevels.l0]
    refine Ev.congr (fun k => if_pos (by omega)) ?_
    refine Ev.congr (fun k => if_pos (by omega)) ?_
    rw [rdW, wrapS j (by omega)]
    by_cases e : j = q
    · rw [if_pos (show q < j + 1 by omega)] at key
      subst e
      exact Ev.congr (fun k => if_pos ((hu j (by omega)).2 rfl)) key
    · refine Ev.congr (fun k => if_neg (fun c => e ((hu j (by omega)).1 c))) ?_
      by_cases c : q < j
      · rw [if_pos (show q < j + 1 by omega)] at key
        rw [if_pos c]
        exact key
      · rw [if_neg (show ¬ q < j + 1 by omega)] at key
        rw [if_neg c]
        exact key
theorem lvl_of {M : List S31} (hM : consB M = true) {x : S31} (hx : okW x = true) {p : Nat} (hp : p < M.length) (h1 : (M.getD p z31).f1 = x.f1) (h3 : (M.getD p z31).f3 = x.f3) {g : Int} (h4 : (M.getD p z31).f4 ≤ g) (h5 : g < (M.getD p z31).f5) :
    topicLevelV M x.f1 x.f3 g = ((M.getD p z31).f2, true) := by
  have ho := (okW_iff x).1 hx
  have hp' := (okW_iff _).1 (cons_at hM hp)
  unfold topicLevelV
  rw [if_pos ⟨hM, by omega, by omega, by omega, by omega⟩]
  rw [lvl_at hM hp ((holds_iff (cons_at hM hp) _ _ _).2 ⟨h1, h3, h4, h5⟩)]
theorem levels_rest {b : List Int} (hcb : Cod b) (L : List S31) (hL : L.length ≤ 1048576) (i v t : Int) (h : (changeLR L i v t).2.2 = true) : Ev (fun k => laws_FnLevels.l0 k b L i v t (changeLR L i v t).1 (-1) 0) true := by
  have hlen := changeLR_len L i v t
  obtain ⟨q, hq, hqe, hc, hid, hv, ht5, hM, ⟨p, hp, p1, p2, p3, p4, p5⟩, hB, hC⟩ := change_facts h
  generalize (changeLR L i v t).1 = M at *
  have hu : ∀ j, j < L.length → ((L.getD j z31).f0 = i ↔ j = q) := by
    intro j hj
    constructor
    · intro e
      apply Classical.byContradiction
      intro hne
      rcases Nat.lt_or_gt_of_ne hne with c | c
      · have := cons_ids hc q j c hq; omega
      · have := cons_ids hc j q c hj; omega
    · rintro rfl; exact hid
  have hox := cons_at hc hq
  have ho := (okW_iff _).1 hox
  have key := levels_l0 (b := b) L M hL i v t q hq hu ?_ L.length 0 (by omega)
  · rw [if_neg (by omega)] at key
    exact key
  refine Ev.bind (f := fun k t => _) (ev_IsConsistent M (by omega)) ?_
  rw [hM]
  refine Ev.unr ?_
  simp only [laws_FnLevels.j2, Bool.not_true]
  refine Ev.congr (fun k => if_neg (by simp)) ?_
  refine Ev.congr (fun k => if_pos (by omega)) ?_
  refine Ev.congr (fun k => if_pos (by omega)) ?_
  rw [rdW]
  have hj5 : Ev (fun k => laws_FnLevels.j5 k b L M (L.getD q z31).f0 (L.getD q z31).f1 (L.getD q z31).f2 (L.getD q z31).f3 (L.getD q z31).f4 (L.getD q z31).f5) true := by
    refine Ev.unr ?_
    simp only [laws_FnLevels.j5]
    refine Ev.bind (f := fun k t => _) (ev_implHours L (by omega) (L.getD q z31).f3) ?_
    refine Ev.bind (f := fun k t => _) (ev_implHours M (by omega) (L.getD q z31).f3) ?_
    have e1 : hoursV L (L.getD q z31).f3 = (hoursN L (L.getD q z31).f3, true) := if_pos ⟨hc, by omega, by omega⟩
    have e2 : hoursV M (L.getD q z31).f3 = (hoursN M (L.getD q z31).f3, true) := if_pos ⟨hM, by omega, by omega⟩
    have e3 : hoursN M (L.getD q z31).f3 = hoursN L (L.getD q z31).f3 := by
      unfold hoursN
      simp only [hC]
    rw [e1, e2, e3]
    generalize hoursN L (L.getD q z31).f3 = n
    refine Ev.congr (fun k => if_pos (by exact rfl)) (Ev.congr (fun k => if_pos (by exact rfl)) (Ev.congr (fun k => if_pos (by exact rfl)) ?_))
    exact levels_j6 hcb
  have hj3 : ∀ g, g = (if t < (L.getD q z31).f4 then (L.getD q z31).f4 else t) → Ev (fun k => laws_FnLevels.j3 k b L v t M g (L.getD q z31).f0 (L.getD q z31).f1 (L.getD q z31).f2 (L.getD q z31).f3 (L.getD q z31).f4 (L.getD q z31).f5) true := by
    intro g hg
    rw [← hg] at p4
    have hg5 : g < (L.getD q z31).f5 := by split at hg <;> omega
    refine Ev.unr ?_
    simp only [laws_FnLevels.j3]
    refine Ev.bind (f := fun k t => _) (ev_implTopicLevel M (by omega) (L.getD q z31).f1 (L.getD q z31).f3 g) ?_
    refine Ev.bind (f := fun k t => _) (ev_implTopicLevel M (by omega) (L.getD q z31).f1 (L.getD q z31).f3 (wrap64 ((L.getD q z31).f5 - 1))) ?_
    rw [show wrap64 ((L.getD q z31).f5 - 1) = (L.getD q z31).f5 - 1 from by unfold wrap64; omega]
    rw [lvl_of hM hox hp p1 p3 (g := g) (by omega) (by omega), lvl_of hM hox hp p1 p3 (g := (L.getD q z31).f5 - 1) (by omega) (by omega), p2]
    refine Ev.congr (fun k => if_pos (by trivial)) (Ev.congr (fun k => if_pos (by trivial)) (Ev.congr (fun k => if_pos (by trivial)) (Ev.unr ?_)))
    simp only [laws_FnLevels.j4, bne_self_eq_false]
    refine Ev.congr (fun k => if_neg (by simp)) ?_
    by_cases ct : t > (L.getD q z31).f4
    · refine Ev.congr (fun k => if_pos ct) ?_
      obtain ⟨p', hp', q1, q2, q3, q4, q5⟩ := hB ct
      refine Ev.bind (f := fun k t => _) (ev_implTopicLevel M (by omega) (L.getD q z31).f1 (L.getD q z31).f3 (wrap64 (t - 1))) ?_
      rw [show wrap64 (t - 1) = t - 1 from by unfold wrap64; omega]
      rw [lvl_of hM hox hp' q1 q3 (g := t - 1) (by omega) (by omega), q2]
      exact Ev.congr (fun k => if_pos (by trivial)) (Ev.congr (fun k => if_pos (by trivial)) hj5)
    · exact Ev.congr (fun k => if_neg ct) hj5
  by_cases c : t < (L.getD q z31).f4
  · exact Ev.congr (fun k => if_pos c) (hj3 _ (if_pos c).symm)
  · exact Ev.congr (fun k => if_neg c) (hj3 _ (if_neg c).symm)
theorem FnLevels : ∀ (l0 : List Int), l0.length ≤ maxLen → (∀ x ∈ l0, (0 ≤ x ∧ x ≤ 255)) → ∃ k, laws_FnLevels.f k l0 = some true := by
  intro l hl hb
  refine Ev.rounds ?_
  unfold laws_FnLevels.f laws_vBig.f
  simp only [Option.bind_some, decide_eq_true_eq]
  by_cases hbig : (l.length : Int) > 65536
  · exact Ev.congr (fun k => if_pos hbig) (Ev.now _)
  · refine Ev.congr (fun k => if_neg hbig) ?_
    have hc : Cod l := ⟨by omega, hb⟩
    obtain ⟨L, i, v, t, e, hL⟩ := drawChange_ok hc
    refine Ev.bind (f := fun k t => _) e ?_
    refine Ev.bind (f := fun k t => _) (ev_implChange L (by omega) i v t) ?_
    refine Ev.bind (f := fun k t => _) (ev_specChange L (by omega) i v t) ?_
    have hlen := changeLR_len L i v t
    refine Ev.congr (fun k => if_neg (by simp)) ?_
    refine Ev.congr (fun k => if_pos rfl) ?_
    refine Ev.bind (f := fun k t => _) (ev_vW (changeLR L i v t).1 (by omega)) (Ev.unr ?_)
    simp only [laws_FnLevels.j0, Bool.not_true]
    refine Ev.congr (fun k => if_neg (by simp)) ?_
    by_cases h : (changeLR L i v t).2.2 = true
    · refine Ev.congr (fun k => if_pos h) ?_
      exact levels_rest hc L (by omega) i v t h
    · exact Ev.congr (fun k => if_neg h) (levels_j6 hc)
end Go.Proofs.Ytklepiechbnenaa.Pure
