/- Joining warnings: what both programs do. -/
import Derived.Test.YtfemneoahkglmaaQf7
import Derived.Test.YtfemneoahkglmaaQf6
import Derived.Test.YtfemneoahkglmaaLaEdit
namespace Go.Proofs.Ytfemneoahkglmaa.Q
open Go.RowKit Go.Proofs.YtfemneoahkglmaaW.PrintWords Go.Proofs.Ytfemneoahkglmaa.Gen
set_option linter.unusedVariables false
set_option linter.unusedSimpArgs false
/-- Two warnings can be joined. -/
def joinsB (a b : S37) : Bool := decide (a.f1 = b.f1) && (decide (a.f3 = b.f3) && (decide (a.f2 = b.f2) && (decide (a.f5 = b.f4) || decide (b.f5 = a.f4))))
theorem joinsB_iff (a b : S37) : joinsB a b = true ↔ a.f1 = b.f1 ∧ a.f3 = b.f3 ∧ a.f2 = b.f2 ∧ (a.f5 = b.f4 ∨ b.f5 = a.f4) := by
  unfold joinsB
  simp only [Bool.and_eq_true, Bool.or_eq_true, decide_eq_true_eq]
def joinW (a b : S37) : S37 := ⟨a.f0, a.f1, a.f2, a.f3, mn a.f4 b.f4, mx a.f5 b.f5⟩
def joinAt (l : List S37) (i q : Nat) : List S37 := (l.set i (joinW (l.getD i z37) (l.getD q z37))).eraseIdx q
def nextK (l : List S37) (i : Nat) : Nat → Nat → Option Nat
  | _, 0 => none
  | q, d + 1 => if joinsB (l.getD i z37) (l.getD q z37) = true then some q else nextK l i (q + 1) d
def firstFrom (l : List S37) : Nat → Nat → Option (Nat × Nat)
  | _, 0 => none
  | i, d + 1 => match nextK l i (i + 1) (l.length - (i + 1)) with
    | some q => some (i, q)
    | none => firstFrom l (i + 1) d
def firstP (l : List S37) : Option (Nat × Nat) := firstFrom l 0 l.length
def joinF : Nat → List S37 → List S37
  | 0, l => l
  | n + 1, l => match firstP l with
    | none => l
    | some p => joinF n (joinAt l p.1 p.2)
theorem nextK_some (l : List S37) (i : Nat) : ∀ d q r, nextK l i q d = some r → q ≤ r ∧ r < q + d ∧ joinsB (l.getD i z37) (l.getD r z37) = true := by
  intro d
  induction d with
  | zero => intro q r h; cases h
  | succ d ih =>
    intro q r h
    unfold nextK at h
    by_cases e : joinsB (l.getD i z37) (l.getD q z37) = true
    · rw [if_pos e] at h
      obtain rfl := Option.some.inj h
      exact ⟨Nat.le_refl _, by omega, e⟩
    · rw [if_neg e] at h
      have := ih (q + 1) r h
      exact ⟨by omega, by omega, this.2.2⟩
theorem firstFrom_some (l : List S37) : ∀ d i p, i + d = l.length → firstFrom l i d = some p → p.1 < p.2 ∧ p.2 < l.length ∧ joinsB (l.getD p.1 z37) (l.getD p.2 z37) = true := by
  intro d
  induction d with
  | zero => intro i p _ h; cases h
  | succ d ih =>
    intro i p hd h
    unfold firstFrom at h
    cases hn : nextK l i (i + 1) (l.length - (i + 1)) with
    | some q =>
      rw [hn] at h
      obtain rfl := Option.some.inj h
      have := nextK_some l i _ _ _ hn
      exact ⟨by show i < q; omega, by show q < _; omega, this.2.2⟩
    | none =>
      rw [hn] at h
      exact ih (i + 1) p (by omega) h
theorem joinAt_len (l : List S37) (i q : Nat) (hq : q < l.length) : (joinAt l i q).length = l.length - 1 := by
  unfold joinAt
  rw [List.length_eraseIdx, List.length_set, if_pos hq]
theorem joinF_len : ∀ n l, (joinF n l).length ≤ l.length := by
  intro n
  induction n with
  | zero => intro l; exact Nat.le_refl _
  | succ n ih =>
    intro l
    unfold joinF
    cases hp : firstP l with
    | none => exact Nat.le_refl _
    | some p =>
      have h := firstFrom_some l _ _ p (Nat.zero_add _) hp
      have h1 := ih (joinAt l p.1 p.2)
      have h2 := joinAt_len l p.1 p.2 h.2.1
      exact Nat.le_trans h1 (by omega)
/-- What the program's search answers. -/
def pairR (p : Option (Nat × Nat)) : Int × Int × Bool := match p with
  | some p => ((p.1 : Int), (p.2 : Int), true)
  | none => (0, 0, false)
theorem ev_joint_l1 (l : List S37) (hl : l.length ≤ 2097152) (i : Nat) (hi : i < l.length) (R : Int × Int × Bool) (hR : Ev (fun k => impl_firstJoint.l0 k l l (l.length : Int) ((i + 1 : Nat) : Int)) R) :
    ∀ (d q : Nat), q + d = l.length → Ev (fun k => impl_firstJoint.l1 k l (i : Int) (q : Int) l (l.length : Int) (i : Int) (l.getD i z37).f0 (l.getD i z37).f1 (l.getD i z37).f2 (l.getD i z37).f3 (l.getD i z37).f4 (l.getD i z37).f5) (match nextK l i q d with | some q => ((i : Int), (q : Int), true) | none => R) := by
  intro d
  induction d with
  | zero =>
    intro q hq
    refine Ev.unr ?_
    simp only [impl_firstJoint.l1]
    refine Ev.congr (fun k => if_neg (by omega)) ?_
    rw [wrapS i (by omega)]
    exact hR
  | succ d ih =>
    intro q hq
    have hn := ih (q + 1) (by omega)
    refine Ev.unr ?_
    simp only [impl_firstJoint.l1]
    refine Ev.congr (fun k => if_pos (by omega)) ?_
    refine Ev.congr (fun k => if_pos (by omega)) ?_
    rw [rdW, wrapS q (by omega)]
    unfold nextK
    by_cases h1 : (l.getD i z37).f1 = (l.getD q z37).f1
    · refine Ev.congr (fun k => if_pos h1) ?_
      by_cases h2 : (l.getD i z37).f3 = (l.getD q z37).f3
      · refine Ev.congr (fun k => if_pos h2) ?_
        by_cases h3 : (l.getD i z37).f2 = (l.getD q z37).f2
        · refine Ev.congr (fun k => if_pos h3) ?_
          by_cases h4 : (l.getD i z37).f5 = (l.getD q z37).f4
          · refine Ev.congr (fun k => if_pos h4) ?_
            rw [if_pos ((joinsB_iff _ _).2 ⟨h1, h2, h3, .inl h4⟩)]
            exact Ev.now _
          · refine Ev.congr (fun k => if_neg h4) ?_
            by_cases h5 : (l.getD q z37).f5 = (l.getD i z37).f4
            · refine Ev.congr (fun k => if_pos h5) ?_
              rw [if_pos ((joinsB_iff _ _).2 ⟨h1, h2, h3, .inr h5⟩)]
              exact Ev.now _
            · refine Ev.congr (fun k => if_neg h5) ?_
              rw [if_neg (fun e => ((joinsB_iff _ _).1 e).2.2.2.elim h4 h5)]
              exact hn
        · refine Ev.congr (fun k => if_neg h3) ?_
          rw [if_neg (fun e => h3 ((joinsB_iff _ _).1 e).2.2.1)]
          exact hn
      · refine Ev.congr (fun k => if_neg h2) ?_
        rw [if_neg (fun e => h2 ((joinsB_iff _ _).1 e).2.1)]
        exact hn
    · refine Ev.congr (fun k => if_neg h1) ?_
      rw [if_neg (fun e => h1 ((joinsB_iff _ _).1 e).1)]
      exact hn
theorem ev_joint_l0 (l : List S37) (hl : l.length ≤ 2097152) : ∀ (d i : Nat), i + d = l.length → Ev (fun k => impl_firstJoint.l0 k l l (l.length : Int) (i : Int)) (pairR (firstFrom l i d)) := by
  intro d
  induction d with
  | zero =>
    intro i hi
    refine Ev.unr (Ev.eq_now fun k => ?_)
    simp only [impl_firstJoint.l0]
    rw [if_neg (by omega)]
    rfl
  | succ d ih =>
    intro i hi
    refine Ev.unr ?_
    simp only [impl_firstJoint.l0]
    refine Ev.congr (fun k => if_pos (by omega)) ?_
    refine Ev.congr (fun k => if_pos (by omega)) ?_
    refine Ev.congr (fun k => if_pos (by omega)) ?_
    rw [rdW, wrapS i (by omega)]
    have key := ev_joint_l1 l hl i (by omega) _ (ih (i + 1) (by omega)) (l.length - (i + 1)) (i + 1) (by omega)
    unfold firstFrom
    cases hn : nextK l i (i + 1) (l.length - (i + 1)) with
    | some q => rw [hn] at key; exact key
    | none => rw [hn] at key; exact key
theorem ev_joint (l : List S37) (hl : l.length ≤ 2097152) : Ev (fun k => impl_firstJoint.f k l) (pairR (firstP l)) := ev_joint_l0 l hl l.length 0 (by omega)
theorem join_set (l : List S37) (i q : Nat) (hi : i < l.length) :
    (l.set (i : Int).toNat ⟨(rd_T37 l (i : Int)).f0, (rd_T37 l (i : Int)).f1, (rd_T37 l (i : Int)).f2, (rd_T37 l (i : Int)).f3, mn (rd_T37 l (i : Int)).f4 (rd_T37 l (q : Int)).f4, (rd_T37 l (i : Int)).f5⟩).set (i : Int).toNat ⟨(rd_T37 (l.set (i : Int).toNat ⟨(rd_T37 l (i : Int)).f0, (rd_T37 l (i : Int)).f1, (rd_T37 l (i : Int)).f2, (rd_T37 l (i : Int)).f3, mn (rd_T37 l (i : Int)).f4 (rd_T37 l (q : Int)).f4, (rd_T37 l (i : Int)).f5⟩) (i : Int)).f0, (rd_T37 (l.set (i : Int).toNat ⟨(rd_T37 l (i : Int)).f0, (rd_T37 l (i : Int)).f1, (rd_T37 l (i : Int)).f2, (rd_T37 l (i : Int)).f3, mn (rd_T37 l (i : Int)).f4 (rd_T37 l (q : Int)).f4, (rd_T37 l (i : Int)).f5⟩) (i : Int)).f1, (rd_T37 (l.set (i : Int).toNat ⟨(rd_T37 l (i : Int)).f0, (rd_T37 l (i : Int)).f1, (rd_T37 l (i : Int)).f2, (rd_T37 l (i : Int)).f3, mn (rd_T37 l (i : Int)).f4 (rd_T37 l (q : Int)).f4, (rd_T37 l (i : Int)).f5⟩) (i : Int)).f2, (rd_T37 (l.set (i : Int).toNat ⟨(rd_T37 l (i : Int)).f0, (rd_T37 l (i : Int)).f1, (rd_T37 l (i : Int)).f2, (rd_T37 l (i : Int)).f3, mn (rd_T37 l (i : Int)).f4 (rd_T37 l (q : Int)).f4, (rd_T37 l (i : Int)).f5⟩) (i : Int)).f3, (rd_T37 (l.set (i : Int).toNat ⟨(rd_T37 l (i : Int)).f0, (rd_T37 l (i : Int)).f1, (rd_T37 l (i : Int)).f2, (rd_T37 l (i : Int)).f3, mn (rd_T37 l (i : Int)).f4 (rd_T37 l (q : Int)).f4, (rd_T37 l (i : Int)).f5⟩) (i : Int)).f4, mx (rd_T37 l (i : Int)).f5 (rd_T37 l (q : Int)).f5⟩ = l.set i (joinW (l.getD i z37) (l.getD q z37)) := by
  rw [Int.toNat_natCast, rdW, rdW, rdW, getD_set l i i hi, if_pos rfl, List.set_set]
  rfl
theorem ev_implJoinL : ∀ n (l : List S37), l.length ≤ n → n ≤ 2097152 → Ev (fun k => impl_JoinWarnings.l0 k l) (joinF n l, true) := by
  intro n
  induction n with
  | zero =>
    intro l hl _
    have e : l = [] := List.length_eq_zero_iff.1 (by omega)
    subst e
    refine Ev.unr ?_
    simp only [impl_JoinWarnings.l0]
    refine Ev.bind (f := fun k t => _) (ev_joint _ (by simp)) ?_
    exact Ev.congr (fun k => if_neg (by decide)) (Ev.now _)
  | succ n ih =>
    intro l hl hn
    refine Ev.unr ?_
    simp only [impl_JoinWarnings.l0]
    refine Ev.bind (f := fun k t => _) (ev_joint l (by omega)) ?_
    unfold joinF
    cases hp : firstP l with
    | none => exact Ev.congr (fun k => if_neg (by simp [pairR])) (Ev.now _)
    | some p =>
      obtain ⟨i, q⟩ := p
      have hj := firstFrom_some l _ _ (i, q) (Nat.zero_add _) hp
      dsimp only at hj
      simp only [pairR]
      refine Ev.congr (fun k => if_pos trivial) ?_
      refine Ev.congr (fun k => if_pos (by omega)) ?_
      refine Ev.congr (fun k => if_pos (by omega)) ?_
      refine Ev.congr (fun k => if_pos (by omega)) ?_
      refine Ev.congr (fun k => if_pos (by omega)) ?_
      refine Ev.bind (f := fun k t => _) (Ev.now _) ?_
      refine Ev.bind (f := fun k t => _) (Ev.eq_now fun k => (congrArg (fun z => impl_Warning_27.f z (q : Int) (wrap64 ((q : Int) + 1))) (join_set l i q (by omega))).trans (delete_f _ q (by rw [List.length_set]; omega) (by rw [List.length_set]; omega))) ?_
      have hlen : (joinAt l i q).length ≤ n := by have := joinAt_len l i q hj.2.1; omega
      exact ih (joinAt l i q) hlen (by omega)
theorem least_f (a b : Int) : spec_l1Least.f a b = some (mn a b) := by
  unfold spec_l1Least.f mn
  by_cases h : a < b
  · rw [if_pos h]; congr 1; split <;> omega
  · rw [if_neg h]; congr 1; split <;> omega
theorem most_f2 (a b : Int) : spec_l1Most.f a b = some (mx a b) := by
  unfold spec_l1Most.f mx
  by_cases h : a > b
  · rw [if_pos h]; congr 1; split <;> omega
  · rw [if_neg h]; congr 1; split <;> omega
theorem joins_f (a b : S37) : spec_l15Joins.f a.f0 a.f1 a.f2 a.f3 a.f4 a.f5 b.f0 b.f1 b.f2 b.f3 b.f4 b.f5 = some (joinsB a b) := by
  unfold spec_l15Joins.f joinsB
  by_cases h1 : a.f1 = b.f1 <;> by_cases h2 : a.f3 = b.f3 <;> by_cases h3 : a.f2 = b.f2 <;> by_cases h4 : a.f5 = b.f4 <;> by_cases h5 : b.f5 = a.f4 <;> simp [h1, h2, h3, h4, h5]
/-- The reference's inner loop behind a join: it ends, and the outer loop starts again. -/
theorem ev_spec_again (m : List S37) (R : List S37 × Bool) (hR : Ev (fun k => spec_JoinWarnings.l0 k m true) R) (i q : Int) : Ev (fun k => spec_JoinWarnings.l2 k m true i q) R := by
  refine Ev.unr ?_
  simp only [spec_JoinWarnings.l2, Bool.not_true]
  refine Ev.congr (f := fun k => spec_JoinWarnings.j4 k m true i q false) (fun k => by split <;> rfl) (Ev.unr ?_)
  simp only [spec_JoinWarnings.j4]
  refine Ev.congr (fun k => if_neg (by simp)) (Ev.unr ?_)
  simp only [spec_JoinWarnings.l1, Bool.not_true]
  refine Ev.congr (f := fun k => spec_JoinWarnings.j2 k m true (wrap64 (i + 1)) false) (fun k => by split <;> rfl) (Ev.unr ?_)
  simp only [spec_JoinWarnings.j2]
  exact Ev.congr (fun k => if_neg (by simp)) hR
theorem ev_spec_l2 (l : List S37) (hl : l.length ≤ 2097152) (i : Nat) (hi : i < l.length) (R : List S37 × Bool) (S : Nat → List S37 × Bool) (hR : Ev (fun k => spec_JoinWarnings.l1 k l false ((i + 1 : Nat) : Int)) R)
    (hS : ∀ q, i < q → q < l.length → joinsB (l.getD i z37) (l.getD q z37) = true → Ev (fun k => spec_JoinWarnings.l0 k (joinAt l i q) true) (S q)) :
    ∀ (d q : Nat), i < q → q + d = l.length → Ev (fun k => spec_JoinWarnings.l2 k l false (i : Int) (q : Int)) (match nextK l i q d with | some q => S q | none => R) := by
  intro d
  induction d with
  | zero =>
    intro q _ hq
    refine Ev.unr ?_
    simp only [spec_JoinWarnings.l2]
    refine Ev.congr (fun k => if_neg (by omega)) (Ev.unr ?_)
    simp only [spec_JoinWarnings.j4]
    refine Ev.congr (fun k => if_neg (by simp)) ?_
    rw [wrapS i (by omega)]
    exact hR
  | succ d ih =>
    intro q hiq hq
    have hn := ih (q + 1) (by omega) (by omega)
    refine Ev.unr ?_
    simp only [spec_JoinWarnings.l2, Bool.not_false]
    refine Ev.congr (fun k => if_pos (by omega)) (Ev.unr ?_)
    simp only [spec_JoinWarnings.j4]
    refine Ev.congr (fun k => if_pos (by trivial)) ?_
    refine Ev.congr (fun k => if_pos (by omega)) ?_
    refine Ev.congr (fun k => if_pos (by omega)) ?_
    refine Ev.congr (fun k => if_pos (by omega)) ?_
    refine Ev.congr (fun k => if_pos (by omega)) ?_
    simp only [rdW]
    refine Ev.bind (f := fun k t => _) (Ev.eq_now fun k => joins_f _ _) ?_
    unfold nextK
    by_cases hj : joinsB (l.getD i z37) (l.getD q z37) = true
    · rw [if_pos hj]
      refine Ev.congr (fun k => if_pos hj) ?_
      rw [wrapS q (by omega)]
      refine Ev.bind (f := fun k t => _) (Ev.eq_now fun k => least_f _ _) ?_
      refine Ev.bind (f := fun k t => _) (Ev.eq_now fun k => most_f2 _ _) ?_
      simp only [Option.bind_some, List.nil_append, List.length_nil, Nat.zero_add, Int.toNat_natCast]
      refine Ev.congr (fun k => if_pos (by omega)) ?_
      refine Ev.congr (fun k => if_pos (by rw [List.length_take, List.length_set]; omega)) ?_
      refine Ev.congr (fun k => if_pos (by omega)) ?_
      refine Ev.congr (fun k => if_pos (by omega)) ?_
      refine Ev.congr (fun k => if_pos (by rw [List.length_take, List.length_drop, List.length_set]; omega)) ?_
      refine ev_spec_again _ _ ?_ _ _
      have := hS q hiq (by omega) hj
      unfold joinAt at this
      rw [erase_eq] at this
      exact this
    · rw [if_neg hj]
      refine Ev.congr (fun k => if_neg hj) ?_
      rw [wrapS q (by omega)]
      exact hn
theorem ev_spec_l1 (l : List S37) (hl : l.length ≤ 2097152) (S : Nat → Nat → List S37 × Bool)
    (hS : ∀ i q, i < q → q < l.length → joinsB (l.getD i z37) (l.getD q z37) = true → Ev (fun k => spec_JoinWarnings.l0 k (joinAt l i q) true) (S i q)) :
    ∀ (d i : Nat), i + d = l.length → Ev (fun k => spec_JoinWarnings.l1 k l false (i : Int)) (match firstFrom l i d with | some p => S p.1 p.2 | none => (l, true)) := by
  intro d
  induction d with
  | zero =>
    intro i hi
    refine Ev.unr ?_
    simp only [spec_JoinWarnings.l1]
    refine Ev.congr (fun k => if_neg (by omega)) (Ev.unr ?_)
    simp only [spec_JoinWarnings.j2]
    refine Ev.congr (fun k => if_neg (by simp)) (Ev.unr (Ev.eq_now fun k => ?_))
    simp only [spec_JoinWarnings.l0]
    rw [if_neg (by simp)]
    rfl
  | succ d ih =>
    intro i hi
    refine Ev.unr ?_
    simp only [spec_JoinWarnings.l1, Bool.not_false]
    refine Ev.congr (fun k => if_pos (by omega)) (Ev.unr ?_)
    simp only [spec_JoinWarnings.j2]
    refine Ev.congr (fun k => if_pos (by trivial)) ?_
    rw [wrapS i (by omega)]
    have key := ev_spec_l2 l hl i (by omega) _ (S i) (ih (i + 1) (by omega)) (hS i) (l.length - (i + 1)) (i + 1) (by omega) (by omega)
    unfold firstFrom
    cases hn : nextK l i (i + 1) (l.length - (i + 1)) with
    | some q => rw [hn] at key; exact key
    | none => rw [hn] at key; exact key
theorem ev_specJoinL : ∀ n (l : List S37), l.length ≤ n → n ≤ 2097152 → Ev (fun k => spec_JoinWarnings.l0 k l true) (joinF n l, true) := by
  intro n
  induction n with
  | zero =>
    intro l hl hn
    have e : l = [] := List.length_eq_zero_iff.1 (by omega)
    subst e
    refine Ev.unr ?_
    simp only [spec_JoinWarnings.l0]
    refine Ev.congr (fun k => if_pos (by trivial)) ?_
    exact ev_spec_l1 [] (by simp) (fun _ _ => ([], true)) (fun i q _ h => by simp at h) 0 0 (by simp)
  | succ n ih =>
    intro l hl hn
    refine Ev.unr ?_
    simp only [spec_JoinWarnings.l0]
    refine Ev.congr (fun k => if_pos (by trivial)) ?_
    have key := ev_spec_l1 l (by omega) (fun i q => (joinF n (joinAt l i q), true)) (fun i q h1 h2 _ => ih _ (by rw [joinAt_len l i q h2]; omega) (by omega)) l.length 0 (by omega)
    unfold joinF
    cases hp : firstP l with
    | some p =>
      have hp' : firstFrom l 0 l.length = some p := hp
      rw [hp'] at key
      exact key
    | none =>
      have hp' : firstFrom l 0 l.length = none := hp
      rw [hp'] at key
      exact key
def joinR (l : List S37) : List S37 × Bool := if consB l = true then (joinF l.length l, true) else ([], false)
theorem joinR_len (l : List S37) : (joinR l).1.length ≤ 12 := by
  unfold joinR
  by_cases h : consB l = true
  · rw [if_pos h]; exact Nat.le_trans (joinF_len _ _) ((by unfold consB at h; simp only [Bool.and_eq_true, decide_eq_true_eq] at h; exact h.1))
  · rw [if_neg h]; exact Nat.zero_le _
theorem ev_specJoin (l : List S37) (hl : l.length ≤ 1048576) : Ev (fun k => spec_JoinWarnings.f k l) (joinR l) := by
  unfold spec_JoinWarnings.f joinR
  refine Ev.bind (f := fun k t => _) (ev_l14List l) ?_
  by_cases h : consB l = true
  · refine Ev.congr (fun k => if_pos h) ?_
    rw [if_pos h]
    simp only [Option.bind_some, List.nil_append, List.length_nil, Nat.zero_add]
    refine Ev.congr (fun k => if_pos (by omega)) ?_
    exact ev_specJoinL l.length l (Nat.le_refl _) (by omega)
  · refine Ev.congr (fun k => if_neg h) ?_
    rw [if_neg h]; exact Ev.now _
theorem ev_implJoin (l : List S37) (hl : l.length ≤ 1048576) : Ev (fun k => impl_JoinWarnings.f k l) (joinR l) := by
  unfold impl_JoinWarnings.f joinR
  refine Ev.bind (f := fun k t => _) (ev_IsConsistent l (by omega)) ?_
  by_cases h : consB l = true
  · refine Ev.congr (fun k => if_pos h) ?_
    rw [if_pos h]
    refine Ev.bind (f := fun k t => _) (Ev.eq_now fun k => clone_f l (by omega)) ?_
    exact ev_implJoinL l.length l (Nat.le_refl _) (by omega)
  · refine Ev.congr (fun k => if_neg h) ?_
    rw [if_neg h]; exact Ev.now _
end Go.Proofs.Ytfemneoahkglmaa.Q
