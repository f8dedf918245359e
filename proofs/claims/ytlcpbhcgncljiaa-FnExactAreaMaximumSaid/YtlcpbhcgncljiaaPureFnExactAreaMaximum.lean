/- The two programs tell the same maximum of an area: for every map, area and field. -/
import Derived.Test.YtlcpbhcgncljiaaQf9
import Derived.Test.YtlcpbhcgncljiaaLaCover
namespace Go.Proofs.Ytlcpbhcgncljiaa.Q
open Go.RowKit Go.Proofs.YtlcpbhcgncljiaaW.PrintWords Go.Proofs.Ytlcpbhcgncljiaa.Gen
set_option linter.unusedVariables false
set_option linter.unusedSimpArgs false
/-- The greatest of a number and a list. -/
def mst (b : Int) (v : List Int) : Int := v.foldl (fun b x => if b > x then b else x) b
theorem mst_ge (v : List Int) : ∀ b, b ≤ mst b v := by
  induction v with
  | nil => intro b; exact Int.le_refl _
  | cons x v ih =>
    intro b
    have := ih (if b > x then b else x)
    show b ≤ mst (if b > x then b else x) v
    by_cases c : b > x
    · rw [if_pos c] at this ⊢; exact this
    · rw [if_neg c] at this ⊢; omega
theorem mst_skip (v : List Int) : ∀ b, -9999 ≤ b → mst b v = mst b (v.filter fun x => !(x == -9999)) := by
  induction v with
  | nil => intro b _; rfl
  | cons x v ih =>
    intro b hb
    rw [List.filter_cons]
    by_cases e : x = -9999
    · rw [show (!(x == -9999)) = false from by simpa using e, if_neg (by decide), ← ih b hb]
      show mst (if b > x then b else x) v = mst b v
      by_cases c : b > x
      · rw [if_pos c]
      · rw [if_neg c, show x = b from by omega]
    · rw [show (!(x == -9999)) = true from by simpa using e, if_pos rfl]
      show mst (if b > x then b else x) v = mst (if b > x then b else x) _
      exact ih _ (by split <;> omega)
theorem maxN_mst (x : Int) (v : List Int) : ∀ j, j ≤ v.length → maxN (x :: v) j = mst x (v.take j) := by
  intro j
  induction j with
  | zero => intro _; rfl
  | succ j ih =>
    intro hj
    show mx (maxN (x :: v) j) ((x :: v).getD (j + 1) 0) = _
    rw [ih (by omega), List.take_succ_eq_append_getElem (by omega), show (x :: v).getD (j + 1) 0 = v.getD j 0 from by simp, getD_lt v 0 j (by omega)]
    unfold mst
    rw [List.foldl_append]
    show mx _ _ = if _ > _ then _ else _
    unfold mx
    generalize List.foldl _ x (List.take j v) = m
    generalize v[j] = y
    by_cases c : m > y
    · rw [if_pos c, if_neg (by omega)]
    · rw [if_neg c]
      by_cases d : m < y
      · rw [if_pos d]
      · rw [if_neg d]; omega
def maxR (v : List Int) : Int × Bool := match v with
  | [] => (0, false)
  | x :: v => (mst x v, true)
def maximumR (w h : Int) (l : List Int) (a : Int) (fw fh : Int) (fl : List Int) : Int × Bool := if (thereB w h l a && fitsB w h fw fh fl) = true then maxR (vals l fl a) else (0, false)
theorem vals_cell {l fl : List Int} {a : Int} (hfl : fl.length = l.length) (hc : ∀ x ∈ fl, cellB x = true) : ∀ x ∈ vals l fl a, -9000 ≤ x ∧ x ≤ 9000 := by
  intro x hx
  unfold vals at hx
  obtain ⟨h1, h2⟩ := List.mem_filter.1 hx
  obtain ⟨i, hi, rfl⟩ := List.mem_map.1 h1
  have hlt := cells_lt hi
  have h3 := hc (fl.getD i 0) (by rw [getD_lt fl 0 i (by omega)]; exact List.getElem_mem _)
  unfold cellB at h3
  simp only [Bool.or_eq_true, decide_eq_true_eq] at h3
  simp at h2
  rcases h3 with h3 | h3
  · exact absurd h3 h2
  · exact h3
theorem ev_specMaximum (w h : Int) (l : List Int) (a : Int) (fw fh : Int) (fl : List Int) : Ev (fun k => spec_AreaMaximum.f k w h l a fw fh fl) (maximumR w h l a fw fh fl) := by
  unfold spec_AreaMaximum.f maximumR
  have no : Ev (fun k => spec_AreaMaximum.j0 k a true w h l fw fh fl) (0, false) := Ev.unr (Ev.eq_now fun k => by simp only [spec_AreaMaximum.j0]; rfl)
  refine Ev.bind (f := fun k t => _) (ev_there w h l a) ?_
  cases ht : thereB w h l a with
  | false => exact no
  | true =>
    have ho := there_ok ht
    have hl := okM_len ho
    refine Ev.congr (fun k => if_pos rfl) ?_
    refine Ev.bind (f := fun k t => _) (ev_fits w h l fw fh fl ho) ?_
    cases hf : fitsB w h fw fh fl with
    | false => exact no
    | true =>
      have hfl := fits_len ho hf
      refine Ev.unr ?_
      simp only [spec_AreaMaximum.j0]
      refine Ev.congr (fun k => if_neg (by decide)) ?_
      have key := ev_fold (fun k (s : Int) i => spec_AreaMaximum.l0 k a s i w h l fw fh fl) l.length (fun (s : Int) i => if (l.getD i 0 == a) = true then (if s > fl.getD i 0 then s else fl.getD i 0) else s) (fun s => if s = -9999 then ((0 : Int), false) else (s, true)) (fun _ _ => True)
        (by
          intro i s r hi _
          refine ⟨trivial, ?_⟩
          by_cases e : l.getD i 0 = a
          · rw [if_pos (beq_iff_eq.2 e)]
            intro he
            refine Ev.congr (fun k => ?_) he
            simp only [spec_AreaMaximum.l0]
            rw [if_pos (by omega), if_pos (by omega), rdI, if_pos e, if_pos (by omega), rdI, show spec_l1Most.f s (fl.getD i 0) = some (if s > fl.getD i 0 then s else fl.getD i 0) from by unfold spec_l1Most.f; split <;> rfl, wrapS i (by omega)]
            rfl
          · rw [if_neg (by simpa using e)]
            intro he
            refine Ev.congr (fun k => ?_) he
            simp only [spec_AreaMaximum.l0]
            rw [if_pos (by omega), if_pos (by omega), rdI, if_neg e, wrapS i (by omega)])
        (by
          intro s _
          refine Ev.eq_now fun k => ?_
          simp only [spec_AreaMaximum.l0]
          rw [if_neg (by omega)]
          split <;> rfl)
        (-9999) trivial
      have e1 : (List.range l.length).foldl (fun (s : Int) i => if (l.getD i 0 == a) = true then (if s > fl.getD i 0 then s else fl.getD i 0) else s) (-9999) = mst (-9999) (vals l fl a) := by
        unfold vals
        rw [← mst_skip _ _ (Int.le_refl _)]
        unfold mst cells
        rw [List.foldl_map, List.foldl_filter]
      rw [e1] at key
      have e2 : (if mst (-9999) (vals l fl a) = -9999 then ((0 : Int), false) else (mst (-9999) (vals l fl a), true)) = maxR (vals l fl a) := by
        have hv := vals_cell (a := a) hfl.1 hfl.2
        cases hvv : vals l fl a with
        | nil => rfl
        | cons x v =>
          have hx := hv x (by rw [hvv]; simp)
          have e3 : mst (-9999) (x :: v) = mst x v := by
            show mst (if -9999 > x then -9999 else x) v = _
            rw [if_neg (by omega)]
          have := mst_ge v x
          rw [e3, if_neg (by omega)]
          rfl
      rw [e2] at key
      exact key
theorem ev_implMaximum (w h : Int) (l : List Int) (a : Int) (fw fh : Int) (fl : List Int) : Ev (fun k => impl_AreaMaximum.f k w h l a fw fh fl) (maximumR w h l a fw fh fl) := by
  unfold impl_AreaMaximum.f maximumR
  have no : Ev (fun k => impl_AreaMaximum.j0 k a true w h l fw fh fl) (0, false) := Ev.unr (Ev.eq_now fun k => by simp only [impl_AreaMaximum.j0]; rfl)
  refine Ev.bind (f := fun k t => _) (ev_hasOne w h l a) ?_
  cases ht : thereB w h l a with
  | false => exact no
  | true =>
    have ho := there_ok ht
    refine Ev.congr (fun k => if_pos rfl) ?_
    simp only [fitsMap_f, Option.bind_some]
    cases hf : fitsB w h fw fh fl with
    | false => exact no
    | true =>
      refine Ev.unr ?_
      simp only [impl_AreaMaximum.j0]
      refine Ev.congr (fun k => if_neg (by decide)) ?_
      refine Ev.bind (f := fun k t => _) (ev_areaValues w h l a fw fh fl (okM_len ho) (fits_len ho hf).1) ?_
      cases hv : vals l fl a with
      | nil => exact Ev.now _
      | cons x v =>
        refine Ev.congr (fun k => if_neg (by simp; omega)) ?_
        refine Ev.bind (f := fun k t => _) (Ev.eq_now (r := mst x v) fun k => ?_) (Ev.now _)
        unfold slices_Max_int_int.f
        rw [if_pos (by simp), show (x :: v).length - 1 = v.length from rfl, maxN_mst x v v.length (Nat.le_refl _), List.take_length]
end Go.Proofs.Ytlcpbhcgncljiaa.Q
namespace Go.Proofs.Ytlcpbhcgncljiaa.Pure
open Go.RowKit Go.Proofs.YtlcpbhcgncljiaaW.PrintWords Go.Proofs.Ytlcpbhcgncljiaa.Tells Go.Proofs.Ytlcpbhcgncljiaa.Q Go.Proofs.Ytlcpbhcgncljiaa.Gen
theorem FnExactAreaMaximum : ∀ (x0 : S24) (a1 : Int) (x2 : S43), G24 x0 → I64 a1 → G43 x2 → ∃ k, laws_FnExactAreaMaximum.f k x0.f0 x0.f1 x0.f2 a1 x2.f0 x2.f1 x2.f2 = some true := by
  rintro ⟨w, h, l⟩ a1 ⟨fw, fh, fl⟩ ⟨_, _, hl, _⟩ _ ⟨_, _, hfl, _⟩
  dsimp only at hl hfl ⊢
  refine Ev.rounds ?_
  unfold laws_FnExactAreaMaximum.f
  simp only [szA_f w h l 1048576 (by omega) hl, Option.bind_some]
  by_cases hb : (l.length : Int) ≤ 1048576
  · simp only [if_pos hb]
    refine Ev.congr (fun k => if_neg (by omega)) ?_
    simp only [szF_f fw fh fl (1048576 - l.length) (by omega) hfl, Option.bind_some]
    by_cases hb2 : (fl.length : Int) ≤ 1048576 - l.length
    · simp only [if_pos hb2]
      refine Ev.congr (fun k => if_neg (by omega)) ?_
      have hcA := ev_toA w h l (by omega)
      have eqA := ev_eqA w h l (by omega)
      have hcF := ev_toF fw fh fl (by omega)
      have eqF := ev_eqF fw fh fl (by omega)
      have hsp := ev_specMaximum w h l a1 fw fh fl
      have him := ev_implMaximum w h l a1 fw fh fl
      generalize maximumR w h l a1 fw fh fl = v at hsp him
      repeat first
        | exact Ev.now _
        | (with_reducible refine Ev.bind (f := fun k t => _) hcA ?_)
        | (with_reducible refine Ev.bind (f := fun k t => _) hcF ?_)
        | (with_reducible refine Ev.bind (f := fun k t => _) hsp ?_)
        | (with_reducible refine Ev.bind (f := fun k t => _) him ?_)
        | (with_reducible refine Ev.bind (f := fun k t => _) eqA ?_)
        | (with_reducible refine Ev.bind (f := fun k t => _) eqF ?_)
        | refine Ev.congr (fun k => if_pos (by first | rfl | trivial)) ?_
        | refine Ev.congr (fun k => if_neg (by first | omega | simp)) ?_
        | (refine Ev.unr ?_; simp only [laws_FnExactAreaMaximum.j0, bne_self_eq_false, Bool.false_eq_true, if_false])
    · simp only [if_neg hb2]
      exact Ev.now _
  · simp only [if_neg hb]
    exact Ev.now _
end Go.Proofs.Ytlcpbhcgncljiaa.Pure
