/- The two programs tell the same coverage of an area: for every map, area, field and threshold. -/
import Derived.Test.YtlcpbhcgncljiaaQf8
import Derived.Test.YtlcpbhcgncljiaaLaCover
namespace Go.Proofs.Ytlcpbhcgncljiaa.Q
open Go.RowKit Go.Proofs.YtlcpbhcgncljiaaW.PrintWords Go.Proofs.Ytlcpbhcgncljiaa.Gen
set_option linter.unusedVariables false
set_option linter.unusedSimpArgs false
def thrB (t : Int) : Bool := decide (-9000 ≤ t ∧ t ≤ 9000)
def coverageR (w h : Int) (l : List Int) (a : Int) (fw fh : Int) (fl : List Int) (t : Int) : Int × Int × Bool := if (thereB w h l a && (fitsB w h fw fh fl && thrB t)) = true then ((((vals l fl a).filter fun v => decide (t ≤ v)).length : Int), ((vals l fl a).length : Int), true) else (0, 0, false)
theorem cover_fold (l fl : List Int) (a t : Int) (q : List Nat) : ∀ (n m : Int), q.foldl (fun (s : Int × Int) i => if (l.getD i 0 == a) = true then (if fl.getD i 0 = -9999 then s else (if t ≤ fl.getD i 0 then s.1 + 1 else s.1, s.2 + 1)) else s) (n, m) =
    (n + (((((q.filter fun i => l.getD i 0 == a).map fun i => fl.getD i 0).filter fun v => !(v == -9999)).filter fun v => decide (t ≤ v)).length : Int), m + ((((q.filter fun i => l.getD i 0 == a).map fun i => fl.getD i 0).filter fun v => !(v == -9999)).length : Int)) := by
  induction q with
  | nil => intro n m; simp
  | cons x q ih =>
    intro n m
    rw [List.foldl_cons, List.filter_cons]
    by_cases h1 : (l.getD x 0 == a) = true
    · rw [if_pos h1, if_pos h1, List.map_cons, List.filter_cons]
      by_cases h2 : fl.getD x 0 = -9999
      · rw [if_pos h2, show (!(fl.getD x 0 == -9999)) = false from by simpa using h2, if_neg (by decide), ih]
      · rw [if_neg h2, show (!(fl.getD x 0 == -9999)) = true from by simpa using h2, if_pos rfl, List.filter_cons, List.length_cons]
        by_cases h3 : t ≤ fl.getD x 0
        · rw [if_pos h3, ih, if_pos (decide_eq_true h3), List.length_cons]
          exact Prod.ext (by dsimp only; omega) (by dsimp only; omega)
        · rw [if_neg h3, ih, if_neg (by simpa using h3)]
          exact Prod.ext (by dsimp only) (by dsimp only; omega)
    · rw [if_neg h1, if_neg h1, ih]
theorem ev_specCov (w h : Int) (l : List Int) (a : Int) (fw fh : Int) (fl : List Int) (t : Int) (hl : l.length ≤ 64) (hfl : fl.length = l.length) :
    Ev (fun k => spec_l13Coverage.f k w h l a fw fh fl t) ((((vals l fl a).filter fun v => decide (t ≤ v)).length : Int), ((vals l fl a).length : Int)) := by
  unfold spec_l13Coverage.f
  have key := ev_fold (fun k (s : Int × Int) i => spec_l13Coverage.l0 k a t s.1 s.2 i w h l fw fh fl) l.length (fun (s : Int × Int) i => if (l.getD i 0 == a) = true then (if fl.getD i 0 = -9999 then s else (if t ≤ fl.getD i 0 then s.1 + 1 else s.1, s.2 + 1)) else s) (fun s => s) (fun i s => (0 ≤ s.1 ∧ s.1 ≤ i) ∧ (0 ≤ s.2 ∧ s.2 ≤ i))
    (by
      rintro i ⟨n, m⟩ r hi ⟨hn, hm⟩
      dsimp only at hn hm
      by_cases e : l.getD i 0 = a
      · rw [if_pos (beq_iff_eq.2 e)]
        by_cases e2 : fl.getD i 0 = -9999
        · rw [if_pos e2]
          refine ⟨⟨by dsimp only; omega, by dsimp only; omega⟩, fun he => ?_⟩
          simp only [spec_l13Coverage.l0]
          refine Ev.congr (fun k => ?_) (Ev.unr (g := fun k => spec_l13Coverage.j1 k a t n m i true w h l fw fh fl) (Ev.congr (fun k => ?_) he))
          · rw [if_pos (by omega), if_pos (by omega), rdI, if_pos e, if_pos (by omega), rdI, show (fl.getD i 0 == -9999) = true from by simpa using e2]
          · simp only [spec_l13Coverage.j1]
            rw [if_pos trivial, wrapS i (by omega)]
        · rw [if_neg e2]
          refine ⟨⟨by dsimp only; split <;> omega, by dsimp only; omega⟩, fun he => ?_⟩
          simp only [spec_l13Coverage.l0]
          refine Ev.congr (fun k => ?_) (Ev.unr (g := fun k => spec_l13Coverage.j1 k a t n m i false w h l fw fh fl) (Ev.congr (fun k => ?_) he))
          · rw [if_pos (by omega), if_pos (by omega), rdI, if_pos e, if_pos (by omega), rdI, show (fl.getD i 0 == -9999) = false from by simpa using e2]
          · simp only [spec_l13Coverage.j1]
            rw [if_neg (by decide), if_pos (by omega), if_pos (by omega), rdI, wrapS i (by omega), wrapS' m (by omega) (by omega)]
            by_cases e3 : t ≤ fl.getD i 0
            · rw [if_pos e3, if_pos e3, wrapS' n (by omega) (by omega)]
            · rw [if_neg e3, if_neg e3]
      · rw [if_neg (by simpa using e)]
        refine ⟨⟨by dsimp only; omega, by dsimp only; omega⟩, fun he => ?_⟩
        simp only [spec_l13Coverage.l0]
        refine Ev.congr (fun k => ?_) (Ev.unr (g := fun k => spec_l13Coverage.j1 k a t n m i true w h l fw fh fl) (Ev.congr (fun k => ?_) he))
        · rw [if_pos (by omega), if_pos (by omega), rdI, if_neg e]
        · simp only [spec_l13Coverage.j1]
          rw [if_pos trivial, wrapS i (by omega)])
    (by
      intro s hs
      refine Ev.eq_now fun k => ?_
      simp only [spec_l13Coverage.l0]
      rw [if_neg (by omega)])
    (0, 0) (by simp)
  rw [cover_fold, Int.zero_add, Int.zero_add] at key
  exact key
theorem ev_specCoverage (w h : Int) (l : List Int) (a : Int) (fw fh : Int) (fl : List Int) (t : Int) : Ev (fun k => spec_AreaCoverage.f k w h l a fw fh fl t) (coverageR w h l a fw fh fl t) := by
  unfold spec_AreaCoverage.f coverageR
  refine Ev.bind (f := fun k t => _) (ev_there w h l a) ?_
  cases ht : thereB w h l a with
  | false => exact Ev.now _
  | true =>
    have ho := there_ok ht
    refine Ev.congr (fun k => if_pos rfl) ?_
    refine Ev.bind (f := fun k t => _) (ev_fits w h l fw fh fl ho) ?_
    cases hf : fitsB w h fw fh fl with
    | false => exact Ev.now _
    | true =>
      refine Ev.congr (fun k => if_pos rfl) ?_
      refine Ev.bind (f := fun k t => _) (Ev.eq_now (r := thrB t) fun k => by unfold spec_l13Threshold.f; rw [l1In_f]; rfl) ?_
      cases thrB t with
      | false => exact Ev.now _
      | true =>
        refine Ev.congr (fun k => if_pos rfl) ?_
        refine Ev.bind (f := fun k t => _) (ev_specCov w h l a fw fh fl t (okM_len ho) (fits_len ho hf).1) ?_
        exact Ev.now _
theorem ev_count (v : List Int) (hv : v.length ≤ 1048576) (t : Int) : Ev (fun k => impl_countAtLeast.f k v t) (((v.filter fun x => decide (t ≤ x)).length : Int)) := by
  unfold impl_countAtLeast.f
  have key := ev_fold (fun k (s : Int) i => impl_countAtLeast.l0 k t s v (v.length : Int) i) v.length (fun s i => if decide (t ≤ v.getD i 0) = true then s + 1 else s) (fun s => s) (fun i s => 0 ≤ s ∧ s ≤ (i : Int))
    (by
      intro i s r hi hs
      by_cases e : t ≤ v.getD i 0
      · rw [if_pos (decide_eq_true e)]
        refine ⟨by omega, fun he => Ev.congr (fun k => ?_) he⟩
        simp only [impl_countAtLeast.l0]
        rw [if_pos (by omega), if_pos (by omega), if_pos (by omega), rdI, if_pos e, wrapS i (by omega), wrapS' s hs.1 (by omega)]
      · rw [if_neg (by simpa using e)]
        refine ⟨by omega, fun he => Ev.congr (fun k => ?_) he⟩
        simp only [impl_countAtLeast.l0]
        rw [if_pos (by omega), if_pos (by omega), if_pos (by omega), rdI, if_neg e, wrapS i (by omega)])
    (by
      intro s hs
      refine Ev.eq_now fun k => ?_
      simp only [impl_countAtLeast.l0]
      rw [if_neg (by omega)])
    0 (by simp)
  rw [foldl_getD v 0 (fun s x => if decide (t ≤ x) = true then s + 1 else s), foldl_count (fun x => decide (t ≤ x)), Int.zero_add] at key
  exact key
theorem ev_implCoverage (w h : Int) (l : List Int) (a : Int) (fw fh : Int) (fl : List Int) (t : Int) : Ev (fun k => impl_AreaCoverage.f k w h l a fw fh fl t) (coverageR w h l a fw fh fl t) := by
  unfold impl_AreaCoverage.f coverageR
  have no : Ev (fun k => impl_AreaCoverage.j0 k a t true w h l fw fh fl) (0, 0, false) := Ev.unr (Ev.eq_now fun k => by simp only [impl_AreaCoverage.j0]; rfl)
  refine Ev.bind (f := fun k t => _) (ev_hasOne w h l a) ?_
  cases ht : thereB w h l a with
  | false => exact no
  | true =>
    have ho := there_ok ht
    refine Ev.congr (fun k => if_pos rfl) ?_
    simp only [fitsMap_f, within_f, Option.bind_some]
    cases hf : fitsB w h fw fh fl with
    | false => exact no
    | true =>
      refine Ev.congr (fun k => if_pos rfl) ?_
      rw [show decide (-9000 ≤ t ∧ t ≤ 9000) = thrB t from rfl]
      cases thrB t with
      | false => exact no
      | true =>
        refine Ev.unr ?_
        simp only [impl_AreaCoverage.j0]
        refine Ev.congr (fun k => if_neg (by decide)) ?_
        refine Ev.bind (f := fun k t => _) (ev_areaValues w h l a fw fh fl (okM_len ho) (fits_len ho hf).1) ?_
        refine Ev.bind (f := fun k t => _) (ev_count (vals l fl a) (by have := vals_len l fl a; have := okM_len ho; omega) t) ?_
        exact Ev.now _
end Go.Proofs.Ytlcpbhcgncljiaa.Q
namespace Go.Proofs.Ytlcpbhcgncljiaa.Pure
open Go.RowKit Go.Proofs.YtlcpbhcgncljiaaW.PrintWords Go.Proofs.Ytlcpbhcgncljiaa.Tells Go.Proofs.Ytlcpbhcgncljiaa.Q Go.Proofs.Ytlcpbhcgncljiaa.Gen
theorem FnExactAreaCoverage : ∀ (x0 : S24) (a1 : Int) (x2 : S43) (a3 : Int), G24 x0 → I64 a1 → G43 x2 → I64 a3 → ∃ k, laws_FnExactAreaCoverage.f k x0.f0 x0.f1 x0.f2 a1 x2.f0 x2.f1 x2.f2 a3 = some true := by
  rintro ⟨w, h, l⟩ a1 ⟨fw, fh, fl⟩ a3 ⟨_, _, hl, _⟩ _ ⟨_, _, hfl, _⟩ _
  dsimp only at hl hfl ⊢
  refine Ev.rounds ?_
  unfold laws_FnExactAreaCoverage.f
  simp only [szA_f w h l 1048576 (by omega) hl, Option.bind_some]
  by_cases hb : (l.length : Int) ≤ 1048576
  · simp only [if_pos hb]
    refine Ev.congr (fun k => if_neg (by omega)) ?_
    simp only [szF_f fw fh fl (1048576 - l.length) (by omega) hfl, Option.bind_some]
    by_cases hb2 : (fl.length : Int) ≤ 1048576 - l.length
    · simp only [if_pos hb2]
      refine Ev.congr (fun k => if_neg (by omega)) ?_
      have hcA := ev_toA w h l (by omega)
      have eqA := ev_eqA w h l (by omega)
      have hcF := ev_toF fw fh fl (by omega)
      have eqF := ev_eqF fw fh fl (by omega)
      have hsp := ev_specCoverage w h l a1 fw fh fl a3
      have him := ev_implCoverage w h l a1 fw fh fl a3
      generalize coverageR w h l a1 fw fh fl a3 = v at hsp him
      repeat first
        | exact Ev.now _
        | (with_reducible refine Ev.bind (f := fun k t => _) hcA ?_)
        | (with_reducible refine Ev.bind (f := fun k t => _) hcF ?_)
        | (with_reducible refine Ev.bind (f := fun k t => _) hsp ?_)
        | (with_reducible refine Ev.bind (f := fun k t => _) him ?_)
        | (with_reducible refine Ev.bind (f := fun k t => _) eqA ?_)
        | (with_reducible refine Ev.bind (f := fun k t => _) eqF ?_)
        | refine Ev.congr (fun k => if_pos (by first | rfl | trivial)) ?_
        | refine Ev.congr (fun k => if_neg (by first | omega | simp)) ?_
        | (refine Ev.unr ?_; simp only [laws_FnExactAreaCoverage.j0, bne_self_eq_false, Bool.false_eq_true, if_false])
    · simp only [if_neg hb2]
      exact Ev.now _
  · simp only [if_neg hb]
    exact Ev.now _
end Go.Proofs.Ytlcpbhcgncljiaa.Pure
