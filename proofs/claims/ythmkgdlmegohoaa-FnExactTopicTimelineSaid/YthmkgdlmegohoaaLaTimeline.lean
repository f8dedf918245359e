/- Timelines of levels: what both programs make of 240 levels. -/
import Derived.Test.YthmkgdlmegohoaaQf77
import Derived.Test.YthmkgdlmegohoaaQf78
import Derived.Test.YthmkgdlmegohoaaEv
namespace Go.Proofs.Ythmkgdlmegohoaa.Q
open Go.RowKit Go.Proofs.YthmkgdlmegohoaaW.PrintWords Go.Proofs.Ythmkgdlmegohoaa.Gen
set_option linter.unusedVariables false
set_option linter.unusedSimpArgs false
theorem rdS' (l : List S85) (i : Nat) : rd_T85 l (i : Int) = l.getD i z85 := rfl
/-- The last stretch goes on at hour h with level v. -/
def goesOn (s : List S85) (h v : Int) : Bool := decide (0 < s.length) && (decide ((s.getD (s.length - 1) z85).f1 = h) && decide ((s.getD (s.length - 1) z85).f2 = v))
def stepT (s : List S85) (h v : Int) : List S85 :=
  if v = 0 then s else if goesOn s h v = true then s.set (s.length - 1) ⟨(s.getD (s.length - 1) z85).f0, wrap64 ((s.getD (s.length - 1) z85).f1 + 1), (s.getD (s.length - 1) z85).f2⟩ else s ++ [⟨h, wrap64 (h + 1), v⟩]
def tlF (p : Int → Int) : Nat → List S85
  | 0 => []
  | h + 1 => stepT (tlF p h) (h : Int) (p (h : Int))
theorem stepT_len (s : List S85) (h v : Int) : (stepT s h v).length ≤ s.length + 1 := by
  unfold stepT
  split
  · omega
  · split
    · rw [List.length_set]; omega
    · simp
theorem tlF_len (p : Int → Int) : ∀ h, (tlF p h).length ≤ h := by
  intro h
  induction h with
  | zero => exact Nat.le_refl _
  | succ h ih => exact Nat.le_trans (stepT_len _ _ _) (by omega)
theorem ev_timeline_l0 (p : Int → Int) : ∀ (d h : Nat), h + d = 240 → Ev (fun k => impl_timeline.l0 k p (tlF p h) (h : Int)) (tlF p 240) := by
  intro d
  induction d with
  | zero =>
    intro h hd
    have e : h = 240 := by omega
    subst e
    refine Ev.unr (Ev.eq_now fun k => ?_)
    simp only [impl_timeline.l0]
    rw [if_neg (by omega)]
  | succ d ih =>
    intro h hd
    have hn := ih (h + 1) (by omega)
    have hlen := tlF_len p h
    refine Ev.unr ?_
    simp only [impl_timeline.l0]
    refine Ev.congr (fun k => if_pos (by omega)) ?_
    refine Ev.bind (f := fun k t => _) (Ev.now (p (h : Int))) ?_
    rw [wrapS h (by omega)]
    rw [show tlF p (h + 1) = stepT (tlF p h) (h : Int) (p (h : Int)) from rfl] at hn
    generalize tlF p h = s at hn hlen
    generalize p (h : Int) = v at hn
    unfold stepT goesOn at hn
    by_cases h0 : v = 0
    · refine Ev.congr (fun k => if_pos h0) ?_
      rw [if_pos h0] at hn
      exact hn
    · refine Ev.congr (fun k => if_neg h0) ?_
      rw [if_neg h0] at hn
      by_cases h1 : 0 < s.length
      · refine Ev.congr (fun k => if_pos (by omega)) ?_
        rw [show wrap64 ((s.length : Int) - 1) = ((s.length - 1 : Nat) : Int) from by unfold wrap64; omega]
        refine Ev.congr (fun k => if_pos (by omega)) ?_
        refine Ev.congr (fun k => if_pos (by omega)) ?_
        rw [rdS', Int.toNat_natCast]
        generalize hy : s.getD (s.length - 1) z85 = y at hn
        by_cases h2 : y.f1 = (h : Int)
        · refine Ev.congr (fun k => if_pos h2) ?_
          by_cases h3 : y.f2 = v
          · refine Ev.congr (fun k => if_pos h3) ?_
            rw [if_pos (by rw [decide_eq_true h1, decide_eq_true h2, decide_eq_true h3]; rfl)] at hn
            exact hn
          · refine Ev.congr (fun k => if_neg h3) ?_
            rw [if_neg (by rw [decide_eq_false h3]; simp), wrapS h (by omega)] at hn
            refine Ev.congr (fun k => if_pos (by omega)) ?_
            exact hn
        · refine Ev.congr (fun k => if_neg h2) ?_
          rw [if_neg (by rw [decide_eq_false h2]; simp), wrapS h (by omega)] at hn
          refine Ev.congr (fun k => if_pos (by omega)) ?_
          exact hn
      · refine Ev.congr (fun k => if_neg (by omega)) ?_
        rw [if_neg (by rw [decide_eq_false h1]; simp), wrapS h (by omega)] at hn
        refine Ev.congr (fun k => if_pos (by omega)) ?_
        exact hn
theorem ev_timeline (p : Int → Int) : Ev (fun k => impl_timeline.f k p) (tlF p 240) := ev_timeline_l0 p 240 0 (by omega)
/-- All stretches end at hour h at the latest. -/
theorem tlF_end (p : Int → Int) : ∀ h : Nat, h ≤ 240 → ∀ y ∈ tlF p h, y.f1 ≤ (h : Int) := by
  intro h
  induction h with
  | zero => intro _ y hy; cases hy
  | succ h ih =>
    intro hh y hy
    have ih' := ih (by omega)
    rw [show tlF p (h + 1) = stepT (tlF p h) (h : Int) (p (h : Int)) from rfl] at hy
    generalize tlF p h = s at ih' hy
    unfold stepT at hy
    split at hy
    · have := ih' y hy; omega
    · split at hy
      · rename_i hg
        unfold goesOn at hg
        simp only [Bool.and_eq_true, decide_eq_true_eq] at hg
        rcases List.mem_or_eq_of_mem_set hy with hm | hm
        · have := ih' y hm; omega
        · rw [hm]
          dsimp only
          rw [hg.2.1, wrapS h (by omega)]
          exact Int.le_refl _
      · rcases List.mem_append.1 hy with hm | hm
        · have := ih' y hm; omega
        · rw [List.mem_singleton.1 hm]
          dsimp only
          rw [wrapS h (by omega)]
          exact Int.le_refl _
theorem tlF_new (p : Int → Int) (h : Nat) (hh : h < 240) (hv : p (h : Int) ≠ 0) (hg : goesOn (tlF p h) (h : Int) (p (h : Int)) = false) : tlF p (h + 1) = tlF p h ++ [⟨(h : Int), ((h + 1 : Nat) : Int), p (h : Int)⟩] := by
  show stepT (tlF p h) (h : Int) (p (h : Int)) = _
  unfold stepT
  rw [if_neg hv, if_neg (by rw [hg]; simp), wrapS h (by omega)]
theorem last_snoc (s : List S85) (y : S85) : (s ++ [y]).getD ((s ++ [y]).length - 1) z85 = y := by
  rw [List.getD_eq_getElem?_getD, List.length_append, List.length_singleton, Nat.add_sub_cancel, List.getElem?_append_right (Nat.le_refl _), Nat.sub_self]
  rfl
theorem tlF_on (p : Int → Int) (h : Nat) (hh : h < 240) (s : List S85) (a : Int) (hs : tlF p h = s ++ [⟨a, (h : Int), p (h : Int)⟩]) (hv : p (h : Int) ≠ 0) : tlF p (h + 1) = s ++ [⟨a, ((h + 1 : Nat) : Int), p (h : Int)⟩] := by
  show stepT (tlF p h) (h : Int) (p (h : Int)) = _
  rw [hs]
  unfold stepT goesOn
  rw [if_neg hv, last_snoc]
  rw [if_pos (by simp)]
  dsimp only
  rw [wrapS h (by omega), List.length_append, List.length_singleton, Nat.add_sub_cancel]
  rw [List.set_append_right _ _ (Nat.le_refl _), Nat.sub_self]
  rfl
theorem tlF_zero (p : Int → Int) (h : Nat) (hv : p (h : Int) = 0) : tlF p (h + 1) = tlF p h := by
  show stepT (tlF p h) (h : Int) (p (h : Int)) = _
  unfold stepT
  rw [if_pos hv]
/-- What stands at hour q, if the levels from h on are all the one at h, where the last stretch did not go on. -/
theorem tlF_run (p : Int → Int) (h : Nat) (hg : p (h : Int) ≠ 0 → goesOn (tlF p h) (h : Int) (p (h : Int)) = false) : ∀ (d : Nat), h + d + 1 ≤ 240 → (∀ j : Nat, j ≤ d → p ((h + j : Nat) : Int) = p (h : Int)) → tlF p (h + d + 1) = if p (h : Int) = 0 then tlF p h else tlF p h ++ [⟨(h : Int), ((h + d + 1 : Nat) : Int), p (h : Int)⟩] := by
  intro d
  induction d with
  | zero =>
    intro hh _
    by_cases hv : p (h : Int) = 0
    · rw [if_pos hv]; exact tlF_zero p h hv
    · rw [if_neg hv]; exact tlF_new p h (by omega) hv (hg hv)
  | succ d ih =>
    intro hh hj
    have e := ih (by omega) (fun j hjd => hj j (by omega))
    have ej : p ((h + d + 1 : Nat) : Int) = p (h : Int) := hj (d + 1) (Nat.le_refl _)
    by_cases hv : p (h : Int) = 0
    · rw [if_pos hv] at e ⊢
      rw [← e]
      exact tlF_zero p (h + d + 1) (ej.trans hv)
    · rw [if_neg hv] at e ⊢
      rw [← ej] at e hv ⊢
      exact tlF_on p (h + d + 1) (by omega) _ _ e hv
theorem goes_run (p : Int → Int) (h d : Nat) (hd : h + d + 1 < 240) (hg : p (h : Int) ≠ 0 → goesOn (tlF p h) (h : Int) (p (h : Int)) = false) (hj : ∀ j : Nat, j ≤ d → p ((h + j : Nat) : Int) = p (h : Int)) (hn : p ((h + d + 1 : Nat) : Int) ≠ p (h : Int)) : goesOn (tlF p (h + d + 1)) ((h + d + 1 : Nat) : Int) (p ((h + d + 1 : Nat) : Int)) = false := by
  rw [tlF_run p h hg d (by omega) hj]
  by_cases hv : p (h : Int) = 0
  · rw [if_pos hv]
    unfold goesOn
    by_cases hl : 0 < (tlF p h).length
    · have hm : (tlF p h).getD ((tlF p h).length - 1) z85 ∈ tlF p h := by
        rw [getD_lt _ _ _ (by omega)]
        exact List.getElem_mem _
      have := tlF_end p h (by omega) _ hm
      rw [decide_eq_false (show ¬ ((tlF p h).getD ((tlF p h).length - 1) z85).f1 = ((h + d + 1 : Nat) : Int) from by omega)]
      simp
    · rw [decide_eq_false hl]; rfl
  · rw [if_neg hv]
    unfold goesOn
    rw [last_snoc]
    dsimp only
    rw [decide_eq_false (show ¬ p (h : Int) = p ((h + d + 1 : Nat) : Int) from fun e => hn e.symm)]
    simp
/-- The levels of the first n hours. -/
def levelsP (p : Int → Int) (n : Nat) : List Int := (List.range n).map fun (h : Nat) => p (h : Int)
theorem levelsP_length (p : Int → Int) (n : Nat) : (levelsP p n).length = n := by simp [levelsP]
theorem levelsP_rd (p : Int → Int) (n i : Nat) (hi : i < n) : rd (levelsP p n) (i : Int) = p (i : Int) := by
  show (levelsP p n).getD ((i : Int).toNat) 0 = _
  rw [Int.toNat_natCast, List.getD_eq_getElem?_getD]
  simp [levelsP, hi]
theorem levelsP_succ (p : Int → Int) (n : Nat) : levelsP p (n + 1) = levelsP p n ++ [p (n : Int)] := by
  unfold levelsP
  rw [List.range_succ, List.map_append]
  rfl
def edgeT (p : Int → Int) (h : Nat) : Prop := h < 240 → p (h : Int) ≠ 0 → goesOn (tlF p h) (h : Int) (p (h : Int)) = false
theorem ev_l15_l1 (p : Int → Int) (hp : ∀ h, 0 ≤ p h) (h : Nat) (hh : h < 240) (hg : edgeT p h) (R : List S85) (H : ∀ x : Nat, h < x → x ≤ 240 → edgeT p x → Ev (fun k => spec_l15Timeline.l0 k (levelsP p 240) (tlF p x) (x : Int)) R) :
    ∀ (e j : Nat), h + j + e = 240 → (∀ q : Nat, q < j → p ((h + q : Nat) : Int) = p (h : Int)) → Ev (fun k => spec_l15Timeline.l1 k (levelsP p 240) (tlF p h) (h : Int) ((h + j : Nat) : Int)) R := by
  have out : ∀ j : Nat, 0 < j → h + j ≤ 240 → (∀ q : Nat, q < j → p ((h + q : Nat) : Int) = p (h : Int)) → (h + j < 240 → p ((h + j : Nat) : Int) ≠ p (h : Int)) → Ev (fun k => if p (h : Int) > 0 then (if (tlF p h).length < 5864062014805 then (spec_l15Timeline.l0 k (levelsP p 240) (tlF p h ++ [⟨(h : Int), ((h + j : Nat) : Int), p (h : Int)⟩]) ((h + j : Nat) : Int)) else none) else (spec_l15Timeline.l0 k (levelsP p 240) (tlF p h) ((h + j : Nat) : Int))) R := by
    intro j hj hjl hq hn
    obtain ⟨d, rfl⟩ : ∃ d, j = d + 1 := ⟨j - 1, by omega⟩
    have hr := tlF_run p h (hg hh) d (by omega) (fun q hqd => hq q (by omega))
    have key := H (h + (d + 1)) (by omega) hjl (fun hlt _ => goes_run p h d (by omega) (hg hh) (fun q hqd => hq q (by omega)) (hn hlt))
    rw [show tlF p (h + (d + 1)) = tlF p (h + d + 1) from rfl, hr] at key
    have hlen := tlF_len p h
    by_cases hv : p (h : Int) > 0
    · rw [if_neg (by omega)] at key
      refine Ev.congr (fun k => if_pos hv) ?_
      refine Ev.congr (fun k => if_pos (by omega)) ?_
      exact key
    · have := hp (h : Int)
      rw [if_pos (by omega)] at key
      refine Ev.congr (fun k => if_neg hv) ?_
      exact key
  intro e
  induction e with
  | zero =>
    intro j hj hq
    refine Ev.unr ?_
    simp only [spec_l15Timeline.l1]
    rw [levelsP_length, levelsP_rd p 240 h hh]
    refine Ev.congr (fun k => if_neg (by omega)) ?_
    refine Ev.congr (fun k => if_pos (by omega)) ?_
    refine Ev.congr (fun k => if_pos (by omega)) ?_
    exact out j (by omega) (by omega) hq (fun hlt => by omega)
  | succ e ih =>
    intro j hj hq
    refine Ev.unr ?_
    simp only [spec_l15Timeline.l1]
    rw [levelsP_length, levelsP_rd p 240 h hh, levelsP_rd p 240 (h + j) (by omega)]
    refine Ev.congr (fun k => if_pos (by omega)) ?_
    refine Ev.congr (fun k => if_pos (by omega)) ?_
    refine Ev.congr (fun k => if_pos (by omega)) ?_
    refine Ev.congr (fun k => if_pos (by omega)) ?_
    by_cases he : p ((h + j : Nat) : Int) = p (h : Int)
    · refine Ev.congr (fun k => if_pos he) ?_
      rw [wrapS (h + j) (by omega)]
      refine ih (j + 1) (by omega) (fun q hqj => ?_)
      by_cases eq : q = j
      · rw [eq]; exact he
      · exact hq q (by omega)
    · refine Ev.congr (fun k => if_neg he) ?_
      have hj0 : 0 < j := by
        rcases Nat.eq_zero_or_pos j with h0 | h0
        · subst h0; exact absurd rfl he
        · exact h0
      exact out j hj0 (by omega) hq (fun _ => he)
theorem ev_l15_l0 (p : Int → Int) (hp : ∀ h, 0 ≤ p h) : ∀ (d h : Nat), h + d = 240 → edgeT p h → Ev (fun k => spec_l15Timeline.l0 k (levelsP p 240) (tlF p h) (h : Int)) (tlF p 240) := by
  intro d
  induction d using Nat.strongRecOn with
  | ind d ih =>
    intro h hd hg
    refine Ev.unr ?_
    simp only [spec_l15Timeline.l0]
    rw [levelsP_length]
    by_cases hh : h < 240
    · refine Ev.congr (fun k => if_pos (by omega)) ?_
      exact ev_l15_l1 p hp h hh hg _ (fun x hx hxl hgx => ih (240 - x) (by omega) x (by omega) hgx) (240 - h) 0 (by omega) (fun q hq => absurd hq (Nat.not_lt_zero _))
    · have e : h = 240 := by omega
      subst e
      refine Ev.eq_now fun k => ?_
      rw [if_neg (by omega)]
theorem ev_l15Timeline (p : Int → Int) (hp : ∀ h, 0 ≤ p h) : Ev (fun k => spec_l15Timeline.f k (levelsP p 240)) (tlF p 240) := ev_l15_l0 p hp 240 0 (by omega) (fun _ _ => by unfold goesOn; simp [tlF])
end Go.Proofs.Ythmkgdlmegohoaa.Q
