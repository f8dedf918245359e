/- Texts of this seat, put together: LaTrack, LaBest, LaTracks, LaStormSS, PureFnExactLongestTrack. -/
import Derived.Test.YtjidofgojijolaaBFnExactLongestTrack0
import Derived.Test.YtjidofgojijolaaBFnExactLongestTrack1
import Derived.Test.YtjidofgojijolaaBFnExactLongestTrack2
import Derived.Test.YtjidofgojijolaaBFnExactLongestTrack3
import Derived.Test.YtjidofgojijolaaBFnExactLongestTrack4
/- The best tracking in plain words: what both programs find. -/
namespace Go.Proofs.Ytjidofgojijolaa.Q
open Go.RowKit Go.Proofs.YtjidofgojijolaaW.PrintWords Go.Proofs.Ytjidofgojijolaa.Gen
set_option linter.unusedVariables false
set_option linter.unusedSimpArgs false
theorem storms_all (l : List S71) : stormsB l = (decide (l.length ≤ 5) && l.all stormB) := by
  unfold stormsB
  congr 1
  induction l with
  | nil => rfl
  | cons x l ih =>
    rw [List.any_cons, List.all_cons, Bool.not_or, ih]
    congr 1
    unfold badS
    exact Bool.not_not _
theorem ev_l12_small (l : List S71) (hl : l.length ≤ 5) : ∀ d i, i + d = l.length → Ev (fun k => spec_l12List.l0 k l (i : Int)) ((l.drop i).all stormB) := by
  intro d
  induction d with
  | zero =>
    intro i hi
    rw [List.drop_of_length_le (by omega)]
    refine Ev.unr (Ev.unr (Ev.eq_now fun k => ?_))
    simp only [spec_l12List.l0, spec_l12List.j1]
    rw [if_neg (by omega), if_neg (by decide), decide_eq_true (by omega)]
    rfl
  | succ d ih =>
    intro i hi
    have h1 := ih (i + 1) (by omega)
    rw [List.drop_eq_getElem_cons (by omega), List.all_cons]
    refine Ev.unr (Ev.unr ?_)
    simp only [spec_l12List.l0, spec_l12List.j1]
    refine Ev.congr (fun k => (if_pos (by omega)).trans ((if_pos (decide_eq_true (by omega))).trans ((if_pos (by omega)).trans (if_pos (by omega))))) ?_
    rw [rdW, getD_lt l z71 i (by omega)]
    refine Ev.bind (f := fun k t => _) (Ev.eq_now fun k => goodS_f _) ?_
    rw [wrapS i (by omega)]
    cases stormB l[i] with
    | true => exact Ev.congr (fun k => if_pos rfl) h1
    | false => exact Ev.congr (fun k => if_neg (by decide)) (Ev.now _)
theorem ev_l12_great (l : List S71) (hl : 5 < l.length) : ∀ (d i : Nat), i + d = 6 → Ev (fun k => spec_l12List.l0 k l (i : Int)) false := by
  intro d
  induction d with
  | zero =>
    intro i hi
    refine Ev.unr (Ev.unr (Ev.eq_now fun k => ?_))
    simp only [spec_l12List.l0, spec_l12List.j1]
    by_cases h : (i : Int) < (l.length : Int)
    · rw [if_pos h, decide_eq_false (by omega), if_neg (by decide), decide_eq_false (by omega)]
    · rw [if_neg h, if_neg (by decide), decide_eq_false (by omega)]
  | succ d ih =>
    intro i hi
    have h1 := ih (i + 1) (by omega)
    refine Ev.unr (Ev.unr ?_)
    simp only [spec_l12List.l0, spec_l12List.j1]
    refine Ev.congr (fun k => (if_pos (by omega)).trans ((if_pos (decide_eq_true (by omega))).trans ((if_pos (by omega)).trans (if_pos (by omega))))) ?_
    rw [rdW]
    refine Ev.bind (f := fun k t => _) (Ev.eq_now fun k => goodS_f _) ?_
    rw [wrapS i (by omega)]
    cases stormB (l.getD i z71) with
    | true => exact Ev.congr (fun k => if_pos rfl) h1
    | false => exact Ev.congr (fun k => if_neg (by decide)) (Ev.now _)
theorem ev_l12List (l : List S71) : Ev (fun k => spec_l12List.f k l) (stormsB l) := by
  unfold spec_l12List.f
  rw [storms_all]
  by_cases h : l.length ≤ 5
  · rw [decide_eq_true h, Bool.true_and]
    have := ev_l12_small l h l.length 0 (by omega)
    rw [List.drop_zero] at this
    exact this
  · rw [decide_eq_false h, Bool.false_and]
    exact ev_l12_great l (by omega) 6 0 (by omega)
def absI (x : Int) : Int := if x < 0 then -x else x
def dist (x y : S71) : Int := absI (x.f0 - y.f0) + absI (x.f1 - y.f1)
theorem storm_xy {x : S71} (h : stormB x = true) : (0 ≤ x.f0 ∧ x.f0 ≤ 7) ∧ 0 ≤ x.f1 ∧ x.f1 ≤ 7 := by
  unfold stormB at h
  simp only [Bool.and_eq_true, decide_eq_true_eq] at h
  exact ⟨h.1, h.2.1⟩
theorem absI_le {x : Int} (h : -7 ≤ x ∧ x ≤ 7) : 0 ≤ absI x ∧ absI x ≤ 7 := by unfold absI; split <;> omega
theorem dist_le {x y : S71} (hx : stormB x = true) (hy : stormB y = true) : 0 ≤ dist x y ∧ dist x y ≤ 14 := by
  have h1 := storm_xy hx
  have h2 := storm_xy hy
  have h3 := absI_le (x := x.f0 - y.f0) (by omega)
  have h4 := absI_le (x := x.f1 - y.f1) (by omega)
  unfold dist
  omega
theorem implAbs_f {x : Int} (h : -7 ≤ x ∧ x ≤ 7) : impl_absOf.f (wrap64 x) = some (absI x) := by
  unfold impl_absOf.f absI
  rw [show wrap64 x = x from by unfold wrap64; omega]
  split
  · rw [show wrap64 (-x) = -x from by unfold wrap64; omega]
  · rfl
theorem specAbs_f {x : Int} (h : -7 ≤ x ∧ x ≤ 7) : spec_l11Abs.f (wrap64 x) = some (absI x) := by
  have e1 : wrap64 x = x := by unfold wrap64; omega
  have e2 : wrap64 (-x) = -x := by unfold wrap64; omega
  have key : spec_l1Most.f x (-x) = some (absI x) := by
    unfold spec_l1Most.f absI
    first
      | (split <;> split <;> first | rfl | (congr 1; omega))
      | (congr 1; split <;> omega)
      | (split <;> first | rfl | (congr 1; omega))
  unfold spec_l11Abs.f
  rw [e1, e2, key]
  rfl
theorem implDist_f {x y : S71} (hx : stormB x = true) (hy : stormB y = true) : impl_stormDistance.f x.f0 x.f1 x.f2 x.f3 y.f0 y.f1 y.f2 y.f3 = some (dist x y) := by
  have h1 := storm_xy hx
  have h2 := storm_xy hy
  have h3 := dist_le hx hy
  unfold impl_stormDistance.f
  rw [implAbs_f (by omega), Option.bind_some, implAbs_f (by omega), Option.bind_some]
  congr 1
  unfold dist at *
  unfold wrap64; omega
theorem specDist_f {x y : S71} (hx : stormB x = true) (hy : stormB y = true) : spec_l12Distance.f x.f0 x.f1 x.f2 x.f3 y.f0 y.f1 y.f2 y.f3 = some (dist x y) := by
  have h1 := storm_xy hx
  have h2 := storm_xy hy
  have h3 := dist_le hx hy
  unfold spec_l12Distance.f
  rw [specAbs_f (by omega), Option.bind_some, specAbs_f (by omega), Option.bind_some]
  congr 1
  unfold dist at *
  unfold wrap64; omega
/-- What a place of a tracking adds to its cost. -/
def tm (a b : List S71) (p : Int) (tr : List Int) (i : Nat) : Int := if tr.getD i 0 < 0 then p else dist (a.getD i z71) (b.getD (tr.getD i 0).toNat z71) - p
def csN (a b : List S71) (p : Int) (tr : List Int) : Nat → Int
  | 0 => p * (b.length : Int)
  | n + 1 => csN a b p tr n + tm a b p tr n
def ciN (a b : List S71) (p : Int) (tr : List Int) : Nat → Int
  | 0 => ((a.length : Int) + (b.length : Int)) * p
  | n + 1 => if tr.getD n 0 < 0 then ciN a b p tr n else ciN a b p tr n + (dist (a.getD n z71) (b.getD (tr.getD n 0).toNat z71) - 2 * p)
/-- The places of a tracking are in range. -/
def InR (nb : Nat) (tr : List Int) : Prop := ∀ n, n < tr.length → -1 ≤ tr.getD n 0 ∧ tr.getD n 0 < (nb : Int)
structure Fit (a b : List S71) (p : Int) : Prop where
  la : a.length ≤ 5
  lb : b.length ≤ 5
  ga : ∀ x ∈ a, stormB x = true
  gb : ∀ x ∈ b, stormB x = true
  hp : 0 ≤ p ∧ p ≤ 20
theorem Fit.pb {a b : List S71} {p : Int} (h : Fit a b p) : 0 ≤ p * (b.length : Int) ∧ p * (b.length : Int) ≤ 100 := by
  have h1 : 0 ≤ p * (b.length : Int) := Int.mul_nonneg h.hp.1 (by omega)
  have h2 : p * (b.length : Int) ≤ 20 * (b.length : Int) := Int.mul_le_mul_of_nonneg_right h.hp.2 (by omega)
  have := h.lb
  omega
theorem Fit.pab {a b : List S71} {p : Int} (h : Fit a b p) : 0 ≤ ((a.length : Int) + (b.length : Int)) * p ∧ ((a.length : Int) + (b.length : Int)) * p ≤ 200 := by
  have h1 : 0 ≤ ((a.length : Int) + (b.length : Int)) * p := Int.mul_nonneg (by omega) h.hp.1
  have h2 : ((a.length : Int) + (b.length : Int)) * p ≤ ((a.length : Int) + (b.length : Int)) * 20 := Int.mul_le_mul_of_nonneg_left h.hp.2 (by omega)
  have := h.la
  have := h.lb
  omega
theorem Fit.at {a b : List S71} {p : Int} (h : Fit a b p) {tr : List Int} (hr : InR b.length tr) (hl : tr.length ≤ a.length) {n : Nat} (hn : n < tr.length) (h0 : ¬ tr.getD n 0 < 0) :
    stormB (a.getD n z71) = true ∧ stormB (b.getD (tr.getD n 0).toNat z71) = true := by
  have hk := hr n hn
  rw [getD_lt a z71 n (by omega), getD_lt b z71 _ (by omega : (tr.getD n 0).toNat < b.length)]
  exact ⟨h.ga _ (List.getElem_mem _), h.gb _ (List.getElem_mem _)⟩
theorem tm_le {a b : List S71} {p : Int} (h : Fit a b p) {tr : List Int} (hr : InR b.length tr) (hl : tr.length ≤ a.length) {n : Nat} (hn : n < tr.length) : -20 ≤ tm a b p tr n ∧ tm a b p tr n ≤ 20 := by
  have hp := h.hp
  unfold tm
  split
  · omega
  · rename_i h0
    have hs := h.at hr hl hn h0
    have := dist_le hs.1 hs.2
    omega
theorem csN_le {a b : List S71} {p : Int} (h : Fit a b p) {tr : List Int} (hr : InR b.length tr) (hl : tr.length ≤ a.length) : ∀ n, n ≤ tr.length → -(20 * (n : Int)) ≤ csN a b p tr n ∧ csN a b p tr n ≤ 100 + 20 * (n : Int)
  | 0, _ => by have := h.pb; unfold csN; omega
  | n + 1, hn => by
    have h1 := csN_le h hr hl n (by omega)
    have h2 := tm_le h hr hl (n := n) (by omega)
    unfold csN
    omega
theorem ciN_eq {a b : List S71} {p : Int} {tr : List Int} : ∀ n, ciN a b p tr n = csN a b p tr n + ((a.length : Int) - (n : Int)) * p
  | 0 => by
    unfold ciN csN
    rw [Int.add_mul, Int.mul_comm p, Int.sub_mul]
    simp
    omega
  | n + 1 => by
    have ih := ciN_eq (a := a) (b := b) (p := p) (tr := tr) n
    have e : ((a.length : Int) - ((n + 1 : Nat) : Int)) * p = ((a.length : Int) - (n : Int)) * p - p := by
      rw [Int.natCast_add, show (a.length : Int) - ((n : Int) + ((1 : Nat) : Int)) = ((a.length : Int) - (n : Int)) - 1 from by omega, Int.sub_mul, Int.one_mul]
    unfold ciN csN tm
    rw [e, ih]
    split <;> omega
theorem ev_specCost {a b : List S71} {p : Int} (h : Fit a b p) {tr : List Int} (hr : InR b.length tr) (hl : tr.length ≤ a.length) : Ev (fun k => spec_l12Cost.f k a b tr p) (csN a b p tr tr.length) := by
  have hpb := h.pb
  have hla := h.la
  have hp := h.hp
  unfold spec_l12Cost.f
  rw [show wrap64 (p * (b.length : Int)) = csN a b p tr 0 from by unfold csN wrap64; omega]
  have key : ∀ d i, i + d = tr.length → Ev (fun k => spec_l12Cost.l0 k a b tr p (csN a b p tr i) (i : Int)) (csN a b p tr tr.length) := by
    intro d
    induction d with
    | zero =>
      intro i hi
      obtain rfl : i = tr.length := by omega
      refine Ev.unr (Ev.eq_now fun k => ?_)
      simp only [spec_l12Cost.l0]
      rw [if_neg (by omega)]
    | succ d ih =>
      intro i hi
      have h1 := ih (i + 1) (by omega)
      have hk := hr i (by omega)
      have hc := csN_le h hr hl i (by omega)
      refine Ev.unr ?_
      simp only [spec_l12Cost.l0]
      rw [show rd tr (i : Int) = tr.getD i 0 from rfl, wrapS i (by omega)]
      refine Ev.congr (fun k => (if_pos (by omega)).trans (if_pos (by omega))) ?_
      have e : csN a b p tr (i + 1) = csN a b p tr i + tm a b p tr i := rfl
      by_cases h0 : tr.getD i 0 < 0
      · rw [e, show tm a b p tr i = p from if_pos h0] at h1
        refine Ev.congr (fun k => if_pos h0) ?_
        rw [show wrap64 (csN a b p tr i + p) = csN a b p tr i + p from by unfold wrap64; omega]
        exact h1
      · have hs := h.at hr hl (n := i) (by omega) h0
        have hd := dist_le hs.1 hs.2
        rw [e, show tm a b p tr i = _ from if_neg h0] at h1
        refine Ev.congr (fun k => (if_neg h0).trans ((if_pos (by omega)).trans ((if_pos (by omega)).trans (if_pos (by omega))))) ?_
        rw [rdW a i, show rd_T71 b (tr.getD i 0) = b.getD (tr.getD i 0).toNat z71 from rfl]
        refine Ev.bind (f := fun k t => _) (Ev.eq_now fun k => specDist_f hs.1 hs.2) ?_
        rw [show wrap64 ((wrap64 (csN a b p tr i + dist (a.getD i z71) (b.getD (tr.getD i 0).toNat z71))) - p) = csN a b p tr i + (dist (a.getD i z71) (b.getD (tr.getD i 0).toNat z71) - p) from by unfold wrap64; omega]
        exact h1
  exact key tr.length 0 (by omega)
theorem ev_implCost {a b : List S71} {p : Int} (h : Fit a b p) {tr : List Int} (hr : InR b.length tr) (hl : tr.length = a.length) : Ev (fun k => impl_trackingCost.f k a b tr p) (csN a b p tr tr.length) := by
  have hpb := h.pab
  have hla := h.la
  have hlb := h.lb
  have hp := h.hp
  have e0 : csN a b p tr tr.length = ciN a b p tr tr.length := by rw [ciN_eq, hl]; simp
  have bnd : ∀ n, n ≤ tr.length → -(40 * (n : Int)) ≤ ciN a b p tr n ∧ ciN a b p tr n ≤ 200 + 14 * (n : Int) := by
    intro n
    induction n with
    | zero => intro _; unfold ciN; omega
    | succ n ih =>
      intro hn
      have h1 := ih (by omega)
      unfold ciN
      split
      · omega
      · rename_i h0
        have hs := h.at hr (by omega) (n := n) (by omega) h0
        have hd := dist_le hs.1 hs.2
        omega
  rw [e0]
  unfold impl_trackingCost.f
  rw [show wrap64 ((wrap64 ((a.length : Int) + (b.length : Int))) * p) = ciN a b p tr 0 from by rw [show wrap64 ((a.length : Int) + (b.length : Int)) = (a.length : Int) + (b.length : Int) from by unfold wrap64; omega]; unfold ciN wrap64; omega]
  have key : ∀ d i, i + d = tr.length → Ev (fun k => impl_trackingCost.l0 k a b p (ciN a b p tr i) tr (tr.length : Int) (i : Int)) (ciN a b p tr tr.length) := by
    intro d
    induction d with
    | zero =>
      intro i hi
      obtain rfl : i = tr.length := by omega
      refine Ev.unr (Ev.eq_now fun k => ?_)
      simp only [impl_trackingCost.l0]
      rw [if_neg (by omega)]
    | succ d ih =>
      intro i hi
      have h1 := ih (i + 1) (by omega)
      have hk := hr i (by omega)
      have hc := bnd i (by omega)
      refine Ev.unr ?_
      simp only [impl_trackingCost.l0]
      rw [show rd tr (i : Int) = tr.getD i 0 from rfl, wrapS i (by omega)]
      refine Ev.congr (fun k => (if_pos (by omega)).trans ((if_pos (by omega)).trans (if_pos (by omega)))) ?_
      by_cases h0 : tr.getD i 0 < 0
      · rw [show ciN a b p tr (i + 1) = ciN a b p tr i from if_pos h0] at h1
        exact Ev.congr (fun k => if_neg (by omega)) h1
      · have hs := h.at hr (by omega) (n := i) (by omega) h0
        have hd := dist_le hs.1 hs.2
        rw [show ciN a b p tr (i + 1) = _ from if_neg h0] at h1
        refine Ev.congr (fun k => (if_pos (by omega)).trans ((if_pos (by omega)).trans ((if_pos (by omega)).trans (if_pos (by omega))))) ?_
        rw [rdW a i, show rd_T71 b (tr.getD i 0) = b.getD (tr.getD i 0).toNat z71 from rfl]
        refine Ev.bind (f := fun k t => _) (Ev.eq_now fun k => implDist_f hs.1 hs.2) ?_
        rw [show wrap64 (ciN a b p tr i + (wrap64 (dist (a.getD i z71) (b.getD (tr.getD i 0).toNat z71) - (wrap64 (2 * p))))) = ciN a b p tr i + (dist (a.getD i z71) (b.getD (tr.getD i 0).toNat z71) - 2 * p) from by unfold wrap64; omega]
        exact h1
  exact key tr.length 0 (by omega)
end Go.Proofs.Ytjidofgojijolaa.Q
/- The best tracking: the recursive search of the one program and the search of the other one with its two variables. -/
namespace Go.Proofs.Ytjidofgojijolaa.Q
open Go.RowKit Go.Proofs.YtjidofgojijolaaW.PrintWords Go.Proofs.Ytjidofgojijolaa.Gen
set_option linter.unusedVariables false
set_option linter.unusedSimpArgs false
def stp (o s : List Int × Int) : List Int × Int := if o.2 < s.2 then o else s
def BL (f : List Int → List Int × Int) (tr : List Int) : Nat → Nat → List Int × Int → List Int × Int
  | 0, _, s => s
  | d + 1, k, s => if (k : Int) ∈ tr then BL f tr d (k + 1) s else BL f tr d (k + 1) (stp (f (tr ++ [(k : Int)])) s)
/-- The best tracking that continues one, and its cost. -/
def BT (c : List Int → Int) (nb : Nat) : Nat → List Int → List Int × Int
  | 0, tr => (tr, c tr)
  | n + 1, tr => BL (BT c nb n) tr nb 0 (BT c nb n (tr ++ [-1]))
def posN (tr : List Int) : List Int := tr.filter fun x => decide (0 ≤ x)
/-- A tracking so far: places in range, none twice. -/
structure Trk (nb : Nat) (tr : List Int) : Prop where
  rng : ∀ x ∈ tr, -1 ≤ x ∧ x < (nb : Int)
  one : (posN tr).Nodup
theorem Trk.inr {nb : Nat} {tr : List Int} (h : Trk nb tr) : InR nb tr := fun n hn => by
  rw [getD_lt tr 0 n hn]
  exact h.rng _ (List.getElem_mem hn)
theorem Trk.none {nb : Nat} {tr : List Int} (h : Trk nb tr) : Trk nb (tr ++ [-1]) := by
  refine ⟨fun x hx => ?_, ?_⟩
  · rcases List.mem_append.1 hx with hx | hx
    · exact h.rng x hx
    · rw [List.mem_singleton] at hx; omega
  · unfold posN
    rw [List.filter_append]
    simpa [posN] using h.one
theorem Trk.more {nb : Nat} {tr : List Int} (h : Trk nb tr) {k : Nat} (hk : k < nb) (hn : ¬ (k : Int) ∈ tr) : Trk nb (tr ++ [(k : Int)]) := by
  refine ⟨fun x hx => ?_, ?_⟩
  · rcases List.mem_append.1 hx with hx | hx
    · exact h.rng x hx
    · rw [List.mem_singleton] at hx; omega
  · have e : posN (tr ++ [(k : Int)]) = posN tr ++ [(k : Int)] := by
      unfold posN
      rw [List.filter_append]
      rw [List.filter_cons, if_pos (decide_eq_true (by omega)), List.filter_nil]
    rw [e, List.nodup_append]
    refine ⟨h.one, (by simp), fun x hx y hy => ?_⟩
    rw [List.mem_singleton] at hy
    subst hy
    intro ee
    subst ee
    exact hn (List.mem_filter.1 hx).1
theorem len_drop1 (m : Int) : ∀ l : List Int, l.Nodup → l.length ≤ (l.filter fun x => decide (x ≠ m)).length + 1
  | [], _ => by simp
  | x :: l, h => by
    obtain ⟨h1, h2⟩ := List.nodup_cons.1 h
    have ih := len_drop1 m l h2
    rw [List.filter_cons]
    by_cases e : x = m
    · rw [if_neg (by simpa using e), List.length_cons]
      have : (l.filter fun x => decide (x ≠ m)) = l := by
        rw [List.filter_eq_self]
        intro y hy
        exact decide_eq_true (fun q => h1 (by rw [e, ← q]; exact hy))
      rw [this]
      exact Nat.le_refl _
    · rw [if_pos (decide_eq_true e), List.length_cons, List.length_cons]
      omega
theorem pigeon : ∀ (m : Nat) (l : List Int), l.Nodup → (∀ x ∈ l, 0 ≤ x ∧ x < (m : Int)) → l.length ≤ m
  | 0, l, _, h => by
    cases l with
    | nil => exact Nat.le_refl _
    | cons x l =>
      have := h x List.mem_cons_self
      omega
  | m + 1, l, hd, h => by
    have h1 := len_drop1 (m : Int) l hd
    have h2 := pigeon m (l.filter fun x => decide (x ≠ (m : Int))) (hd.filter _) (fun x hx => by
      obtain ⟨a, b⟩ := List.mem_filter.1 hx
      have := h x a
      have b := of_decide_eq_true b
      omega)
    omega
theorem csN_pos {a b : List S71} {p : Int} (h : Fit a b p) {tr : List Int} (ht : Trk b.length tr) (hl : tr.length ≤ a.length) : ∀ n, n ≤ tr.length → p * (b.length : Int) - ((posN (tr.take n)).length : Int) * p ≤ csN a b p tr n
  | 0, _ => by unfold csN posN; simp
  | n + 1, hn => by
    have ih := csN_pos h ht hl n (by omega)
    have hp := h.hp
    rw [List.take_succ_eq_append_getElem (by omega : n < tr.length)]
    have e : posN (tr.take n ++ [tr[n]]) = posN (tr.take n) ++ posN [tr[n]] := by unfold posN; rw [List.filter_append]
    rw [e, List.length_append]
    unfold csN tm
    rw [getD_lt tr 0 n (by omega)]
    by_cases h0 : tr[n] < 0
    · rw [if_pos h0, show posN [tr[n]] = [] from by unfold posN; rw [List.filter_cons, if_neg (by simp; omega), List.filter_nil]]
      simp only [List.length_nil, Nat.add_zero]
      omega
    · have hs := h.at ht.inr hl (n := n) (by omega) (by rw [getD_lt tr 0 n (by omega)]; exact h0)
      rw [getD_lt tr 0 n (by omega)] at hs
      have hd := dist_le hs.1 hs.2
      rw [if_neg h0, show posN [tr[n]] = [tr[n]] from by unfold posN; rw [List.filter_cons, if_pos (by simp; omega), List.filter_nil]]
      rw [List.length_singleton, Int.natCast_add, Int.add_mul, show ((1 : Nat) : Int) * p = p from by simp]
      omega
theorem cost_nonneg {a b : List S71} {p : Int} (h : Fit a b p) {tr : List Int} (ht : Trk b.length tr) (hl : tr.length ≤ a.length) : 0 ≤ csN a b p tr tr.length := by
  have h1 := csN_pos h ht hl tr.length (Nat.le_refl _)
  rw [List.take_length] at h1
  have h2 := pigeon b.length (posN tr) ht.one (fun x hx => by
    obtain ⟨q, r⟩ := List.mem_filter.1 hx
    have := ht.rng x q
    have r := of_decide_eq_true r
    omega)
  have h3 : ((posN tr).length : Int) * p ≤ (b.length : Int) * p := Int.mul_le_mul_of_nonneg_right (by omega) h.hp.1
  rw [Int.mul_comm p] at h1
  omega
theorem BL_inv {f : List Int → List Int × Int} {tr : List Int} {nb : Nat} (P : List Int × Int → Prop) (hf : ∀ k : Nat, k < nb → ¬ (k : Int) ∈ tr → P (f (tr ++ [(k : Int)]))) : ∀ d k s, k + d ≤ nb → P s → P (BL f tr d k s)
  | 0, _, _, _, hs => hs
  | d + 1, k, s, hk, hs => by
    unfold BL
    split
    · exact BL_inv P hf d (k + 1) s (by omega) hs
    · rename_i hn
      refine BL_inv P hf d (k + 1) _ (by omega) ?_
      unfold stp
      split
      · exact hf k (by omega) hn
      · exact hs
theorem BT_ok {a b : List S71} {p : Int} (h : Fit a b p) : ∀ (n : Nat) (tr : List Int), Trk b.length tr → tr.length + n = a.length → 0 ≤ (BT (fun t => csN a b p t t.length) b.length n tr).2 ∧ (BT (fun t => csN a b p t t.length) b.length n tr).1.length = a.length
  | 0, tr, ht, hl => ⟨cost_nonneg h ht (by omega), by show tr.length = _; omega⟩
  | n + 1, tr, ht, hl => by
    unfold BT
    refine BL_inv (nb := b.length) (fun s => 0 ≤ s.2 ∧ s.1.length = a.length) (fun k hk hn => BT_ok h n _ (ht.more hk hn) (by rw [List.length_append, List.length_singleton]; omega)) _ _ _ (by omega) (BT_ok h n _ ht.none (by rw [List.length_append, List.length_singleton]; omega))
theorem own_f (l : List Int) (h : l.length < 17592186044416) : spec_l1Own.f l = some l := by
  unfold spec_l1Own.f
  rw [Option.bind_some, if_pos (by simpa using h), List.nil_append]
theorem has_f (l : List Int) (hl : l.length ≤ 4611686018427387904) (x : Int) : Ev (fun k => spec_l1Has.f k l x) (decide (x ∈ l)) := by
  unfold spec_l1Has.f
  have key : ∀ d i, i + d = l.length → Ev (fun k => spec_l1Has.l0 k l x (i : Int)) (decide (x ∈ l.drop i)) := by
    intro d
    induction d with
    | zero =>
      intro i hi
      rw [List.drop_of_length_le (by omega), decide_eq_false List.not_mem_nil]
      refine Ev.unr (Ev.eq_now fun k => ?_)
      simp only [spec_l1Has.l0]
      rw [if_neg (by omega)]
    | succ d ih =>
      intro i hi
      have h1 := ih (i + 1) (by omega)
      rw [List.drop_eq_getElem_cons (by omega)]
      refine Ev.unr ?_
      simp only [spec_l1Has.l0]
      rw [show rd l (i : Int) = l.getD i 0 from rfl, getD_lt l 0 i (by omega), wrapS i (by omega)]
      by_cases e : l[i] = x
      · rw [decide_eq_true (List.mem_cons.2 (.inl e.symm))]
        exact Ev.congr (fun k => (if_pos (by omega)).trans ((if_pos (by omega)).trans (if_pos e))) (Ev.now _)
      · rw [show decide (x ∈ l[i] :: l.drop (i + 1)) = decide (x ∈ l.drop (i + 1)) from by
          apply decide_eq_decide.2
          rw [List.mem_cons]
          exact ⟨fun q => q.elim (fun r => absurd r.symm e) id, .inr⟩]
        exact Ev.congr (fun k => (if_pos (by omega)).trans ((if_pos (by omega)).trans (if_neg e))) h1
  have := key l.length 0 (by omega)
  rw [List.drop_zero] at this
  exact this
theorem ev_specBest {a b : List S71} {p : Int} (h : Fit a b p) : ∀ (n : Nat) (tr : List Int), Trk b.length tr → tr.length + n = a.length → Ev (fun k => spec_l12Best.f k a b p tr) (BT (fun t => csN a b p t t.length) b.length n tr)
  | 0, tr, ht, hl => by
    refine Ev.unr ?_
    simp only [spec_l12Best.f]
    refine Ev.congr (fun k => if_pos (by omega)) ?_
    exact Ev.bind (f := fun k t => _) (ev_specCost h ht.inr (by omega)) (Ev.now _)
  | n + 1, tr, ht, hl => by
    have hla := h.la
    have hlb := h.lb
    refine Ev.unr ?_
    simp only [spec_l12Best.f]
    refine Ev.congr (fun k => if_neg (by omega)) ?_
    simp only [own_f tr (by omega), Option.bind_some]
    refine Ev.congr (fun k => if_pos (by omega)) ?_
    refine Ev.bind (f := fun k t => _) (ev_specBest h n (tr ++ [-1]) ht.none (by rw [List.length_append, List.length_singleton]; omega)) ?_
    have key : ∀ d k s, k + d = b.length → Ev (fun j => spec_l12Best.l0 j a b p tr s.1 s.2 (k : Int)) (BL (BT (fun t => csN a b p t t.length) b.length n) tr d k s) := by
      intro d
      induction d with
      | zero =>
        intro k s hk
        refine Ev.unr (Ev.eq_now fun j => ?_)
        simp only [spec_l12Best.l0]
        rw [if_neg (by omega)]
        rfl
      | succ d ih =>
        intro k s hk
        refine Ev.unr ?_
        simp only [spec_l12Best.l0]
        refine Ev.congr (fun j => if_pos (by omega)) ?_
        refine Ev.bind (f := fun k t => _) (has_f tr (by omega) (k : Int)) ?_
        rw [wrapS k (by omega)]
        unfold BL
        by_cases hin : (k : Int) ∈ tr
        · rw [if_pos hin]
          exact Ev.congr (fun j => if_pos (decide_eq_true hin)) (ih (k + 1) s (by omega))
        · rw [if_neg hin]
          refine Ev.congr (fun j => if_neg (by simpa using hin)) ?_
          simp only [own_f tr (by omega), Option.bind_some]
          refine Ev.congr (fun j => if_pos (by omega)) ?_
          refine Ev.bind (f := fun k t => _) (ev_specBest h n (tr ++ [(k : Int)]) (ht.more (by omega) hin) (by rw [List.length_append, List.length_singleton]; omega)) ?_
          unfold stp
          by_cases c : (BT (fun t => csN a b p t t.length) b.length n (tr ++ [(k : Int)])).2 < s.2
          · rw [if_pos c]
            exact Ev.congr (fun j => if_pos c) (ih (k + 1) _ (by omega))
          · rw [if_neg c]
            exact Ev.congr (fun j => if_neg c) (ih (k + 1) s (by omega))
    exact key b.length 0 _ (by omega)
/-- The two variables behind one more tracking. -/
def comb (s o : List Int × Int) : List Int × Int := if s.2 < 0 ∨ o.2 < s.2 then o else s
theorem comb_stp {s o : List Int × Int} (h : 0 ≤ o.2) (o1 : List Int × Int) : comb (comb s o) o1 = comb s (stp o1 o) := by
  obtain ⟨s1, s2⟩ := s
  obtain ⟨p1, o2⟩ := o
  obtain ⟨q1, q2⟩ := o1
  by_cases c1 : s2 < 0 <;> by_cases c2 : q2 < o2 <;> by_cases c3 : o2 < s2 <;> by_cases c4 : q2 < s2 <;> by_cases c5 : o2 < 0 <;> simp only [comb, stp, c1, c2, c3, c4, c5, true_or, or_true, or_false, false_or, if_true, if_false] <;> (exfalso; dsimp only at h; omega)
theorem ev_btF {a b : List S71} {p : Int} (h : Fit a b p) : ∀ (n : Nat) (tr : List Int) (s : List Int × Int), Trk b.length tr → tr.length + n = a.length → Ev (fun k => btF (fun t => impl_trackingCost.f k a b t p) b.length n tr s) (comb s (BT (fun t => csN a b p t t.length) b.length n tr))
  | 0, tr, s, ht, hl => by
    unfold btF
    exact Ev.bind (f := fun k t => _) (ev_implCost h ht.inr (by omega)) (Ev.now _)
  | n + 1, tr, s, ht, hl => by
    unfold btF btL
    refine Ev.congr (fun k => if_pos (.inl (by omega))) ?_
    have e0 : ((0 : Nat) : Int) - 1 = -1 := by omega
    rw [e0]
    have hok := BT_ok h n (tr ++ [-1]) ht.none (by rw [List.length_append, List.length_singleton]; omega)
    refine Ev.bind (f := fun k t => _) (ev_btF h n (tr ++ [-1]) s ht.none (by rw [List.length_append, List.length_singleton]; omega)) ?_
    have key : ∀ d k o, k + d = b.length → 0 ≤ o.2 → Ev (fun j => btL (btF (fun t => impl_trackingCost.f j a b t p) b.length n) tr d (k + 1) (comb s o)) (comb s (BL (BT (fun t => csN a b p t t.length) b.length n) tr d k o)) := by
      intro d
      induction d with
      | zero => intro k o hk ho; exact Ev.now _
      | succ d ih =>
        intro k o hk ho
        have ek : ((k + 1 : Nat) : Int) - 1 = (k : Int) := by omega
        unfold btL BL
        rw [ek]
        by_cases hin : (k : Int) ∈ tr
        · rw [if_pos hin]
          exact Ev.congr (fun j => if_neg (fun q => q.elim (fun r => by omega) (fun r => r hin))) (ih (k + 1) o (by omega) ho)
        · rw [if_neg hin]
          refine Ev.congr (fun j => if_pos (.inr hin)) ?_
          refine Ev.bind (f := fun k t => _) (ev_btF h n (tr ++ [(k : Int)]) _ (ht.more (by omega) hin) (by rw [List.length_append, List.length_singleton]; omega)) ?_
          rw [comb_stp ho]
          refine ih (k + 1) _ (by omega) ?_
          have h2 := BT_ok h n (tr ++ [(k : Int)]) (ht.more (by omega) hin) (by rw [List.length_append, List.length_singleton]; omega)
          unfold stp
          split
          · exact h2.1
          · exact ho
    exact key b.length 0 _ (by omega) hok.1
def penB (p : Int) : Bool := decide (0 ≤ p ∧ p ≤ 20)
def bestS (a b : List S71) (p : Int) : List Int × Int := BT (fun t => csN a b p t t.length) b.length a.length []
def bestR (a b : List S71) (p : Int) : List Int × Int × Bool := if (stormsB a && (stormsB b && penB p)) = true then ((bestS a b p).1, (bestS a b p).2, true) else ([], 0, false)
theorem fit_of {a b : List S71} {p : Int} (h : (stormsB a && (stormsB b && penB p)) = true) : Fit a b p := by
  rw [Bool.and_eq_true, Bool.and_eq_true] at h
  have h1 := stormsB_iff h.1
  have h2 := stormsB_iff h.2.1
  exact ⟨h1.1, h2.1, h1.2, h2.2, of_decide_eq_true h.2.2⟩
theorem trk_nil (nb : Nat) : Trk nb [] := ⟨fun x hx => absurd hx List.not_mem_nil, List.nodup_nil⟩
theorem bestR_len (a b : List S71) (p : Int) : (bestR a b p).1.length ≤ 5 := by
  unfold bestR
  split
  · rename_i h
    have hf := fit_of h
    have := (BT_ok hf a.length [] (trk_nil _) (by simp)).2
    have hla := hf.la
    show (bestS a b p).1.length ≤ 5
    unfold bestS
    omega
  · exact Nat.zero_le _
theorem ev_specBT (a b : List S71) (p : Int) : Ev (fun k => spec_BestTracking.f k a b p) (bestR a b p) := by
  unfold spec_BestTracking.f bestR
  refine Ev.bind (f := fun k t => _) (ev_l12List a) ?_
  cases ha : stormsB a with
  | false => exact Ev.now _
  | true =>
    refine Ev.congr (fun k => if_pos rfl) ?_
    refine Ev.bind (f := fun k t => _) (ev_l12List b) ?_
    cases hb : stormsB b with
    | false => exact Ev.now _
    | true =>
      refine Ev.congr (fun k => if_pos rfl) ?_
      refine Ev.bind (f := fun k t => _) (Ev.eq_now (r := penB p) fun k => by unfold spec_l12Penalty.f; rw [l1In_f]; rfl) ?_
      cases hp : penB p with
      | false => exact Ev.now _
      | true =>
        have hf := fit_of (a := a) (b := b) (p := p) (by rw [ha, hb, hp]; rfl)
        refine Ev.congr (fun k => if_pos rfl) ?_
        exact Ev.bind (f := fun k t => _) (ev_specBest hf a.length [] (trk_nil _) (by simp)) (Ev.now _)
theorem ev_implBT (a b : List S71) (p : Int) : Ev (fun k => impl_BestTracking.f k a b p) (bestR a b p) := by
  unfold impl_BestTracking.f bestR
  refine Ev.bind (f := fun k t => _) (Ev.eq_now (r := stormsB a) fun k => rfl) ?_
  cases ha : stormsB a with
  | false => exact Ev.now _
  | true =>
    refine Ev.congr (fun k => if_pos rfl) ?_
    refine Ev.bind (f := fun k t => _) (Ev.eq_now (r := stormsB b) fun k => rfl) ?_
    cases hb : stormsB b with
    | false => exact Ev.now _
    | true =>
      refine Ev.congr (fun k => if_pos rfl) ?_
      refine Ev.bind (f := fun k t => _) (Ev.eq_now (r := penB p) fun k => by unfold impl_isPenalty.f; rw [within_f]; rfl) ?_
      cases hp : penB p with
      | false => exact Ev.now _
      | true =>
        have hf := fit_of (a := a) (b := b) (p := p) (by rw [ha, hb, hp]; rfl)
        refine Ev.congr (fun k => if_pos rfl) ?_
        refine Ev.bind (f := fun k t => _) (show Ev (fun k => impl_bestTracking.f k a b p) (bestS a b p) from ?_) (Ev.now _)
        unfold impl_bestTracking.f
        refine Ev.congr (fun k => if_pos ⟨hf.la, hf.lb⟩) ?_
        have := ev_btF hf a.length [] ([], -1) (trk_nil _) (by simp)
        rw [show comb ([], -1) (BT (fun t => csN a b p t t.length) b.length a.length []) = bestS a b p from if_pos (.inl (by decide))] at this
        exact this
end Go.Proofs.Ytjidofgojijolaa.Q
/- The best trackings of lists of storms and the tracks through them: what both programs find. -/
namespace Go.Proofs.Ytjidofgojijolaa.Q
open Go.RowKit Go.Proofs.YtjidofgojijolaaW.PrintWords Go.Proofs.Ytjidofgojijolaa.Gen
set_option linter.unusedVariables false
set_option linter.unusedSimpArgs false
theorem rdL (l : List (List S71)) (i : Nat) : rd_L3 l (i : Int) = l.getD i [] := rfl
theorem rdLI (l : List (List Int)) (i : Nat) : rd_L5 l (i : Int) = l.getD i [] := rfl
/-- Lists of storms in their ranges, and the penalty. -/
def listsB (l : List (List S71)) (p : Int) : Bool := decide (l.length ≤ 6) && (l.all stormsB && penB p)
theorem okL_eq (l : List S71) : okL l = stormsB l := rfl
theorem ev_lists_small (l : List (List S71)) (p : Int) (hl : l.length ≤ 6) : ∀ d i, i + d = l.length → Ev (fun k => spec_l12Lists.l0 k l p (i : Int)) ((l.drop i).all stormsB && penB p) := by
  intro d
  induction d with
  | zero =>
    intro i hi
    rw [List.drop_of_length_le (by omega)]
    refine Ev.unr (Ev.unr (Ev.eq_now fun k => ?_))
    simp only [spec_l12Lists.l0, spec_l12Lists.j1]
    rw [if_neg (by omega), if_neg (by decide), if_pos (by omega)]
    unfold spec_l12Penalty.f
    rw [l1In_f]
    rfl
  | succ d ih =>
    intro i hi
    have h1 := ih (i + 1) (by omega)
    rw [List.drop_eq_getElem_cons (by omega), List.all_cons, Bool.and_assoc]
    refine Ev.unr (Ev.unr ?_)
    simp only [spec_l12Lists.l0, spec_l12Lists.j1]
    refine Ev.congr (fun k => (if_pos (by omega)).trans ((if_pos (decide_eq_true (by omega))).trans ((if_pos (by omega)).trans (if_pos (by omega))))) ?_
    rw [rdL, getD_lt l [] i (by omega)]
    refine Ev.bind (f := fun k t => _) (ev_l12List l[i]) ?_
    rw [wrapS i (by omega)]
    cases stormsB l[i] with
    | true => exact Ev.congr (fun k => if_pos rfl) h1
    | false => exact Ev.congr (fun k => if_neg (by decide)) (Ev.now _)
theorem ev_lists_great (l : List (List S71)) (p : Int) (hl : 6 < l.length) : ∀ (d i : Nat), i + d = 7 → Ev (fun k => spec_l12Lists.l0 k l p (i : Int)) false := by
  intro d
  induction d with
  | zero =>
    intro i hi
    refine Ev.unr (Ev.unr (Ev.eq_now fun k => ?_))
    simp only [spec_l12Lists.l0, spec_l12Lists.j1]
    by_cases h : (i : Int) < (l.length : Int)
    · rw [if_pos h, decide_eq_false (by omega), if_neg (by decide), if_neg (by omega)]
    · rw [if_neg h, if_neg (by decide), if_neg (by omega)]
  | succ d ih =>
    intro i hi
    have h1 := ih (i + 1) (by omega)
    refine Ev.unr (Ev.unr ?_)
    simp only [spec_l12Lists.l0, spec_l12Lists.j1]
    refine Ev.congr (fun k => (if_pos (by omega)).trans ((if_pos (decide_eq_true (by omega))).trans ((if_pos (by omega)).trans (if_pos (by omega))))) ?_
    refine Ev.bind (f := fun k t => _) (ev_l12List (rd_L3 l (i : Int))) ?_
    rw [wrapS i (by omega)]
    cases stormsB (rd_L3 l (i : Int)) with
    | true => exact Ev.congr (fun k => if_pos rfl) h1
    | false => exact Ev.congr (fun k => if_neg (by decide)) (Ev.now _)
theorem ev_l12Lists (l : List (List S71)) (p : Int) : Ev (fun k => spec_l12Lists.f k l p) (listsB l p) := by
  unfold spec_l12Lists.f listsB
  by_cases h : l.length ≤ 6
  · rw [decide_eq_true h, Bool.true_and]
    have := ev_lists_small l p h l.length 0 (by omega)
    rw [List.drop_zero] at this
    exact this
  · rw [decide_eq_false h, Bool.false_and]
    exact ev_lists_great l p (by omega) 7 0 (by omega)
/-- Good lists. -/
structure Good (l : List (List S71)) (p : Int) : Prop where
  len : l.length ≤ 6
  st : ∀ i, i < l.length → stormsB (l.getD i []) = true
  pen : penB p = true
theorem good_of {l : List (List S71)} {p : Int} (h : listsB l p = true) : Good l p := by
  unfold listsB at h
  rw [Bool.and_eq_true, Bool.and_eq_true, decide_eq_true_eq, List.all_eq_true] at h
  exact ⟨h.1, fun i hi => by rw [getD_lt l [] i hi]; exact h.2.1 _ (List.getElem_mem hi), h.2.2⟩
theorem Good.fit {l : List (List S71)} {p : Int} (h : Good l p) {i j : Nat} (hi : i < l.length) (hj : j < l.length) : Fit (l.getD i []) (l.getD j []) p := fit_of (by rw [h.st i hi, h.st j hj, h.pen]; rfl)
theorem BT_trk {a b : List S71} {p : Int} (h : Fit a b p) : ∀ (n : Nat) (tr : List Int), Trk b.length tr → tr.length + n = a.length → Trk b.length (BT (fun t => csN a b p t t.length) b.length n tr).1
  | 0, tr, ht, hl => ht
  | n + 1, tr, ht, hl => by
    unfold BT
    exact BL_inv (nb := b.length) (fun s => Trk b.length s.1) (fun k hk hn => BT_trk h n _ (ht.more hk hn) (by rw [List.length_append, List.length_singleton]; omega)) _ _ _ (by omega) (BT_trk h n _ ht.none (by rw [List.length_append, List.length_singleton]; omega))
/-- The best tracking from list i to the next one. -/
def trk (l : List (List S71)) (p : Int) (i : Nat) : List Int := (bestS (l.getD i []) (l.getD (i + 1) []) p).1
theorem Good.trk_len {l : List (List S71)} {p : Int} (h : Good l p) {i : Nat} (hi : i + 1 < l.length) : (trk l p i).length = (l.getD i []).length := (BT_ok (h.fit (i := i) (j := i + 1) (by omega) hi) (l.getD i []).length [] (trk_nil _) (Nat.zero_add _)).2
theorem Good.trk_rng {l : List (List S71)} {p : Int} (h : Good l p) {i : Nat} (hi : i + 1 < l.length) {n : Nat} (hn : n < (l.getD i []).length) : -1 ≤ (trk l p i).getD n 0 ∧ (trk l p i).getD n 0 < ((l.getD (i + 1) []).length : Int) :=
  (BT_trk (h.fit (i := i) (j := i + 1) (by omega) hi) (l.getD i []).length [] (trk_nil _) (Nat.zero_add _)).inr n (by have := h.trk_len hi; unfold trk at this; unfold bestS at this; omega)
def trks (l : List (List S71)) (p : Int) (n : Nat) : List (List Int) := (List.range n).map (trk l p)
theorem trks_len (l : List (List S71)) (p : Int) (n : Nat) : (trks l p n).length = n := by simp [trks]
theorem trks_get (l : List (List S71)) (p : Int) {n i : Nat} (hi : i < n) : (trks l p n).getD i [] = trk l p i := by simp [trks, hi]
theorem ev_best {l : List (List S71)} {p : Int} (h : Good l p) {i : Nat} (hi : i + 1 < l.length) : Ev (fun k => impl_bestTracking.f k (l.getD i []) (l.getD (i + 1) []) p) (bestS (l.getD i []) (l.getD (i + 1) []) p) := by
  have hf := h.fit (i := i) (j := i + 1) (by omega) hi
  unfold impl_bestTracking.f
  refine Ev.congr (fun k => if_pos ⟨hf.la, hf.lb⟩) ?_
  have := ev_btF hf (l.getD i []).length [] ([], -1) (trk_nil _) (Nat.zero_add _)
  rw [show comb ([], -1) (BT (fun t => csN (l.getD i []) (l.getD (i + 1) []) p t t.length) (l.getD (i + 1) []).length (l.getD i []).length []) = bestS (l.getD i []) (l.getD (i + 1) []) p from if_pos (.inl (by decide))] at this
  exact this
theorem ev_trL {l : List (List S71)} {p : Int} (h : Good l p) : ∀ d i, 1 ≤ i → i + d = l.length → Ev (fun k => trL (fun x y => impl_bestTracking.f k x y p) l d i (trks l p (i - 1))) (trks l p (l.length - 1))
  | 0, i, h1, hi => by
    rw [show l.length - 1 = i - 1 from by omega]
    exact Ev.now _
  | d + 1, i, h1, hi => by
    obtain ⟨i, rfl⟩ : ∃ j, i = j + 1 := ⟨i - 1, by omega⟩
    unfold trL
    rw [show ((i + 1 : Nat) : Int) - 1 = (i : Int) from by omega, rdL, rdL, show i + 1 - 1 = i from rfl]
    refine Ev.bind (f := fun k t => _) (ev_best h (i := i) (by omega)) ?_
    have ih := ev_trL h d (i + 1 + 1) (by omega) (by omega)
    have e : trks l p (i + 1 + 1 - 1) = trks l p i ++ [trk l p i] := by
      unfold trks
      rw [show i + 1 + 1 - 1 = i + 1 from rfl, List.range_succ, List.map_append]
      rfl
    rw [e] at ih
    exact ih
theorem ev_trackings (l : List (List S71)) (p : Int) : Ev (fun k => impl_trackingsOf.f k l p) (if listsB l p = true then (trks l p (l.length - 1), true) else ([], false)) := by
  unfold impl_trackingsOf.f
  cases hb : listsB l p with
  | true =>
    have hg := good_of hb
    rw [if_pos rfl]
    have hall : (l.any fun x => !okL x) = false := by
      rw [List.any_eq_false]
      intro x hx
      obtain ⟨i, hi, rfl⟩ := List.getElem_of_mem hx
      have := hg.st i hi
      rw [getD_lt l [] i hi] at this
      rw [okL_eq, this]
      decide
    refine Ev.congr (fun k => (if_neg (by have := hg.len; omega)).trans ((if_pos hg.pen).trans (if_neg (by rw [hall]; decide)))) ?_
    by_cases h0 : l.length = 0
    · rw [h0]
      exact Ev.now _
    · exact Ev.bind (f := fun k t => _) (ev_trL hg (l.length - 1) 1 (by omega) (by omega)) (Ev.now _)
  | false =>
    rw [if_neg (by decide)]
    by_cases c1 : 6 < l.length
    · exact Ev.congr (fun k => if_pos c1) (Ev.now _)
    · refine Ev.congr (fun k => if_neg c1) ?_
      by_cases c2 : penB p = true
      · refine Ev.congr (fun k => if_pos c2) ?_
        have : (l.any fun x => !okL x) = true := by
          unfold listsB at hb
          rw [decide_eq_true (by omega), c2, Bool.true_and, Bool.and_true, List.all_eq_false] at hb
          obtain ⟨x, hx, hq⟩ := hb
          exact List.any_eq_true.2 ⟨x, hx, by rw [okL_eq]; simpa using hq⟩
        exact Ev.congr (fun k => if_pos this) (Ev.now _)
      · exact Ev.congr (fun k => if_neg c2) (Ev.now _)
/-- The storms of a track from a storm on. -/
def LN (T : Nat → List Int) : Nat → Nat → Int → Int → Int
  | 0, _, _, n => n
  | d + 1, i, s, n => if (T i).getD s.toNat 0 < 0 then n else LN T d (i + 1) ((T i).getD s.toNat 0) (n + 1)
theorem ev_implLen {l : List (List S71)} {p : Int} (h : Good l p) : ∀ d i (s n : Int), i + d = l.length - 1 → 0 ≤ s → s < ((l.getD i []).length : Int) → 0 ≤ n ∧ n ≤ 10 + (i : Int) → Ev (fun k => impl_trackLength.l0 k (trks l p (l.length - 1)) (i : Int) s n) (LN (trk l p) d i s n)
  | 0, i, s, n, hi, _, _, _ => by
    refine Ev.unr (Ev.eq_now fun k => ?_)
    simp only [impl_trackLength.l0, trks_len]
    rw [if_neg (by omega)]
    rfl
  | d + 1, i, s, n, hi, h0, h1, hn => by
    have hlen := h.len
    have hil : i + 1 < l.length := by omega
    have hr := h.trk_rng hil (n := s.toNat) (by omega)
    have hl := h.trk_len hil
    refine Ev.unr ?_
    simp only [impl_trackLength.l0, trks_len]
    rw [rdLI, trks_get l p (by omega), show rd (trk l p i) s = (trk l p i).getD s.toNat 0 from rfl, wrapS i (by omega), wrapS' n hn.1 (by omega)]
    refine Ev.congr (fun k => (if_pos (by omega)).trans ((if_pos (by omega)).trans ((if_pos (by omega)).trans (if_pos (by omega))))) ?_
    unfold LN
    by_cases c : (trk l p i).getD s.toNat 0 < 0
    · rw [if_pos c]
      exact Ev.congr (fun k => if_neg (by omega)) (Ev.now _)
    · rw [if_neg c]
      exact Ev.congr (fun k => if_pos (by omega)) (ev_implLen h d (i + 1) _ (n + 1) (by omega) (by omega) hr.2 (by omega))
theorem ev_specLen {l : List (List S71)} {p : Int} (h : Good l p) : ∀ d i (s n : Int), i + d = l.length - 1 → i < l.length → 0 ≤ s → s < ((l.getD i []).length : Int) → 0 ≤ n ∧ n ≤ 10 + (i : Int) → Ev (fun k => spec_l12Length.l0 k l p (i : Int) s n) (LN (trk l p) d i s n)
  | 0, i, s, n, hi, hil, _, _, _ => by
    have hlen := h.len
    refine Ev.unr (Ev.eq_now fun k => ?_)
    simp only [spec_l12Length.l0]
    rw [wrapS i (by omega), if_neg (by omega)]
    rfl
  | d + 1, i, s, n, hi, _, h0, h1, hn => by
    have hlen := h.len
    have hil : i + 1 < l.length := by omega
    have hr := h.trk_rng hil (n := s.toNat) (by omega)
    have hl := h.trk_len hil
    have hf := h.fit (i := i) (j := i + 1) (by omega) hil
    refine Ev.unr ?_
    simp only [spec_l12Length.l0]
    rw [wrapS i (by omega), rdL, rdL, wrapS' n hn.1 (by omega)]
    refine Ev.congr (fun k => (if_pos (by omega)).trans ((if_pos (by omega)).trans ((if_pos (by omega)).trans (if_pos (by omega))))) ?_
    refine Ev.bind (f := fun k t => _) (ev_specBest hf (l.getD i []).length [] (trk_nil _) (Nat.zero_add _)) ?_
    change Ev (fun k => if 0 ≤ s then (if s < ((trk l p i).length : Int) then (if rd (trk l p i) s < 0 then some n else spec_l12Length.l0 k l p ((i + 1 : Nat) : Int) (rd (trk l p i) s) (n + 1)) else none) else none) _
    rw [show rd (trk l p i) s = (trk l p i).getD s.toNat 0 from rfl]
    refine Ev.congr (fun k => (if_pos h0).trans (if_pos (by omega))) ?_
    unfold LN
    by_cases c : (trk l p i).getD s.toNat 0 < 0
    · rw [if_pos c]
      exact Ev.congr (fun k => if_pos c) (Ev.now _)
    · rw [if_neg c]
      exact Ev.congr (fun k => if_neg c) (ev_specLen h d (i + 1) _ (n + 1) (by omega) hil (by omega) hr.2 (by omega))
/-- The length of a track. -/
def lenT (l : List (List S71)) (p : Int) (i : Nat) (s : Int) : Int := LN (trk l p) (l.length - 1 - i) i s 1
theorem implLen {l : List (List S71)} {p : Int} (h : Good l p) {i : Nat} (hi : i < l.length) {s : Int} (h0 : 0 ≤ s) (h1 : s < ((l.getD i []).length : Int)) : Ev (fun k => impl_trackLength.f k (trks l p (l.length - 1)) (i : Int) s) (lenT l p i s) := by
  unfold impl_trackLength.f
  exact ev_implLen h _ i s 1 (by omega) h0 h1 (by omega)
theorem specLen {l : List (List S71)} {p : Int} (h : Good l p) {i : Nat} (hi : i < l.length) {s : Int} (h0 : 0 ≤ s) (h1 : s < ((l.getD i []).length : Int)) : Ev (fun k => spec_l12Length.f k l p (i : Int) s) (lenT l p i s) := by
  unfold spec_l12Length.f
  exact ev_specLen h _ i s 1 (by omega) hi h0 h1 (by omega)
end Go.Proofs.Ytjidofgojijolaa.Q
/- The laws' helpers on lists of lists of storms. -/
namespace Go.Proofs.Ytjidofgojijolaa.Q
open Go.RowKit Go.Proofs.YtjidofgojijolaaW.PrintWords Go.Proofs.Ytjidofgojijolaa.Gen Go.Proofs.Ytjidofgojijolaa.Tells
set_option linter.unusedVariables false
set_option linter.unusedSimpArgs false
theorem ev_szSS (l : List (List S74)) (hl : l.length ≤ maxLen) (hx : ∀ x ∈ l, x.length ≤ maxLen) : ∃ v, Ev (fun k => laws_szStormSS.f k l 1048576) v ∧ (0 ≤ v → l.length ≤ 1048576 ∧ ∀ x ∈ l, x.length ≤ 1048576) := by
  unfold laws_szStormSS.f
  by_cases c : (l.length : Int) ≤ 1048576
  · have key : ∀ d i (m : Int), i + d = l.length → 0 ≤ m ∧ m ≤ 1048576 → ∃ v, Ev (fun k => laws_szStormSS.l0 k l m (i : Int)) v ∧ (0 ≤ v → ∀ j, i ≤ j → j < l.length → (l.getD j []).length ≤ 1048576) := by
      intro d
      induction d with
      | zero =>
        intro i m hi hm
        refine ⟨m, Ev.unr (Ev.eq_now fun k => ?_), fun _ j h1 h2 => absurd h2 (by omega)⟩
        simp only [laws_szStormSS.l0]
        rw [if_neg (by omega)]
      | succ d ih =>
        intro i m hi hm
        have hxi : (l.getD i []).length ≤ maxLen := by rw [getD_lt l [] i (by omega)]; exact hx _ (List.getElem_mem _)
        have hs := szW_f (l.getD i []) m hm hxi
        by_cases h : ((l.getD i []).length : Int) ≤ m
        · rw [if_pos h] at hs
          obtain ⟨v, hv, hq⟩ := ih (i + 1) (m - (l.getD i []).length) (by omega) (by omega)
          refine ⟨v, Ev.unr ?_, fun h0 j h1 h2 => ?_⟩
          · simp only [laws_szStormSS.l0]
            rw [show rd_L8 l (i : Int) = l.getD i [] from rfl, hs, wrapS i (by omega)]
            exact Ev.congr (fun k => (if_pos (by omega)).trans (if_pos (by omega))) (Ev.congr (fun k => if_neg (by omega)) hv)
          · by_cases e : j = i
            · subst e; omega
            · exact hq h0 j (by omega) h2
        · rw [if_neg h] at hs
          refine ⟨-1, Ev.unr ?_, fun h0 => absurd h0 (by omega)⟩
          simp only [laws_szStormSS.l0]
          rw [show rd_L8 l (i : Int) = l.getD i [] from rfl, hs]
          simp only [Option.bind_some]
          exact Ev.congr (fun k => (if_pos (by omega)).trans ((if_pos (by omega)).trans (if_pos (by decide)))) (Ev.now _)
    have hw : wrap64 (1048576 - (l.length : Int)) = 1048576 - (l.length : Int) := by unfold wrap64; omega
    obtain ⟨v, hv, hq⟩ := key l.length 0 (1048576 - (l.length : Int)) (by omega) (by omega)
    refine ⟨v, Ev.congr (fun k => if_neg (by omega)) ?_, fun h0 => ⟨by omega, fun x hx => ?_⟩⟩
    · rw [hw]
      exact hv
    · obtain ⟨j, hj, rfl⟩ := List.getElem_of_mem hx
      have := hq h0 j (Nat.zero_le _) hj
      rwa [getD_lt l [] j hj] at this
  · refine ⟨-1, Ev.congr (fun k => if_pos (by unfold maxLen at hl; unfold wrap64; omega)) (Ev.now _), fun h0 => absurd h0 (by omega)⟩
theorem ev_toSS (l : List (List S74)) (hl : l.length ≤ 1048576) (hx : ∀ x ∈ l, x.length ≤ 1048576) : Ev (fun k => laws_toStormSS.f k l) (l.map wconv) := by
  unfold laws_toStormSS.f
  refine Ev.congr (f := fun k => laws_toStormSS.l0 k l (List.replicate l.length []) ((0 : Nat) : Int)) (fun k => by rw [if_pos (by omega), if_pos (by omega)]; rfl) ?_
  have key := ev_run (fun k (s : List (List S71)) i => laws_toStormSS.l0 k l s i) l.length (fun i s => .inr (s.set i (wconv (l.getD i [])))) (fun s => s) (fun i s => s.length = l.length)
    (by intro i s b hi _ h; cases h)
    (by
      intro i s s' r hi hs h
      cases h
      have hxi : (l.getD i []).length ≤ 1048576 := by rw [getD_lt l [] i hi]; exact hx _ (List.getElem_mem _)
      refine ⟨by simpa using hs, fun he => ?_⟩
      simp only [laws_toStormSS.l0]
      rw [show rd_L8 l (i : Int) = l.getD i [] from rfl, wrapS i (by omega)]
      refine Ev.congr (fun k => (if_pos (by omega)).trans (if_pos (by omega))) ?_
      refine Ev.bind (f := fun k t => _) (ev_toW _ hxi) ?_
      exact Ev.congr (fun k => if_pos (by omega)) he)
    (by
      intro s _
      refine Ev.eq_now fun k => ?_
      simp only [laws_toStormSS.l0]
      rw [if_neg (by omega)])
    l.length 0 (List.replicate l.length []) (by omega) (by simp)
  have hv : run (fun i (s : List (List S71)) => (.inr (s.set i (wconv (l.getD i []))) : List (List S71) ⊕ List (List S71))) (fun s => s) l.length 0 (List.replicate l.length []) = l.map wconv := by
    refine run_inv (n := l.length) (fun i s => s.length = l.length ∧ ∀ j, j < i → s[j]? = (l.map wconv)[j]?) (fun b => b = l.map wconv) (fun i s b _ _ h => by cases h) ?_ ?_ l.length 0 _ (by omega) ⟨by simp, fun j hj => absurd hj (Nat.not_lt_zero _)⟩
    · rintro i s s' hi ⟨h1, h2⟩ h
      cases h
      refine ⟨by simpa using h1, fun j hj => ?_⟩
      by_cases e : j = i
      · subst e
        rw [List.getElem?_set_self (by omega)]
        simp [hi]
      · rw [List.getElem?_set_ne (by omega)]
        exact h2 j (by omega)
    · rintro s ⟨h1, h2⟩
      apply List.ext_getElem?
      intro j
      by_cases hj : j < l.length
      · exact h2 j hj
      · rw [List.getElem?_eq_none (by omega), List.getElem?_eq_none (by simp; omega)]
  rw [hv] at key
  exact key
theorem ev_eqSS (l : List (List S71)) (hl : l.length ≤ 1048576) (hx : ∀ x ∈ l, x.length ≤ 1048576) : Ev (fun k => laws_eqStormSS.f k l l) true := by
  unfold laws_eqStormSS.f
  refine Ev.congr (fun k => if_pos rfl) ?_
  have key : ∀ d i, i + d = l.length → Ev (fun k => laws_eqStormSS.l0 k l l (i : Int)) true := by
    intro d
    induction d with
    | zero =>
      intro i hi
      refine Ev.unr (Ev.eq_now fun k => ?_)
      simp only [laws_eqStormSS.l0]
      rw [if_neg (by omega)]
    | succ d ih =>
      intro i hi
      have hxi : (l.getD i []).length ≤ 1048576 := by rw [getD_lt l [] i (by omega)]; exact hx _ (List.getElem_mem _)
      refine Ev.unr ?_
      simp only [laws_eqStormSS.l0]
      rw [show rd_L3 l (i : Int) = l.getD i [] from rfl, wrapS i (by omega)]
      refine Ev.congr (fun k => (if_pos (by omega)).trans ((if_pos (by omega)).trans (if_pos (by omega)))) ?_
      refine Ev.bind (f := fun k t => _) (ev_eqW _ (by omega)) ?_
      exact Ev.congr (fun k => if_pos rfl) (ih (i + 1) (by omega))
  exact key l.length 0 (by omega)
theorem map_small (l : List (List S74)) (hl : l.length ≤ 1048576) (hx : ∀ x ∈ l, x.length ≤ 1048576) : (l.map wconv).length ≤ 1048576 ∧ ∀ x ∈ l.map wconv, x.length ≤ 1048576 := by
  refine ⟨by rw [List.length_map]; exact hl, fun x h => ?_⟩
  obtain ⟨y, hy, rfl⟩ := List.mem_map.1 h
  rw [wconv_length]
  exact hx y hy
end Go.Proofs.Ytjidofgojijolaa.Q
/- The two programs find the same longest track: for all lists of storms and penalty. -/
set_option linter.unusedVariables false
set_option linter.unusedSimpArgs false
namespace Go.Proofs.Ytjidofgojijolaa.Q
open Go.RowKit Go.Proofs.YtjidofgojijolaaW.PrintWords Go.Proofs.Ytjidofgojijolaa.Gen
/-- The places below n that a tracking does not hold. -/
def newS (tr : List Int) : Nat → List Int
  | 0 => []
  | n + 1 => if (n : Int) ∈ tr then newS tr n else newS tr n ++ [(n : Int)]
theorem newS_rng (tr : List Int) : ∀ n, ∀ x ∈ newS tr n, 0 ≤ x ∧ x < (n : Int)
  | 0, x, h => absurd h List.not_mem_nil
  | n + 1, x, h => by
    unfold newS at h
    split at h
    · have := newS_rng tr n x h
      omega
    · rcases List.mem_append.1 h with h | h
      · have := newS_rng tr n x h
        omega
      · rw [List.mem_singleton] at h
        omega
theorem newS_len (tr : List Int) : ∀ n, (newS tr n).length ≤ n
  | 0 => Nat.le_refl _
  | n + 1 => by
    unfold newS
    have := newS_len tr n
    split
    · omega
    · rw [List.length_append, List.length_singleton]; omega
theorem ev_new (b : List S71) (tr : List Int) (hb : b.length ≤ 1000) (ht : tr.length ≤ 1000) : Ev (fun k => spec_l12New.f k b tr) (newS tr b.length) := by
  unfold spec_l12New.f
  have key : ∀ d i, i + d = b.length → Ev (fun k => spec_l12New.l0 k b tr (newS tr i) (i : Int)) (newS tr b.length) := by
    intro d
    induction d with
    | zero =>
      intro i hi
      obtain rfl : i = b.length := by omega
      refine Ev.unr (Ev.eq_now fun k => ?_)
      simp only [spec_l12New.l0]
      rw [if_neg (by omega)]
    | succ d ih =>
      intro i hi
      have h1 := ih (i + 1) (by omega)
      have hn := newS_len tr i
      refine Ev.unr ?_
      simp only [spec_l12New.l0]
      rw [wrapS i (by omega)]
      refine Ev.congr (fun k => if_pos (by omega)) ?_
      refine Ev.bind (f := fun k t => _) (has_f tr (by omega) (i : Int)) ?_
      by_cases c : (i : Int) ∈ tr
      · rw [show newS tr (i + 1) = newS tr i from if_pos c] at h1
        exact Ev.congr (fun k => if_pos (decide_eq_true c)) h1
      · rw [show newS tr (i + 1) = newS tr i ++ [(i : Int)] from if_neg c] at h1
        exact Ev.congr (fun k => (if_neg (by simpa using c)).trans (if_pos (by omega))) h1
  exact key b.length 0 (by omega)
/-- The tracking into a list. -/
def into (l : List (List S71)) (p : Int) (i : Nat) : List Int := if i = 0 then [] else trk l p (i - 1)
def stF (l : List (List S71)) (p : Int) (i : Nat) (st : Int × Int × Int) (s : Int) : Int × Int × Int := if lenT l p i s > st.2.2 then ((i : Int), s, lenT l p i s) else st
def inF (l : List (List S71)) (p : Int) (i n : Nat) (st : Int × Int × Int) : Int × Int × Int := (newS (into l p i) n).foldl (stF l p i) st
theorem inF_succ (l : List (List S71)) (p : Int) (i n : Nat) (st : Int × Int × Int) : inF l p i (n + 1) st = if (n : Int) ∈ into l p i then inF l p i n st else stF l p i (inF l p i n st) (n : Int) := by
  unfold inF
  rw [show newS (into l p i) (n + 1) = if (n : Int) ∈ into l p i then newS (into l p i) n else newS (into l p i) n ++ [(n : Int)] from rfl]
  split
  · rfl
  · rw [List.foldl_append]; rfl
def outF (l : List (List S71)) (p : Int) : Nat → Nat → Int × Int × Int → Int × Int × Int
  | 0, _, st => st
  | d + 1, i, st => outF l p d (i + 1) (inF l p i (l.getD i []).length st)
def longR (l : List (List S71)) (p : Int) : Int × Int × Bool := if listsB l p = true then ((outF l p l.length 0 (0, 0, 0)).1, (outF l p l.length 0 (0, 0, 0)).2.1, decide ((outF l p l.length 0 (0, 0, 0)).2.2 > 0)) else (0, 0, false)
theorem Good.len5 {l : List (List S71)} {p : Int} (h : Good l p) {i : Nat} (hi : i < l.length) : (l.getD i []).length ≤ 5 := (stormsB_iff (h.st i hi)).1
theorem Good.into_len {l : List (List S71)} {p : Int} (h : Good l p) {i : Nat} (hi : i < l.length) : (into l p i).length ≤ 5 := by
  unfold into
  split
  · exact Nat.zero_le _
  · rw [h.trk_len (i := i - 1) (by omega)]
    exact h.len5 (by omega)
theorem ev_implLong {l : List (List S71)} {p : Int} (h : Good l p) : ∀ d i (st : Int × Int × Int), i + d = l.length → Ev (fun k => impl_LongestTrack.l0 k (trks l p (l.length - 1)) st.1 st.2.1 st.2.2 l (l.length : Int) (i : Int)) ((outF l p d i st).1, (outF l p d i st).2.1, decide ((outF l p d i st).2.2 > 0))
  | 0, i, st, hi => by
    refine Ev.unr (Ev.eq_now fun k => ?_)
    simp only [impl_LongestTrack.l0]
    rw [if_neg (by omega)]
    rfl
  | d + 1, i, st, hi => by
    have hlen := h.len
    have h5 := h.len5 (i := i) (by omega)
    have ih := ev_implLong h d (i + 1) (inF l p i (l.getD i []).length st) (by omega)
    refine Ev.unr ?_
    simp only [impl_LongestTrack.l0]
    refine Ev.congr (fun k => (if_pos (by omega)).trans ((if_pos (by omega)).trans (if_pos (by omega)))) ?_
    rw [rdL]
    have key : ∀ e s, s + e = (l.getD i []).length → Ev (fun k => impl_LongestTrack.l1 k (trks l p (l.length - 1)) (inF l p i s st).1 (inF l p i s st).2.1 (inF l p i s st).2.2 (i : Int) l (l.length : Int) (i : Int) ((l.getD i []).length : Int) (s : Int)) ((outF l p (d + 1) i st).1, (outF l p (d + 1) i st).2.1, decide ((outF l p (d + 1) i st).2.2 > 0)) := by
      intro e
      induction e with
      | zero =>
        intro s hs
        obtain rfl : s = (l.getD i []).length := by omega
        refine Ev.unr ?_
        simp only [impl_LongestTrack.l1]
        rw [wrapS i (by omega)]
        exact Ev.congr (fun k => if_neg (by omega)) ih
      | succ e ihe =>
        intro s hs
        have h1 := ihe (s + 1) (by omega)
        rw [inF_succ] at h1
        -- one storm: struck, or its track is measured
        have one : ∀ t, t = decide ((s : Int) ∈ into l p i) → Ev (fun k => impl_LongestTrack.j2 k (trks l p (l.length - 1)) (inF l p i s st).1 (inF l p i s st).2.1 (inF l p i s st).2.2 (i : Int) (s : Int) l (l.length : Int) (i : Int) ((l.getD i []).length : Int) (s : Int) t) ((outF l p (d + 1) i st).1, (outF l p (d + 1) i st).2.1, decide ((outF l p (d + 1) i st).2.2 > 0)) := by
          intro t ht
          refine Ev.unr ?_
          simp only [impl_LongestTrack.j2]
          rw [wrapS s (by omega)]
          by_cases c : (s : Int) ∈ into l p i
          · rw [decide_eq_true c] at ht
            subst ht
            rw [if_pos c] at h1
            exact Ev.congr (fun k => if_pos rfl) h1
          · rw [decide_eq_false c] at ht
            subst ht
            rw [if_neg c] at h1
            refine Ev.congr (fun k => if_neg (by decide)) ?_
            refine Ev.bind (f := fun k t => _) (implLen h (i := i) (by omega) (s := (s : Int)) (by omega) (by omega)) ?_
            unfold stF at h1
            by_cases c2 : lenT l p i (s : Int) > (inF l p i s st).2.2
            · rw [if_pos c2] at h1
              exact Ev.congr (fun k => if_pos c2) h1
            · rw [if_neg c2] at h1
              exact Ev.congr (fun k => if_neg c2) h1
        refine Ev.unr ?_
        simp only [impl_LongestTrack.l1]
        refine Ev.congr (fun k => if_pos (by omega)) ?_
        by_cases c0 : i = 0
        · refine Ev.congr (fun k => if_neg (by omega)) (one false ?_)
          subst c0
          rw [decide_eq_false]
          exact List.not_mem_nil
        · have hw : wrap64 ((i : Int) - 1) = ((i - 1 : Nat) : Int) := wrapP i (by omega) (by omega)
          refine Ev.congr (fun k => if_pos (by omega)) ?_
          rw [hw, trks_len, rdLI, trks_get l p (by omega)]
          refine Ev.congr (fun k => (if_pos (by omega)).trans (if_pos (by omega))) ?_
          refine Ev.bind (f := fun k t => _) (ev_containsI (trk l p (i - 1)) (by have := h.trk_len (i := i - 1) (by omega); have := h.len5 (i := i - 1) (by omega); omega) (s : Int)) ?_
          refine one _ ?_
          unfold into
          rw [if_neg c0]
    exact key (l.getD i []).length 0 (by omega)
theorem ev_specLong {l : List (List S71)} {p : Int} (h : Good l p) : ∀ d i (st : Int × Int × Int), i + d = l.length → Ev (fun k => spec_LongestTrack.l0 k l p st.1 st.2.1 st.2.2 (i : Int)) ((outF l p d i st).1, (outF l p d i st).2.1, decide ((outF l p d i st).2.2 > 0))
  | 0, i, st, hi => by
    refine Ev.unr (Ev.eq_now fun k => ?_)
    simp only [spec_LongestTrack.l0]
    rw [if_neg (by omega)]
    rfl
  | d + 1, i, st, hi => by
    have hlen := h.len
    have h5 := h.len5 (i := i) (by omega)
    have hil := h.into_len (i := i) (by omega)
    have ih := ev_specLong h d (i + 1) (inF l p i (l.getD i []).length st) (by omega)
    have jj : Ev (fun k => spec_LongestTrack.j1 k l p st.1 st.2.1 st.2.2 (i : Int) (into l p i)) ((outF l p (d + 1) i st).1, (outF l p (d + 1) i st).2.1, decide ((outF l p (d + 1) i st).2.2 > 0)) := by
      refine Ev.unr ?_
      simp only [spec_LongestTrack.j1]
      rw [rdL]
      refine Ev.congr (fun k => (if_pos (by omega)).trans (if_pos (by omega))) ?_
      refine Ev.bind (f := fun k t => _) (ev_new (l.getD i []) (into l p i) (by omega) (by omega)) ?_
      have hrng := newS_rng (into l p i) (l.getD i []).length
      have hnl := newS_len (into l p i) (l.getD i []).length
      have ih' : Ev (fun k => spec_LongestTrack.l0 k l p ((newS (into l p i) (l.getD i []).length).foldl (stF l p i) st).1 ((newS (into l p i) (l.getD i []).length).foldl (stF l p i) st).2.1 ((newS (into l p i) (l.getD i []).length).foldl (stF l p i) st).2.2 ((i + 1 : Nat) : Int)) ((outF l p (d + 1) i st).1, (outF l p (d + 1) i st).2.1, decide ((outF l p (d + 1) i st).2.2 > 0)) := ih
      generalize newS (into l p i) (l.getD i []).length = L at hrng hnl ih'
      have key : ∀ e j, j + e = L.length → Ev (fun k => spec_LongestTrack.l1 k l p ((L.take j).foldl (stF l p i) st).1 ((L.take j).foldl (stF l p i) st).2.1 ((L.take j).foldl (stF l p i) st).2.2 (i : Int) L (j : Int)) ((outF l p (d + 1) i st).1, (outF l p (d + 1) i st).2.1, decide ((outF l p (d + 1) i st).2.2 > 0)) := by
        intro e
        induction e with
        | zero =>
          intro j hj
          obtain rfl : j = L.length := by omega
          rw [List.take_length]
          refine Ev.unr ?_
          simp only [spec_LongestTrack.l1]
          rw [wrapS i (by omega)]
          exact Ev.congr (fun k => if_neg (by omega)) ih'
        | succ e ihe =>
          intro j hj
          have h1 := ihe (j + 1) (by omega)
          rw [List.take_succ_eq_append_getElem (by omega : j < L.length), List.foldl_append] at h1
          have hx := hrng L[j] (List.getElem_mem _)
          refine Ev.unr ?_
          simp only [spec_LongestTrack.l1]
          rw [show rd L (j : Int) = L.getD j 0 from rfl, getD_lt L 0 j (by omega), wrapS j (by omega)]
          refine Ev.congr (fun k => (if_pos (by omega)).trans (if_pos (by omega))) ?_
          refine Ev.bind (f := fun k t => _) (specLen h (i := i) (by omega) hx.1 hx.2) ?_
          simp only [List.foldl_cons, List.foldl_nil] at h1
          generalize (L.take j).foldl (stF l p i) st = q at h1
          unfold stF at h1
          by_cases c2 : lenT l p i L[j] > q.2.2
          · rw [if_pos c2] at h1
            exact Ev.congr (fun k => if_pos c2) h1
          · rw [if_neg c2] at h1
            exact Ev.congr (fun k => if_neg c2) h1
      exact key L.length 0 (by omega)
    refine Ev.unr ?_
    simp only [spec_LongestTrack.l0]
    refine Ev.congr (fun k => if_pos (by omega)) ?_
    by_cases c0 : i = 0
    · subst c0
      exact Ev.congr (fun k => if_neg (by omega)) jj
    · obtain ⟨j, rfl⟩ : ∃ j, i = j + 1 := ⟨i - 1, by omega⟩
      have hw : wrap64 (((j + 1 : Nat) : Int) - 1) = (j : Int) := by unfold wrap64; omega
      have hf := h.fit (i := j) (j := j + 1) (by omega) (by omega)
      refine Ev.congr (fun k => if_pos (by omega)) ?_
      rw [hw, rdL, rdL]
      refine Ev.congr (fun k => (if_pos (by omega)).trans ((if_pos (by omega)).trans (if_pos (by omega)))) ?_
      refine Ev.bind (f := fun k t => _) (ev_specBest hf (l.getD j []).length [] (trk_nil _) (Nat.zero_add _)) ?_
      exact jj
theorem ev_specLT (l : List (List S71)) (p : Int) : Ev (fun k => spec_LongestTrack.f k l p) (longR l p) := by
  unfold spec_LongestTrack.f longR
  refine Ev.bind (f := fun k t => _) (ev_l12Lists l p) ?_
  cases hb : listsB l p with
  | false => exact Ev.now _
  | true => exact Ev.congr (fun k => if_pos rfl) (ev_specLong (good_of hb) l.length 0 (0, 0, 0) (by omega))
theorem ev_implLT (l : List (List S71)) (p : Int) : Ev (fun k => impl_LongestTrack.f k l p) (longR l p) := by
  unfold impl_LongestTrack.f longR
  refine Ev.bind (f := fun k t => _) (ev_trackings l p) ?_
  cases hb : listsB l p with
  | false => exact Ev.congr (fun k => if_neg (by simp)) (Ev.now _)
  | true =>
    rw [if_pos rfl]
    exact Ev.congr (fun k => if_pos rfl) (ev_implLong (good_of hb) l.length 0 (0, 0, 0) (by omega))
end Go.Proofs.Ytjidofgojijolaa.Q
namespace Go.Proofs.Ytjidofgojijolaa.Pure
open Go.RowKit Go.Proofs.YtjidofgojijolaaW.PrintWords Go.Proofs.Ytjidofgojijolaa.Tells Go.Proofs.Ytjidofgojijolaa.Q Go.Proofs.Ytjidofgojijolaa.Gen
theorem FnExactLongestTrack : ∀ (l0 : List (List S74)) (a1 : Int), l0.length ≤ maxLen → (∀ x ∈ l0, (x.length ≤ maxLen ∧ ∀ y ∈ x, G74 y)) → I64 a1 → ∃ k, laws_FnExactLongestTrack.f k l0 a1 = some true := by
  intro l p hl hx _
  refine Ev.rounds ?_
  unfold laws_FnExactLongestTrack.f
  obtain ⟨v, hv, hq⟩ := ev_szSS l hl (fun x h => (hx x h).1)
  refine Ev.bind (f := fun k t => _) hv ?_
  by_cases h0 : v < 0
  · exact Ev.congr (fun k => if_pos h0) (Ev.now _)
  · obtain ⟨h1, h2⟩ := hq (by omega)
    refine Ev.congr (fun k => if_neg h0) ?_
    have hto := ev_toSS l h1 h2
    obtain ⟨h3, h4⟩ := map_small l h1 h2
    generalize l.map wconv = x at hto h3 h4
    have heq := ev_eqSS x h3 h4
    have hsp := ev_specLT x p
    have him := ev_implLT x p
    generalize longR x p = r at hsp him
    repeat first
      | exact Ev.now _
      | (with_reducible refine Ev.bind (f := fun k t => _) hto ?_)
      | (with_reducible refine Ev.bind (f := fun k t => _) hsp ?_)
      | (with_reducible refine Ev.bind (f := fun k t => _) him ?_)
      | (with_reducible refine Ev.bind (f := fun k t => _) heq ?_)
      | refine Ev.congr (fun k => if_pos (by first | rfl | trivial)) ?_
      | refine Ev.congr (fun k => if_neg (by first | omega | simp)) ?_
      | simp only [bne_self_eq_false, Bool.false_eq_true, if_false]
      | (refine Ev.unr ?_; simp only [laws_FnExactLongestTrack.j0])
end Go.Proofs.Ytjidofgojijolaa.Pure
