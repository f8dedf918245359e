/- Texts of this seat, put together: LaStormsOf, LaStormV, LaMarksT, PureFnExactStormsOf. -/
import Derived.Test.YtpdeapefekbdpaaBFnExactStormsOf0
import Derived.Test.YtpdeapefekbdpaaBFnExactStormsOf2
import Derived.Test.YtpdeapefekbdpaaBFnExactStormsOf4
import Derived.Test.YtpdeapefekbdpaaBFnExactStormsOf5
import Derived.Test.YtpdeapefekbdpaaBFnExactStormsOf6
/- The storms of a field: both programs find the same parts, in the same order, and the same storm of each. -/
namespace Go.Proofs.Ytpdeapefekbdpaa.Q
open Go.RowKit Go.Proofs.YtpdeapefekbdpaaW.PrintWords Go.Proofs.Ytpdeapefekbdpaa.Gen
set_option linter.unusedVariables false
set_option linter.unusedSimpArgs false
/-! The cells above a limit. -/
def aboveN (l : List Int) (m : Int) : List Nat := (List.range l.length).filter fun i => !(l.getD i 0 == -9999) && decide (m < l.getD i 0)
def above (l : List Int) (m : Int) : List Int := (aboveN l m).map fun (i : Nat) => (i : Int)
theorem above_nodup (l : List Int) (m : Int) : (above l m).Nodup := by
  unfold above aboveN
  refine List.Pairwise.map _ (fun x y (h : x ≠ y) => ?_) (List.nodup_range.filter _)
  omega
theorem above_len (l : List Int) (m : Int) : (above l m).length ≤ l.length := by
  unfold above aboveN
  rw [List.length_map]
  exact Nat.le_trans (List.length_filter_le _ _) (by simp)
theorem above_mem {l : List Int} {m x : Int} (h : x ∈ above l m) : ∃ i : Nat, x = (i : Int) ∧ i < l.length ∧ l.getD i 0 ≠ -9999 ∧ m < l.getD i 0 := by
  unfold above aboveN at h
  obtain ⟨i, h1, h2⟩ := List.mem_map.1 h
  obtain ⟨h3, h4⟩ := List.mem_filter.1 h1
  simp only [Bool.and_eq_true, Bool.not_eq_true', beq_eq_false_iff_ne, decide_eq_true_eq] at h4
  exact ⟨i, h2.symm, List.mem_range.1 h3, h4.1, h4.2⟩
theorem above_fold (l : List Int) (m : Int) : (List.range l.length).foldl (fun (s : List Int) i => if (!(l.getD i 0 == -9999) && decide (m < l.getD i 0)) = true then s ++ [(i : Int)] else s) [] = above l m := by
  unfold above aboveN
  have h : ∀ (q : List Nat) (s : List Int), q.foldl (fun (s : List Int) i => if (!(l.getD i 0 == -9999) && decide (m < l.getD i 0)) = true then s ++ [(i : Int)] else s) s = s ++ (q.filter fun i => !(l.getD i 0 == -9999) && decide (m < l.getD i 0)).map fun (i : Nat) => (i : Int) := by
    intro q
    induction q with
    | nil => intro s; simp
    | cons x q ih =>
      intro s
      rw [List.foldl_cons, ih, List.filter_cons]
      by_cases c : (!(l.getD x 0 == -9999) && decide (m < l.getD x 0)) = true
      · rw [if_pos c, if_pos c]; simp
      · rw [if_neg c, if_neg c]
  rw [h, List.nil_append]
theorem ev_specAbove (w h : Int) (l : List Int) (hl : l.length ≤ 1048576) (m : Int) : Ev (fun k => spec_l8Above.f k w h l m) (above l m) := by
  unfold spec_l8Above.f
  have key := ev_fold (fun k (s : List Int) i => spec_l8Above.l0 k m s i w h l) l.length (fun s i => if (!(l.getD i 0 == -9999) && decide (m < l.getD i 0)) = true then s ++ [(i : Int)] else s) (fun s => s) (fun i s => s.length ≤ i)
    (by
      intro i s r hi hs
      by_cases e : l.getD i 0 = -9999
      · have e' : (!(l.getD i 0 == -9999) && decide (m < l.getD i 0)) = false := by rw [beq_iff_eq.2 e]; rfl
        rw [e']
        refine ⟨by rw [if_neg (by decide)]; omega, fun he => Ev.congr (fun k => ?_) he⟩
        simp only [spec_l8Above.l0]
        rw [if_pos (by omega), if_pos (by omega), rdI, if_pos e, wrapS i (by omega), if_neg (by decide)]
      · by_cases e2 : m < l.getD i 0
        · have e' : (!(l.getD i 0 == -9999) && decide (m < l.getD i 0)) = true := by rw [beq_eq_false_iff_ne.2 e, decide_eq_true e2]; rfl
          rw [e']
          refine ⟨by rw [if_pos rfl, List.length_append]; simp; omega, fun he => Ev.congr (fun k => ?_) he⟩
          simp only [spec_l8Above.l0]
          rw [if_pos (by omega), if_pos (by omega), rdI, if_neg e, if_pos (show l.getD i 0 > m from e2), if_pos (by omega), wrapS i (by omega), if_pos trivial]
        · have e' : (!(l.getD i 0 == -9999) && decide (m < l.getD i 0)) = false := by rw [decide_eq_false e2, Bool.and_false]
          rw [e']
          refine ⟨by rw [if_neg (by decide)]; omega, fun he => Ev.congr (fun k => ?_) he⟩
          simp only [spec_l8Above.l0]
          rw [if_pos (by omega), if_pos (by omega), rdI, if_neg e, if_neg (show ¬ l.getD i 0 > m from e2), wrapS i (by omega), if_neg (by decide)])
    (by
      intro s hs
      refine Ev.eq_now fun k => ?_
      simp only [spec_l8Above.l0]
      rw [if_neg (by omega)])
    [] (by simp)
  rw [above_fold] at key
  exact key
theorem ev_implAbove (w h : Int) (l : List Int) (hl : l.length ≤ 1048576) (m : Int) : Ev (fun k => impl_regionAbove.f k w h l m) (above l m) := by
  unfold impl_regionAbove.f
  have key := ev_fold (fun k (s : List Int) i => impl_regionAbove.l0 k m s l (l.length : Int) i) l.length (fun s i => if (!(l.getD i 0 == -9999) && decide (m < l.getD i 0)) = true then s ++ [(i : Int)] else s) (fun s => s) (fun i s => s.length ≤ i)
    (by
      intro i s r hi hs
      by_cases e : l.getD i 0 = -9999
      · have e' : (!(l.getD i 0 == -9999) && decide (m < l.getD i 0)) = false := by rw [beq_iff_eq.2 e]; rfl
        rw [e']
        refine ⟨by rw [if_neg (by decide)]; omega, fun he => Ev.congr (fun k => ?_) he⟩
        simp only [impl_regionAbove.l0]
        rw [if_pos (by omega), if_pos (by omega), if_pos (by omega), rdI, if_pos e, wrapS i (by omega), if_neg (by decide)]
      · by_cases e2 : m < l.getD i 0
        · have e' : (!(l.getD i 0 == -9999) && decide (m < l.getD i 0)) = true := by rw [beq_eq_false_iff_ne.2 e, decide_eq_true e2]; rfl
          rw [e']
          refine ⟨by rw [if_pos rfl, List.length_append]; simp; omega, fun he => Ev.congr (fun k => ?_) he⟩
          simp only [impl_regionAbove.l0]
          rw [if_pos (by omega), if_pos (by omega), if_pos (by omega), rdI, if_neg e, if_pos (show l.getD i 0 > m from e2), if_pos (by omega), wrapS i (by omega), if_pos trivial]
        · have e' : (!(l.getD i 0 == -9999) && decide (m < l.getD i 0)) = false := by rw [decide_eq_false e2, Bool.and_false]
          rw [e']
          refine ⟨by rw [if_neg (by decide)]; omega, fun he => Ev.congr (fun k => ?_) he⟩
          simp only [impl_regionAbove.l0]
          rw [if_pos (by omega), if_pos (by omega), if_pos (by omega), rdI, if_neg e, if_neg (show ¬ l.getD i 0 > m from e2), wrapS i (by omega), if_neg (by decide)])
    (by
      intro s hs
      refine Ev.eq_now fun k => ?_
      simp only [impl_regionAbove.l0]
      rw [if_neg (by omega)])
    [] (by simp)
  rw [above_fold] at key
  exact key
/-! Next to one another. -/
theorem sq_small : ∀ n, n < 64 → n * n < 4096 ∧ (n * n = 0 ↔ n = 0) ∧ (n * n = 1 ↔ n = 1) ∧ (n * n ≤ 1 ∨ 4 ≤ n * n) := by decide
theorem sq_int (x : Int) (h : -64 < x ∧ x < 64) : 0 ≤ x * x ∧ x * x < 4096 ∧ (x * x = 0 ↔ x = 0) ∧ (x * x = 1 ↔ x = 1 ∨ x = -1) ∧ (x * x ≤ 1 ∨ 4 ≤ x * x) := by
  have e := Int.natAbs_mul_self (a := x)
  have hs := sq_small x.natAbs (by omega)
  generalize hn : x.natAbs = n at *
  rw [← e]
  obtain ⟨h1, h2, h3, h4⟩ := hs
  refine ⟨by omega, by omega, ?_, ?_, by omega⟩
  · omega
  · omega
theorem beside_f (w i j : Nat) (hw : 1 ≤ w ∧ w ≤ 8) (hi : i < 64) (hj : j < 64) : spec_l8Beside.f (w : Int) (i : Int) (j : Int) = some (nearB w i j) := by
  unfold spec_l8Beside.f
  have h1 : i % w < w := Nat.mod_lt _ (by omega)
  have h2 : j % w < w := Nat.mod_lt _ (by omega)
  have h3 : i / w ≤ i := Nat.div_le_self _ _
  have h4 : j / w ≤ j := Nat.div_le_self _ _
  rw [if_neg (by omega), Int.ofNat_tmod .. |>.symm, Int.ofNat_tmod .. |>.symm, Int.ofNat_tdiv .. |>.symm, Int.ofNat_tdiv .. |>.symm]
  unfold nearB
  generalize i % w = a at *
  generalize j % w = b at *
  generalize i / w = c at *
  generalize j / w = d at *
  rw [show wrap64 ((a : Int) - (b : Int)) = (a : Int) - b from by unfold wrap64; omega, show wrap64 (c : Int) = c from by unfold wrap64; omega, show wrap64 (d : Int) = d from by unfold wrap64; omega, show wrap64 ((c : Int) - (d : Int)) = (c : Int) - d from by unfold wrap64; omega]
  obtain ⟨x, hx⟩ : ∃ x : Int, x = (a : Int) - b := ⟨_, rfl⟩
  obtain ⟨y, hy⟩ : ∃ y : Int, y = (c : Int) - d := ⟨_, rfl⟩
  rw [← hx, ← hy]
  obtain ⟨x1, x2, x3, x4, x5⟩ := sq_int x (by omega)
  obtain ⟨y1, y2, y3, y4, y5⟩ := sq_int y (by omega)
  generalize x * x = p at *
  generalize y * y = q at *
  rw [show wrap64 p = p from by unfold wrap64; omega, show wrap64 q = q from by unfold wrap64; omega, show wrap64 (p + q) = p + q from by unfold wrap64; omega]
  congr 1
  rw [Bool.eq_iff_iff, beq_iff_eq, decide_eq_true_eq]
  omega
theorem nearB_symm (w i j : Nat) : nearB w i j = nearB w j i := by
  unfold nearB
  rw [Bool.eq_iff_iff, decide_eq_true_eq, decide_eq_true_eq]
  omega
theorem nearF_eqS (w i j : Nat) (hw : 1 ≤ w ∧ w ≤ 8) (hi : i < 64) (hj : j < 64) : nearF (w : Int) (i : Int) (j : Int) = nearB w i j := by
  unfold nearF
  rw [near_f w i j hw hi hj]; rfl
/-- A region of a small field: places, each once. -/
structure Rgn (C : List Int) : Prop where
  nat : ∀ x ∈ C, ∃ i : Nat, x = (i : Int) ∧ i < 64
  nodup : C.Nodup
  len : C.length ≤ 64
theorem Rgn.symm {C : List Int} (h : Rgn C) (w : Nat) (hw : 1 ≤ w ∧ w ≤ 8) : ∀ x ∈ C, ∀ y ∈ C, nearF (w : Int) x y = nearF (w : Int) y x := by
  intro x hx y hy
  obtain ⟨i, rfl, hi⟩ := h.nat x hx
  obtain ⟨j, rfl, hj⟩ := h.nat y hy
  rw [nearF_eqS w i j hw hi hj, nearF_eqS w j i hw hj hi, nearB_symm]
theorem Rgn.beside {C : List Int} (h : Rgn C) (w : Nat) (hw : 1 ≤ w ∧ w ≤ 8) {x y : Int} (hx : x ∈ C) (hy : y ∈ C) : spec_l8Beside.f (w : Int) x y = some (nearF (w : Int) x y) := by
  obtain ⟨i, rfl, hi⟩ := h.nat x hx
  obtain ⟨j, rfl, hj⟩ := h.nat y hy
  rw [beside_f w i j hw hi hj, nearF_eqS w i j hw hi hj]
theorem Rgn.parts {C : List Int} (h : Rgn C) (w : Nat) (hw : 1 ≤ w ∧ w ≤ 8) : impl_regionParts.f (w : Int) C = some (partsS (nearF (w : Int)) C.length C) := by
  unfold impl_regionParts.f
  rw [if_pos]
  refine ⟨by have := h.len; omega, fun p hp x hx => ?_⟩
  obtain ⟨i, rfl, hi⟩ := h.nat p hp
  obtain ⟨j, rfl, hj⟩ := h.nat x hx
  rw [near_f w i j hw hi hj]; rfl
/-! The reference's flood. -/
theorem nodup_leS : ∀ (q C : List Int), q.Nodup → (∀ x ∈ q, x ∈ C) → q.length ≤ C.length
  | [], C, _, _ => by simp
  | x :: r, C, hn, hs => by
    obtain ⟨h1, h2⟩ := List.nodup_cons.1 hn
    have hx := hs x (List.mem_cons_self ..)
    have := nodup_leS r (C.erase x) h2 (fun y hy => (List.mem_erase_of_ne (by rintro rfl; exact h1 hy)).2 (hs y (List.mem_cons_of_mem _ hy)))
    rw [List.length_erase_of_mem hx] at this
    have := List.length_pos_of_mem hx
    rw [List.length_cons]; omega
structure Gr (near : Int → Int → Bool) (C : List Int) (c : Int) (g : List Int) : Prop where
  inside : ∀ x ∈ g, x ∈ C
  nodup : g.Nodup
  first : c ∈ g
  least : ∀ S : Int → Prop, S c → ClosedIn near C S → ∀ x ∈ g, S x
theorem Gr.add {near : Int → Int → Bool} {C : List Int} {c : Int} {g : List Int} (h : Gr near C c g) {z x : Int} (hz : z ∈ g) (hx : x ∈ C) (hn : near z x = true) (hnot : x ∉ g) : Gr near C c (g ++ [x]) := by
  refine ⟨fun y hy => ?_, List.nodup_append.2 ⟨h.nodup, List.pairwise_singleton _ _, fun a ha b hb => by rw [List.mem_singleton.1 hb]; rintro rfl; exact hnot ha⟩, List.mem_append.2 (.inl h.first), fun S hc hS y hy => ?_⟩
  · rcases List.mem_append.1 hy with hy | hy
    · exact h.inside y hy
    · rw [List.mem_singleton.1 hy]; exact hx
  · rcases List.mem_append.1 hy with hy | hy
    · exact h.least S hc hS y hy
    · rw [List.mem_singleton.1 hy]
      exact hS z (h.inside z hz) (h.least S hc hS z hz) x hx hn
theorem pt_l2 (w : Nat) (hw : 1 ≤ w ∧ w ≤ 8) (C : List Int) (hC : Rgn C) (out : List (List Int)) (seen : List Int) (i7 : Int) (c : Int) (p : Nat) :
    ∀ (d j : Nat) (g : List Int), j + d = C.length → Gr (nearF (w : Int)) C c g → p < g.length →
    ∃ t, Gr (nearF (w : Int)) C c (g ++ t) ∧ (∀ q, j ≤ q → q < C.length → nearF (w : Int) (g.getD p 0) (C.getD q 0) = true → C.getD q 0 ∈ g ++ t) ∧
      ∀ r, Ev (fun k => spec_l8Parts.l1 k (w : Int) C out seen i7 (g ++ t) ((p + 1 : Nat) : Int)) r → Ev (fun k => spec_l8Parts.l2 k (w : Int) C out seen i7 g (p : Int) (j : Int)) r := by
  intro d
  induction d with
  | zero =>
    intro j g hj hg hp
    have hgl := nodup_leS g C hg.nodup hg.inside
    have := hC.len
    refine ⟨[], by rw [List.append_nil]; exact hg, fun q h1 h2 => by omega, fun r he => ?_⟩
    rw [List.append_nil] at he
    refine Ev.unr (Ev.congr (fun k => ?_) he)
    simp only [spec_l8Parts.l2]
    rw [if_neg (by omega), wrapS p (by omega)]
  | succ d ih =>
    intro j g hj hg hp
    have hgl := nodup_leS g C hg.nodup hg.inside
    have hC64 := hC.len
    have hjl : j < C.length := by omega
    have hm := getD_memF hjl
    have hzm := getD_memF hp
    by_cases e1 : C.getD j 0 ∈ g
    · obtain ⟨t, h1, h2, h3⟩ := ih (j + 1) g (by omega) hg hp
      refine ⟨t, h1, fun q hq1 hq2 hn => ?_, fun r he => ?_⟩
      · by_cases e : q = j
        · subst e; exact List.mem_append.2 (.inl e1)
        · exact h2 q (by omega) hq2 hn
      · refine Ev.unr ?_
        simp only [spec_l8Parts.l2]
        refine Ev.congr (fun k => (if_pos (by omega)).trans (if_pos (by omega))) ?_
        rw [rdI]
        refine Ev.bind (f := fun k t118 => _) (ev_has g (by omega) (C.getD j 0)) ?_
        refine Ev.congr (fun k => if_pos (decide_eq_true e1)) ?_
        rw [wrapS j (by omega)]
        exact h3 r he
    · by_cases e2 : nearF (w : Int) (g.getD p 0) (C.getD j 0) = true
      · obtain ⟨t, h1, h2, h3⟩ := ih (j + 1) (g ++ [C.getD j 0]) (by omega) (hg.add hzm hm e2 e1) (by rw [List.length_append]; omega)
        rw [List.append_assoc] at h1 h2 h3
        have hgp : (g ++ [C.getD j 0]).getD p 0 = g.getD p 0 := by
          rw [List.getD_eq_getElem?_getD, List.getElem?_append_left hp, ← List.getD_eq_getElem?_getD]
        rw [hgp] at h2
        refine ⟨[C.getD j 0] ++ t, h1, fun q hq1 hq2 hn => ?_, fun r he => ?_⟩
        · by_cases e : q = j
          · subst e; simp
          · exact h2 q (by omega) hq2 hn
        · refine Ev.unr ?_
          simp only [spec_l8Parts.l2]
          refine Ev.congr (fun k => (if_pos (by omega)).trans (if_pos (by omega))) ?_
          rw [rdI, rdI]
          refine Ev.bind (f := fun k t118 => _) (ev_has g (by omega) (C.getD j 0)) ?_
          refine Ev.congr (fun k => (if_neg (by simpa using e1)).trans ((if_pos (by omega)).trans (if_pos (by omega)))) ?_
          rw [hC.beside w hw (hg.inside _ hzm) hm, e2]
          exact Ev.congr (fun k => by rw [Option.bind_some, if_pos rfl, if_pos (by omega), wrapS j (by omega)]) (h3 r he)
      · obtain ⟨t, h1, h2, h3⟩ := ih (j + 1) g (by omega) hg hp
        refine ⟨t, h1, fun q hq1 hq2 hn => ?_, fun r he => ?_⟩
        · by_cases e : q = j
          · subst e; exact absurd hn e2
          · exact h2 q (by omega) hq2 hn
        · refine Ev.unr ?_
          simp only [spec_l8Parts.l2]
          refine Ev.congr (fun k => (if_pos (by omega)).trans (if_pos (by omega))) ?_
          rw [rdI, rdI]
          refine Ev.bind (f := fun k t118 => _) (ev_has g (by omega) (C.getD j 0)) ?_
          refine Ev.congr (fun k => (if_neg (by simpa using e1)).trans ((if_pos (by omega)).trans (if_pos (by omega)))) ?_
          rw [hC.beside w hw (hg.inside _ hzm) hm, Bool.eq_false_iff.2 e2]
          exact Ev.congr (fun k => by rw [Option.bind_some, if_neg (by decide), wrapS j (by omega)]) (h3 r he)
theorem pt_l1 (w : Nat) (hw : 1 ≤ w ∧ w ≤ 8) (C : List Int) (hC : Rgn C) (out : List (List Int)) (seen : List Int) (i7 : Int) (c : Int) :
    ∀ (d p : Nat) (g : List Int), d + p = 65 → p ≤ g.length → Gr (nearF (w : Int)) C c g → (∀ q, q < p → ∀ x ∈ C, nearF (w : Int) (g.getD q 0) x = true → x ∈ g) →
    ∃ Q, Flood (nearF (w : Int)) C c Q ∧ ∀ r, Ev (fun k => spec_l8Parts.l3 k (w : Int) C out seen i7 Q [] 0) r → Ev (fun k => spec_l8Parts.l1 k (w : Int) C out seen i7 g (p : Int)) r := by
  intro d
  induction d with
  | zero =>
    intro p g h1 h2 hg _
    have := nodup_leS g C hg.nodup hg.inside
    have := hC.len
    omega
  | succ d ih =>
    intro p g h1 h2 hg h4
    by_cases hp : p < g.length
    · obtain ⟨t, k1, k2, k3⟩ := pt_l2 w hw C hC out seen i7 c p C.length 0 g (by omega) hg hp
      have pre : ∀ q, q < g.length → (g ++ t).getD q 0 = g.getD q 0 := fun q hq => by
        rw [List.getD_eq_getElem?_getD, List.getElem?_append_left hq, ← List.getD_eq_getElem?_getD]
      obtain ⟨Q, hQ, hE⟩ := ih (p + 1) (g ++ t) (by omega) (by rw [List.length_append]; omega) k1 (by
        intro q hq x hx hn
        rw [pre q (by omega)] at hn
        by_cases e : q = p
        · subst e
          obtain ⟨j, hj, rfl⟩ := mem_getD hx
          exact k2 j (Nat.zero_le _) hj hn
        · exact List.mem_append.2 (.inl (h4 q (by omega) x hx hn)))
      refine ⟨Q, hQ, fun r he => ?_⟩
      refine Ev.unr ?_
      simp only [spec_l8Parts.l1]
      exact Ev.congr (fun k => if_pos (by omega)) (k3 r (hE r he))
    · refine ⟨g, ⟨hg.first, hg.inside, hg.nodup, fun z hz x hx hn => ?_, hg.least⟩, fun r he => ?_⟩
      · obtain ⟨j, hj, e⟩ := mem_getD hz
        exact h4 j (by omega) x hx (by rw [e]; exact hn)
      · refine Ev.unr (Ev.congr (fun k => ?_) he)
        simp only [spec_l8Parts.l1]
        rw [if_neg (by omega)]
/-! Sorting by putting in. -/
theorem putI_mem : ∀ (s : List Int) (n x : Int), x ∈ putI s n ↔ x = n ∨ x ∈ s
  | [], n, x => by simp [putI]
  | y :: r, n, x => by
    rw [putI]
    split
    · rw [List.mem_cons, putI_mem r n x, List.mem_cons]
      exact ⟨fun h => h.elim (fun h => .inr (.inl h)) (fun h => h.elim .inl (fun h => .inr (.inr h))), fun h => h.elim (fun h => .inr (.inl h)) (fun h => h.elim .inl (fun h => .inr (.inr h)))⟩
    · split
      · rename_i e
        subst e
        rw [List.mem_cons]
        exact ⟨.inr, fun h => h.elim .inl id⟩
      · rw [List.mem_cons]
theorem putI_perm : ∀ (s : List Int) (n : Int), n ∉ s → (putI s n).Perm (n :: s)
  | [], n, _ => .refl _
  | y :: r, n, h => by
    rw [putI]
    split
    · exact ((putI_perm r n (fun c => h (List.mem_cons_of_mem _ c))).cons y).trans (.swap ..)
    · rw [if_neg (fun e => h (by rw [e]; exact List.mem_cons_self ..))]
theorem putI_sorted : ∀ (s : List Int) (n : Int), s.Pairwise (· ≤ ·) → (putI s n).Pairwise (· ≤ ·)
  | [], n, _ => List.pairwise_singleton _ _
  | y :: r, n, h => by
    obtain ⟨h1, h2⟩ := List.pairwise_cons.1 h
    rw [putI]
    split
    · refine List.pairwise_cons.2 ⟨fun x hx => ?_, putI_sorted r n h2⟩
      rcases (putI_mem r n x).1 hx with e | e
      · omega
      · exact h1 x e
    · split
      · exact h
      · refine List.pairwise_cons.2 ⟨fun x hx => ?_, h⟩
        rcases List.mem_cons.1 hx with e | e
        · omega
        · have := h1 x e; omega
theorem pt_l3 (w : Int) (C : List Int) (out : List (List Int)) (seen Q : List Int) (i7 : Nat) (hQ : Q.Nodup) (hQl : Q.length ≤ 64) (hs : seen.length ≤ 64) (ho : out.length ≤ 64) (h7 : i7 < 64) :
    ∀ (d i : Nat) (s : List Int), i + d = Q.length → s.Perm (Q.take i) → s.Pairwise (· ≤ ·) → ∀ r, Ev (fun k => spec_l8Parts.l0 k w C (out ++ [srt Q]) (seen ++ Q) ((i7 + 1 : Nat) : Int)) r → Ev (fun k => spec_l8Parts.l3 k w C out seen (i7 : Int) Q s (i : Int)) r := by
  intro d
  induction d with
  | zero =>
    intro i s hi hp hsrt r he
    rw [show i = Q.length by omega, List.take_length] at hp
    rw [← srt_of hp hsrt] at he
    refine Ev.unr (Ev.congr (fun k => ?_) he)
    simp only [spec_l8Parts.l3]
    rw [if_neg (by omega), if_pos (by omega), if_pos (by omega), wrapS i7 (by omega)]
  | succ d ih =>
    intro i s hi hp hsrt r he
    have hil : i < Q.length := by omega
    have hsl : s.length ≤ 64 := by rw [hp.length_eq, List.length_take]; omega
    have hget : Q[i]? = some (Q.getD i 0) := by rw [Gen.getD_lt Q 0 i hil]; exact List.getElem?_eq_getElem hil
    have htk : Q.take (i + 1) = Q.take i ++ [Q.getD i 0] := by
      rw [List.take_add_one, hget]; rfl
    have hnot : Q.getD i 0 ∉ s := fun hc => by
      have h1 := hp.mem_iff.1 hc
      have h2 : (Q.take (i + 1)).Nodup := (List.take_sublist _ _).nodup hQ
      rw [htk] at h2
      exact (List.nodup_append.1 h2).2.2 _ h1 _ (List.mem_singleton.2 rfl) rfl
    refine Ev.unr ?_
    simp only [spec_l8Parts.l3]
    refine Ev.congr (fun k => (if_pos (by omega)).trans (if_pos (by omega))) ?_
    rw [rdI, show spec_l1Put.f s (Q.getD i 0) = some (putI s (Q.getD i 0)) from by unfold spec_l1Put.f; rw [if_pos (by omega)]]
    simp only [Option.bind_some]
    rw [wrapS i (by omega)]
    refine ih (i + 1) (putI s (Q.getD i 0)) (by omega) ?_ (putI_sorted s _ hsrt) r he
    rw [htk]
    exact (putI_perm s _ hnot).trans ((hp.cons _).trans (List.perm_append_comm (l₁ := [Q.getD i 0])))
theorem restP_head {C seen : List Int} {i : Nat} (hi : i < C.length) (hb : ∀ j, j < i → C.getD j 0 ∈ seen) (hn : C.getD i 0 ∉ seen) : ∃ r, restP C seen = C.getD i 0 :: r := by
  refine ⟨(C.drop (i + 1)).filter fun x => decide (x ∉ seen), ?_⟩
  have e : C = C.take i ++ (C.getD i 0 :: C.drop (i + 1)) := by
    rw [Gen.getD_lt C 0 i hi, List.getElem_cons_drop, List.take_append_drop]
  unfold restP
  have h0 : (C.take i).filter (fun x => decide (x ∉ seen)) = [] := by
    rw [List.filter_eq_nil_iff]
    intro x hx
    obtain ⟨j, hj, rfl⟩ := List.getElem_of_mem hx
    rw [List.length_take] at hj
    have := hb j (by omega)
    rw [Gen.getD_lt C 0 j (by omega)] at this
    rw [List.getElem_take]
    simpa using this
  have h1 : ((C.take i ++ (C.getD i 0 :: C.drop (i + 1))).filter fun x => decide (x ∉ seen)) = C.getD i 0 :: (C.drop (i + 1)).filter fun x => decide (x ∉ seen) := by
    rw [List.filter_append, h0, List.nil_append, List.filter_cons, if_pos (decide_eq_true hn)]
  rw [← h1, ← e]
theorem pt_l0 (w : Nat) (hw : 1 ≤ w ∧ w ≤ 8) (C : List Int) (hC : Rgn C) :
    ∀ (d i : Nat) (out : List (List Int)) (seen : List Int), i + d = C.length → out.length ≤ i → seen.Nodup → (∀ x ∈ seen, x ∈ C) → ClosedIn (nearF (w : Int)) C (fun x => x ∈ seen) → (∀ j, j < i → C.getD j 0 ∈ seen) →
    Ev (fun k => spec_l8Parts.l0 k (w : Int) C out seen (i : Int)) (out ++ partsS (nearF (w : Int)) (restP C seen).length (restP C seen)) := by
  have hC64 := hC.len
  intro d
  induction d with
  | zero =>
    intro i out seen hi ho hsn hss hcl hb
    have h0 : restP C seen = [] := by
      unfold restP
      rw [List.filter_eq_nil_iff]
      intro x hx
      obtain ⟨j, hj, rfl⟩ := mem_getD hx
      simpa using hb j (by omega)
    rw [h0, partsS_nil, List.append_nil]
    refine Ev.unr (Ev.eq_now fun k => ?_)
    simp only [spec_l8Parts.l0]
    rw [if_neg (by omega)]
  | succ d ih =>
    intro i out seen hi ho hsn hss hcl hb
    have hil : i < C.length := by omega
    have hsl := nodup_leS seen C hsn hss
    have hm := getD_memF hil
    refine Ev.unr ?_
    simp only [spec_l8Parts.l0]
    refine Ev.congr (fun k => (if_pos (by omega)).trans (if_pos (by omega))) ?_
    rw [rdI]
    refine Ev.bind (f := fun k t118 => _) (ev_has seen (by omega) (C.getD i 0)) ?_
    by_cases e : C.getD i 0 ∈ seen
    · refine Ev.congr (fun k => if_pos (decide_eq_true e)) ?_
      rw [wrapS i (by omega)]
      refine ih (i + 1) out seen (by omega) (by omega) hsn hss hcl (fun j hj => ?_)
      by_cases ej : j = i
      · subst ej; exact e
      · exact hb j (by omega)
    · refine Ev.congr (fun k => if_neg (by simpa using e)) ?_
      obtain ⟨Q, hQ, hE⟩ := pt_l1 w hw C hC out seen (i : Int) (C.getD i 0) 65 0 [C.getD i 0] (by omega) (Nat.zero_le _)
        ⟨fun x hx => by rw [List.mem_singleton.1 hx]; exact hm, List.pairwise_singleton _ _, List.mem_singleton.2 rfl, fun S hc _ x hx => by rw [List.mem_singleton.1 hx]; exact hc⟩ (fun q hq => absurd hq (Nat.not_lt_zero q))
      have hsym := hC.symm w hw
      have hdis : ∀ x ∈ Q, x ∉ seen := hQ.least (fun x => x ∉ seen) e (fun p hp hps x hx hn hxs => hps (hcl x hx hxs p hp (by rw [← hsym p hp x hx]; exact hn)))
      have hQl := nodup_leS Q C hQ.nodup hQ.inside
      obtain ⟨r, hr⟩ := restP_head hil hb e
      have hstep := partsS_step (near := nearF (w : Int)) (C := C) (L := restP C seen) (seen := seen) hC.nodup List.filter_sublist hsym (fun x => by
          unfold restP
          rw [List.mem_filter, decide_eq_true_eq]
          exact ⟨fun hx => if h : x ∈ seen then .inl h else .inr ⟨hx, h⟩, fun h => h.elim (hss x) (fun h => h.1)⟩) (fun x hx => by
          unfold restP at hx
          exact of_decide_eq_true (List.mem_filter.1 hx).2) hcl hr hQ
      rw [hstep]
      refine hE _ (pt_l3 (w : Int) C out seen Q i hQ.nodup (by omega) (by omega) (by omega) (by omega) Q.length 0 [] (by omega) (.refl _) List.Pairwise.nil _ ?_)
      have hr2 := ih (i + 1) (out ++ [srt Q]) (seen ++ Q) (by omega) (by rw [List.length_append]; simp; omega) (List.nodup_append.2 ⟨hsn, hQ.nodup, fun a ha b hb2 hab => hdis b hb2 (hab ▸ ha)⟩) (fun x hx => (List.mem_append.1 hx).elim (hss x) (hQ.inside x)) (hQ.union hcl) (fun j hj => by
        by_cases ej : j = i
        · subst ej; exact List.mem_append.2 (.inr hQ.first)
        · exact List.mem_append.2 (.inl (hb j (by omega))))
      rw [List.append_assoc] at hr2
      exact hr2
theorem ev_specParts (w : Nat) (hw : 1 ≤ w ∧ w ≤ 8) (C : List Int) (hC : Rgn C) : Ev (fun k => spec_l8Parts.f k (w : Int) C) (partsS (nearF (w : Int)) C.length C) := by
  unfold spec_l8Parts.f
  have h := pt_l0 w hw C hC C.length 0 [] [] (by omega) (Nat.le_refl _) List.Pairwise.nil (fun x hx => absurd hx List.not_mem_nil) (fun p _ hp => absurd hp List.not_mem_nil) (fun j hj => absurd hj (Nat.not_lt_zero j))
  have e : restP C [] = C := by unfold restP; rw [List.filter_eq_self]; intro x _; simp
  rw [e, List.nil_append] at h
  exact h
end Go.Proofs.Ytpdeapefekbdpaa.Q
/- The storms of a field: the storm of a part, and what both programs say. -/
namespace Go.Proofs.Ytpdeapefekbdpaa.Q
open Go.RowKit Go.Proofs.YtpdeapefekbdpaaW.PrintWords Go.Proofs.Ytpdeapefekbdpaa.Gen
set_option linter.unusedVariables false
set_option linter.unusedSimpArgs false
theorem partsS_in (near : Int → Int → Bool) : ∀ (n : Nat) (l : List Int), ∀ P ∈ partsS near n l, P ≠ [] ∧ ∀ x ∈ P, x ∈ l := by
  intro n
  induction n with
  | zero => intro l P h; exact absurd h List.not_mem_nil
  | succ n ih =>
    intro l P h
    cases l with
    | nil => rw [partsS_nil] at h; exact absurd h List.not_mem_nil
    | cons c r =>
      rw [partsS] at h
      obtain ⟨h1, h2, _, _⟩ := growP_spec near (c :: r) c (r.length + 1) [c] r 0 (by simp; omega) (.refl _) (List.mem_singleton.2 rfl) (fun j hj => absurd hj (Nat.not_lt_zero j)) (fun S hc _ x hx => by rw [List.mem_singleton.1 hx]; exact hc)
      rcases List.mem_cons.1 h with e | h
      · have hp : P.Perm (growP near (r.length + 1) [c] r 0).1 := by rw [e]; exact List.mergeSort_perm ..
        refine ⟨fun c0 => ?_, fun x hx => h1.mem_iff.1 (List.mem_append.2 (.inl (hp.mem_iff.1 hx)))⟩
        have := hp.mem_iff.2 h2
        rw [c0] at this
        cases this
      · obtain ⟨k1, k2⟩ := ih _ P h
        exact ⟨k1, fun x hx => h1.mem_iff.1 (List.mem_append.2 (.inr (k2 x hx)))⟩
theorem partsS_le (near : Int → Int → Bool) : ∀ (n : Nat) (l : List Int), (partsS near n l).length ≤ n := by
  intro n
  induction n with
  | zero => intro l; exact Nat.le_refl _
  | succ n ih =>
    intro l
    cases l with
    | nil => rw [partsS_nil]; exact Nat.zero_le _
    | cons c r => rw [partsS, List.length_cons]; have := ih (growP near (r.length + 1) [c] r 0).2; omega
/-- Places in a field. -/
def InF (l P : List Int) : Prop := ∀ x ∈ P, ∃ i : Nat, x = (i : Int) ∧ i < l.length
def bestF (l : List Int) (b x : Int) : Int := if rd l x > rd l b then x else b
/-- The place of the greatest value, the first one. -/
def bestOf (l P : List Int) : Int := (P.drop 1).foldl (bestF l) (P.getD 0 0)
def stV (w : Int) (l : List Int) (n : Nat) (b : Int) : S49 := ⟨Int.tmod b w, wrap64 (Int.tdiv b w), (n : Int), rd l b⟩
def stormOf (w : Int) (l P : List Int) : S49 := stV w l P.length (bestOf l P)
theorem drop_getD {P : List Int} {i : Nat} (hi : i < P.length) : P.drop i = P.getD i 0 :: P.drop (i + 1) := by
  rw [Gen.getD_lt P 0 i hi, List.getElem_cons_drop]
theorem best_first {l P : List Int} (hP : 0 < P.length) : P.foldl (bestF l) (P.getD 0 0) = bestOf l P := by
  have e := drop_getD hP
  rw [List.drop_zero] at e
  unfold bestOf
  conv => lhs; rw [e]
  rw [List.foldl_cons]
  congr 1
  unfold bestF
  split <;> rfl
theorem bestF_in {l : List Int} {b x : Int} (hx : ∃ j : Nat, x = (j : Int) ∧ j < l.length) (hb : ∃ j : Nat, b = (j : Int) ∧ j < l.length) : ∃ j : Nat, bestF l b x = (j : Int) ∧ j < l.length := by
  unfold bestF
  split
  · exact hx
  · exact hb
theorem st_l0 (w h : Int) (hw : w ≠ 0) (l P : List Int) (hPl : P.length ≤ 1048576) (hP : InF l P) : ∀ (d i : Nat) (b : Int), i + d = P.length → (∃ j : Nat, b = (j : Int) ∧ j < l.length) →
    Ev (fun k => spec_l12Storm.l0 k P b (i : Int) w h l) (Int.tmod ((P.drop i).foldl (bestF l) b) w, wrap64 (Int.tdiv ((P.drop i).foldl (bestF l) b) w), (P.length : Int), rd l ((P.drop i).foldl (bestF l) b)) := by
  intro d
  induction d with
  | zero =>
    rintro i b hi ⟨j, rfl, hj⟩
    rw [List.drop_eq_nil_of_le (by omega), List.foldl_nil]
    refine Ev.unr (Ev.eq_now fun k => ?_)
    simp only [spec_l12Storm.l0]
    rw [if_neg (by omega), if_neg hw, if_pos (by omega), if_pos (by omega)]
  | succ d ih =>
    rintro i b hi ⟨j, rfl, hj⟩
    have hil : i < P.length := by omega
    obtain ⟨q, hq, hql⟩ := hP _ (getD_memF hil)
    have h2 := ih (i + 1) (bestF l (j : Int) (P.getD i 0)) (by omega) (bestF_in ⟨q, hq, hql⟩ ⟨j, rfl, hj⟩)
    rw [drop_getD hil, List.foldl_cons]
    refine Ev.unr (Ev.congr (fun k => ?_) h2)
    simp only [spec_l12Storm.l0]
    rw [if_pos (by omega), if_pos (by omega), show rd P (i : Int) = P.getD i 0 from rfl]
    unfold bestF
    rw [hq, if_pos (by omega), if_pos (by omega), if_pos (by omega), if_pos (by omega), wrapS i (by omega)]
    by_cases e : rd l (q : Int) > rd l (j : Int)
    · rw [if_pos e, if_pos e]
    · rw [if_neg e, if_neg e]
theorem ev_l12Storm (w h : Int) (hw : w ≠ 0) (l P : List Int) (hPl : P.length ≤ 1048576) (hP : InF l P) (hne : P ≠ []) : Ev (fun k => spec_l12Storm.f k w h l P) ((stormOf w l P).f0, (stormOf w l P).f1, (stormOf w l P).f2, (stormOf w l P).f3) := by
  have h0 : 0 < P.length := List.length_pos_iff.2 hne
  unfold spec_l12Storm.f
  refine Ev.congr (fun k => if_pos (by omega)) ?_
  exact st_l0 w h hw l P hPl hP (P.length - 1) 1 (P.getD 0 0) (by omega) (hP _ (getD_memF h0))
theorem im_l1 (w h : Int) (hw : w ≠ 0) (l P : List Int) (hPl : P.length ≤ 1048576) (hP : InF l P) (out : List S49) (ho : out.length ≤ 1000) (ps : List (List Int)) (n : Int) (i22 : Nat) (h22 : i22 ≤ 1000) (r : List S49 × Bool) : ∀ (d i : Nat) (b : Int), i + d = P.length → (∃ j : Nat, b = (j : Int) ∧ j < l.length) →
    Ev (fun k => impl_StormsOf.l0 k (out ++ [stV w l P.length ((P.drop i).foldl (bestF l) b)]) ps n ((i22 + 1 : Nat) : Int) w h l) r → Ev (fun k => impl_StormsOf.l1 k out P b ps n (i22 : Int) P (P.length : Int) (i : Int) w h l) r := by
  intro d
  induction d with
  | zero =>
    rintro i b hi ⟨j, rfl, hj⟩ he
    rw [List.drop_eq_nil_of_le (by omega), List.foldl_nil] at he
    refine Ev.unr (Ev.congr (fun k => ?_) he)
    simp only [impl_StormsOf.l1]
    rw [if_neg (by omega), if_neg hw, if_pos (by omega), if_pos (by omega), if_pos (by omega), wrapS i22 (by omega)]
    rfl
  | succ d ih =>
    rintro i b hi ⟨j, rfl, hj⟩ he
    have hil : i < P.length := by omega
    obtain ⟨q, hq, hql⟩ := hP _ (getD_memF hil)
    rw [drop_getD hil, List.foldl_cons] at he
    have h2 := ih (i + 1) (bestF l (j : Int) (P.getD i 0)) (by omega) (bestF_in ⟨q, hq, hql⟩ ⟨j, rfl, hj⟩) he
    refine Ev.unr (Ev.congr (fun k => ?_) h2)
    simp only [impl_StormsOf.l1]
    rw [if_pos (by omega), if_pos (by omega), if_pos (by omega), show rd P (i : Int) = P.getD i 0 from rfl]
    unfold bestF
    rw [hq, if_pos (by omega), if_pos (by omega), if_pos (by omega), if_pos (by omega), wrapS i (by omega)]
    by_cases e : rd l (q : Int) > rd l (j : Int)
    · rw [if_pos e, if_pos e]
    · rw [if_neg e, if_neg e]
theorem rdLL (ps : List (List Int)) (i : Nat) : rd_L1 ps (i : Int) = ps.getD i [] := rfl
theorem take_getD {ps : List (List Int)} {i : Nat} (hi : i < ps.length) : ps.take (i + 1) = ps.take i ++ [ps.getD i []] := by
  rw [List.take_add_one, List.getElem?_eq_getElem hi, Gen.getD_lt ps [] i hi]; rfl
theorem getD_memL {ps : List (List Int)} {i : Nat} (hi : i < ps.length) : ps.getD i [] ∈ ps := by
  rw [Gen.getD_lt ps [] i hi]; exact List.getElem_mem hi
theorem sp_l0 (w h : Int) (hw : w ≠ 0) (l : List Int) (ps : List (List Int)) (hps : ps.length ≤ 100) (hP : ∀ P ∈ ps, P ≠ [] ∧ P.length ≤ 1048576 ∧ InF l P) : ∀ (d i : Nat), i + d = ps.length →
    Ev (fun k => spec_StormsOf.l0 k ((ps.take i).map (stormOf w l)) ps (i : Int) w h l) (ps.map (stormOf w l), true) := by
  intro d
  induction d with
  | zero =>
    intro i hi
    rw [show i = ps.length by omega, List.take_length]
    refine Ev.unr (Ev.eq_now fun k => ?_)
    simp only [spec_StormsOf.l0]
    rw [if_neg (by omega)]
  | succ d ih =>
    intro i hi
    have hil : i < ps.length := by omega
    obtain ⟨h1, h2, h3⟩ := hP _ (getD_memL hil)
    have h4 := ih (i + 1) (by omega)
    rw [take_getD hil, List.map_append] at h4
    refine Ev.unr ?_
    simp only [spec_StormsOf.l0]
    refine Ev.congr (fun k => (if_pos (by omega)).trans (if_pos (by omega))) ?_
    rw [rdLL]
    refine Ev.bind (f := fun k bt174 => _) (ev_l12Storm w h hw l _ h2 h3 h1) ?_
    refine Ev.congr (fun k => ?_) h4
    rw [if_pos (by rw [List.length_map, List.length_take]; omega), wrapS i (by omega)]
    rfl
theorem im_l0 (w h : Int) (hw : w ≠ 0) (l : List Int) (ps : List (List Int)) (hps : ps.length ≤ 100) (hP : ∀ P ∈ ps, P ≠ [] ∧ P.length ≤ 1048576 ∧ InF l P) : ∀ (d i : Nat), i + d = ps.length →
    Ev (fun k => impl_StormsOf.l0 k ((ps.take i).map (stormOf w l)) ps (ps.length : Int) (i : Int) w h l) (if (ps.length : Int) > 5 then (([] : List S49), false) else (ps.map (stormOf w l), true)) := by
  intro d
  induction d with
  | zero =>
    intro i hi
    rw [show i = ps.length by omega, List.take_length]
    refine Ev.unr (Ev.eq_now fun k => ?_)
    simp only [impl_StormsOf.l0]
    rw [if_neg (by omega), List.length_map]
    split <;> rfl
  | succ d ih =>
    intro i hi
    have hil : i < ps.length := by omega
    obtain ⟨h1, h2, h3⟩ := hP _ (getD_memL hil)
    have h4 := ih (i + 1) (by omega)
    rw [take_getD hil, List.map_append] at h4
    have h0 : 0 < (ps.getD i []).length := List.length_pos_iff.2 h1
    refine Ev.unr ?_
    simp only [impl_StormsOf.l0]
    refine Ev.congr (fun k => by rw [if_pos (by omega), if_pos (by omega), if_pos (by omega), rdLL, if_pos (by omega)]) ?_
    refine im_l1 w h hw l (ps.getD i []) h2 h3 _ (by rw [List.length_map, List.length_take]; omega) ps _ i (by omega) _ (ps.getD i []).length 0 _ (by omega) (h3 _ (getD_memF h0)) ?_
    rw [List.drop_zero, show rd (ps.getD i []) 0 = (ps.getD i []).getD 0 0 from rfl, best_first h0]
    exact h4
/-- The storms, and whether there are any to tell of. -/
def stormsR (w h : Int) (l : List Int) (m : Int) : List S49 × Bool :=
  if okF w h l = true then (if ((partsS (nearF w) (above l m).length (above l m)).length : Int) > 5 then ([], false) else ((partsS (nearF w) (above l m).length (above l m)).map (stormOf w l), true)) else ([], false)
theorem okF_shape {w h : Int} {l : List Int} (ho : okF w h l = true) : (1 ≤ w ∧ w ≤ 8) ∧ (1 ≤ h ∧ h ≤ 8) ∧ (l.length : Int) = w * h ∧ l.length ≤ 64 := by
  have h1 := ((okF_iff w h l).1 ho).1
  have h2 := (shapeB_iff _ _ _).1 h1
  exact ⟨h2.1, h2.2.1, h2.2.2, shape_len h1⟩
theorem above_rgn {l : List Int} (hl : l.length ≤ 64) (m : Int) : Rgn (above l m) :=
  ⟨fun x hx => by obtain ⟨i, h1, h2, _⟩ := above_mem hx; exact ⟨i, h1, by omega⟩, above_nodup l m, Nat.le_trans (above_len l m) hl⟩
theorem parts_in {w : Int} {l : List Int} (hl : l.length ≤ 64) (m : Int) : (partsS (nearF w) (above l m).length (above l m)).length ≤ 64 ∧ ∀ P ∈ partsS (nearF w) (above l m).length (above l m), P ≠ [] ∧ InF l P := by
  refine ⟨Nat.le_trans (partsS_le ..) (Nat.le_trans (above_len l m) hl), fun P h => ?_⟩
  obtain ⟨h1, h2⟩ := partsS_in _ _ _ P h
  refine ⟨h1, fun x hx => ?_⟩
  obtain ⟨i, e, hi, _⟩ := above_mem (h2 x hx)
  exact ⟨i, e, hi⟩
theorem partsS_len (near : Int → Int → Bool) : ∀ (n : Nat) (l : List Int), ∀ P ∈ partsS near n l, P.length ≤ l.length := by
  intro n
  induction n with
  | zero => intro l P h; exact absurd h List.not_mem_nil
  | succ n ih =>
    intro l P h
    cases l with
    | nil => rw [partsS_nil] at h; exact absurd h List.not_mem_nil
    | cons c r =>
      rw [partsS] at h
      obtain ⟨h1, _, _, _⟩ := growP_spec near (c :: r) c (r.length + 1) [c] r 0 (by simp; omega) (.refl _) (List.mem_singleton.2 rfl) (fun j hj => absurd hj (Nat.not_lt_zero j)) (fun S hc _ x hx => by rw [List.mem_singleton.1 hx]; exact hc)
      have hl := h1.length_eq
      rw [List.length_append] at hl
      rcases List.mem_cons.1 h with e | h
      · have hp : P.Perm (growP near (r.length + 1) [c] r 0).1 := by rw [e]; exact List.mergeSort_perm ..
        rw [hp.length_eq]; omega
      · have := ih _ P h
        omega
theorem ev_specStorms (w h : Int) (l : List Int) (m : Int) : Ev (fun k => spec_StormsOf.f k w h l m) (stormsR w h l m) := by
  unfold spec_StormsOf.f stormsR
  simp only [Option.bind_some]
  refine Ev.bind (f := fun k t166 => _) (ev_goodF w h l) ?_
  cases ho : okF w h l with
  | false => exact Ev.now _
  | true =>
    obtain ⟨h1, h2, h3, h4⟩ := okF_shape ho
    obtain ⟨u, rfl⟩ : ∃ u : Nat, w = (u : Int) := ⟨w.toNat, by omega⟩
    obtain ⟨k1, k2⟩ := parts_in (w := (u : Int)) h4 m
    have hpl := partsS_len (nearF (u : Int)) (above l m).length (above l m)
    have hal := above_len l m
    refine Ev.congr (fun k => if_pos rfl) ?_
    rw [if_pos rfl]
    refine Ev.bind (f := fun k t167 => _) (ev_specAbove (u : Int) h l (by omega) m) ?_
    refine Ev.bind (f := fun k t170 => _) (ev_specParts u (by omega) _ (above_rgn h4 m)) ?_
    generalize partsS (nearF (u : Int)) (above l m).length (above l m) = ps at *
    by_cases e : (ps.length : Int) > 5
    · rw [if_pos e]
      exact Ev.congr (fun k => if_pos e) (Ev.now _)
    · rw [if_neg e]
      refine Ev.congr (fun k => if_neg e) ?_
      have key := sp_l0 (u : Int) h (by omega) l ps (by omega) (fun P hP => ⟨(k2 P hP).1, by have := hpl P hP; omega, (k2 P hP).2⟩) ps.length 0 (by omega)
      exact key
theorem ev_implStorms (w h : Int) (l : List Int) (m : Int) : Ev (fun k => impl_StormsOf.f k w h l m) (stormsR w h l m) := by
  unfold impl_StormsOf.f stormsR
  rw [validF_f]
  simp only [Option.bind_some]
  cases ho : okF w h l with
  | false => exact Ev.now _
  | true =>
    obtain ⟨h1, h2, h3, h4⟩ := okF_shape ho
    obtain ⟨u, rfl⟩ : ∃ u : Nat, w = (u : Int) := ⟨w.toNat, by omega⟩
    obtain ⟨k1, k2⟩ := parts_in (w := (u : Int)) h4 m
    have hpl := partsS_len (nearF (u : Int)) (above l m).length (above l m)
    have hal := above_len l m
    refine Ev.congr (fun k => if_pos rfl) ?_
    rw [if_pos rfl]
    refine Ev.bind (f := fun k t322 => _) (ev_implAbove (u : Int) h l (by omega) m) ?_
    rw [(above_rgn h4 m).parts u (by omega)]
    simp only [Option.bind_some]
    generalize partsS (nearF (u : Int)) (above l m).length (above l m) = ps at *
    exact im_l0 (u : Int) h (by omega) l ps (by omega) (fun P hP => ⟨(k2 P hP).1, by have := hpl P hP; omega, (k2 P hP).2⟩) ps.length 0 (by omega)
theorem stormsR_len (w h : Int) (l : List Int) (m : Int) : (stormsR w h l m).1.length ≤ 5 := by
  unfold stormsR
  split
  · split
    · exact Nat.zero_le _
    · rw [List.length_map]; omega
  · exact Nat.zero_le _
end Go.Proofs.Ytpdeapefekbdpaa.Q
/- The laws' helpers on lists of storms: marks, what is held, equality. -/
namespace Go.Proofs.Ytpdeapefekbdpaa.Q
open Go.RowKit Go.Proofs.YtpdeapefekbdpaaW.PrintWords Go.Proofs.Ytpdeapefekbdpaa.Gen
set_option linter.unusedVariables false
set_option linter.unusedSimpArgs false
def mkS (m : Int) : S49 := ⟨m, m + 1, m + 2, m + 3⟩
def marksS (n : Nat) : List S49 := (List.range n).map fun (i : Nat) => mkS (1 + 4 * (i : Int))
theorem marksS_length (n : Nat) : (marksS n).length = n := by simp [marksS]
theorem marksS_get (n i : Nat) (hi : i < n) : (marksS n).getD i z49 = mkS (1 + 4 * (i : Int)) := by
  rw [List.getD_eq_getElem?_getD]
  simp [marksS, hi]
theorem rdVS (l : List S49) (i : Nat) : rd_T49 l (i : Int) = l.getD i z49 := rfl
theorem ev_markVS (l : List S49) (hl : l.length ≤ 1073741824) : Ev (fun k => laws_markStormS.f k l 1) (1 + 4 * (l.length : Int), marksS l.length) := by
  unfold laws_markStormS.f
  let f : Nat → List S49 × Int → (Int × List S49) ⊕ (List S49 × Int) := fun i s => .inr (s.1.set i (mkS s.2), s.2 + 4)
  have key := ev_run (fun k (s : List S49 × Int) i => laws_markStormS.l0 k s.1 s.2 i) l.length f (fun s => (s.2, s.1)) (fun i s => s.1.length = l.length ∧ s.2 = 1 + 4 * (i : Int))
    (by intro i s b hi _ h; cases h)
    (by
      rintro i ⟨s1, s2⟩ s' r hi ⟨h1, h2⟩ h
      cases h
      dsimp only at h1 h2
      refine ⟨⟨by simpa using h1, by dsimp only; omega⟩, fun he => Ev.congr (fun k => ?_) he⟩
      simp only [laws_markStormS.l0]
      rw [if_pos (by omega), if_pos (by omega), wrapS i (by omega), wrapS' (s2) (by omega) (by omega), wrapS' (s2 + 1) (by omega) (by omega), wrapS' (s2 + 1 + 1) (by omega) (by omega), wrapS' (s2 + 1 + 1 + 1) (by omega) (by omega)]
      have e : ∀ (q : List S49) (v : S49), q.length = l.length → rd_T49 (q.set i v) (i : Int) = v := fun q v hq => by
        rw [rdVS, List.getD_eq_getElem?_getD, List.getElem?_set_self (by omega)]; rfl
      simp only [Option.bind_some, Int.toNat_natCast, e s1 _ h1, List.set_set, Int.add_assoc]
      rfl)
    (by
      rintro ⟨s1, s2⟩ ⟨h1, h2⟩
      dsimp only at h1 h2
      refine Ev.eq_now fun k => ?_
      simp only [laws_markStormS.l0]
      rw [if_neg (by omega)])
    l.length 0 (l, 1) (by omega) ⟨rfl, by simp⟩
  have hv : run f (fun s => (s.2, s.1)) l.length 0 (l, 1) = (1 + 4 * (l.length : Int), marksS l.length) := by
    refine run_inv (n := l.length) (fun i s => s.1.length = l.length ∧ s.2 = 1 + 4 * (i : Int) ∧ ∀ j, j < i → s.1[j]? = some (mkS (1 + 4 * (j : Int)))) (fun b => b = (1 + 4 * (l.length : Int), marksS l.length)) (fun i s b _ _ h => by cases h) ?_ ?_ l.length 0 (l, 1) (by omega) ⟨rfl, by simp, fun j hj => absurd hj (Nat.not_lt_zero _)⟩
    · rintro i ⟨s1, s2⟩ s' hi ⟨h1, h2, h3⟩ h
      cases h
      dsimp only at h1 h2 h3 ⊢
      refine ⟨by simpa using h1, by omega, fun j hj => ?_⟩
      by_cases e : j = i
      · subst e
        rw [List.getElem?_set_self (by omega), h2]
      · rw [List.getElem?_set_ne (by omega)]
        exact h3 j (by omega)
    · rintro ⟨s1, s2⟩ ⟨h1, h2, h3⟩
      dsimp only at h1 h2 h3 ⊢
      rw [h2]
      congr 1
      apply List.ext_getElem?
      intro j
      by_cases hj : j < l.length
      · rw [h3 j hj]
        simp [marksS, hj]
      · rw [List.getElem?_eq_none (by omega), List.getElem?_eq_none (by rw [marksS_length]; omega)]
  rw [hv] at key
  exact key
theorem ev_heldVS (n : Nat) (hn : n ≤ 1073741824) : Ev (fun k => laws_heldStormS.f k (marksS n) 1) (1 + 4 * (n : Int)) := by
  unfold laws_heldStormS.f
  have key := ev_run (fun k (s : Int) i => laws_heldStormS.l0 k (marksS n) s i) n (fun i s => .inr (s + 4)) (fun s => s) (fun i s => s = 1 + 4 * (i : Int))
    (by intro i s b hi _ h; cases h)
    (by
      intro i s s' r hi h1 h
      cases h
      refine ⟨by omega, fun he => Ev.congr (fun k => ?_) he⟩
      simp only [laws_heldStormS.l0]
      rw [marksS_length, if_pos (by omega), if_pos (by omega), rdVS, marksS_get n i hi, wrapS i (by omega), wrapS' (s) (by omega) (by omega), wrapS' (s + 1) (by omega) (by omega), wrapS' (s + 1 + 1) (by omega) (by omega), wrapS' (s + 1 + 1 + 1) (by omega) (by omega)]
      simp only [mkS, Int.add_assoc, ← h1]
      simp only [Int.reduceAdd, if_true])
    (by
      intro s h1
      refine Ev.eq_now fun k => ?_
      simp only [laws_heldStormS.l0]
      rw [marksS_length, if_neg (by omega)])
    n 0 1 (by omega) (by simp)
  have hv : run (fun i (s : Int) => (.inr (s + 4) : Int ⊕ Int)) (fun s => s) n 0 1 = 1 + 4 * (n : Int) :=
    run_inv (n := n) (fun i s => s = 1 + 4 * (i : Int)) (fun b => b = 1 + 4 * (n : Int)) (fun i s b _ _ h => by cases h) (fun i s s' _ h1 h => by cases h; omega) (fun s h1 => h1) n 0 1 (by omega) (by simp)
  rw [hv] at key
  exact key
theorem eqW_f (x : S49) : laws_eqStorm.f x.f0 x.f1 x.f2 x.f3 x.f0 x.f1 x.f2 x.f3 = some true := by
  unfold laws_eqStorm.f
  simp
theorem ev_eqW (l : List S49) (hl : l.length ≤ 4611686018427387904) : Ev (fun k => laws_eqStormS.f k l l) true := by
  unfold laws_eqStormS.f
  refine Ev.congr (f := fun k => laws_eqStormS.l0 k l l ((0 : Nat) : Int)) (fun k => by rw [if_pos rfl]; rfl) ?_
  have key := ev_run (fun k (s : Unit) i => laws_eqStormS.l0 k l l i) l.length (fun _ _ => .inr ()) (fun _ => true) (fun _ _ => True)
    (by intro i s b hi _ h; cases h)
    (by
      intro i s s' r hi hs h
      refine ⟨trivial, fun he => Ev.congr (fun k => ?_) he⟩
      simp only [laws_eqStormS.l0]
      rw [if_pos (by omega), if_pos (by omega), if_pos (by omega), rdVS, eqW_f, wrapS i (by omega)]
      rfl)
    (by
      intro s _
      refine Ev.eq_now fun k => ?_
      simp only [laws_eqStormS.l0]
      rw [if_neg (by omega)])
    l.length 0 () (by omega) trivial
  have hv : run (fun _ (_ : Unit) => (.inr () : Bool ⊕ Unit)) (fun _ => true) l.length 0 () = true :=
    run_inv (n := l.length) (fun _ _ => True) (fun b => b = true) (fun i s b _ _ h => by cases h) (fun _ _ _ _ _ _ => trivial) (fun _ _ => rfl) _ _ _ (by omega) trivial
  rw [hv] at key
  exact key
end Go.Proofs.Ytpdeapefekbdpaa.Q
/- The two programs find the same storms: for every field and limit. -/
set_option linter.unusedVariables false
set_option linter.unusedSimpArgs false
namespace Go.Proofs.Ytpdeapefekbdpaa.Pure
open Go.RowKit Go.Proofs.YtpdeapefekbdpaaW.PrintWords Go.Proofs.Ytpdeapefekbdpaa.Tells Go.Proofs.Ytpdeapefekbdpaa.Q Go.Proofs.Ytpdeapefekbdpaa.Gen
theorem FnExactStormsOf : ∀ (x0 : S24) (a1 : Int), G24 x0 → I64 a1 → ∃ k, laws_FnExactStormsOf.f k x0.f0 x0.f1 x0.f2 a1 = some true := by
  rintro ⟨w, h, l⟩ a1 ⟨_, _, hl, _⟩ _
  dsimp only at hl ⊢
  refine Ev.rounds ?_
  unfold laws_FnExactStormsOf.f
  simp only [szF_f w h l 1048576 (by omega) hl, Option.bind_some]
  by_cases hb : (l.length : Int) ≤ 1048576
  · simp only [if_pos hb]
    refine Ev.congr (fun k => if_neg (by omega)) ?_
    have hcF := ev_toF w h l (by omega)
    have eqF := ev_eqF w h l (by omega)
    have hsp := ev_specStorms w h l a1
    have him := ev_implStorms w h l a1
    have hmF := ev_markF w h l (by omega) 1 (by omega)
    have hlen := stormsR_len w h l a1
    generalize stormsR w h l a1 = v at hsp him hlen
    obtain ⟨ss, ok⟩ := v
    dsimp only at hlen
    have eqS := ev_eqW ss (by omega)
    have hmS := ev_markVS ss (by omega)
    have hhS := ev_heldVS ss.length (by omega)
    repeat first
      | exact Ev.now _
      | (with_reducible refine Ev.bind (f := fun k t => _) hcF ?_)
      | (with_reducible refine Ev.bind (f := fun k t => _) hsp ?_)
      | (with_reducible refine Ev.bind (f := fun k t => _) him ?_)
      | (with_reducible refine Ev.bind (f := fun k t => _) eqF ?_)
      | (with_reducible refine Ev.bind (f := fun k t => _) eqS ?_)
      | (with_reducible refine Ev.bind (f := fun k t => _) hmF ?_)
      | (with_reducible refine Ev.bind (f := fun k t => _) hmS ?_)
      | (with_reducible refine Ev.bind (f := fun k t => _) hhS ?_)
      | refine Ev.congr (fun k => if_pos (by first | rfl | trivial)) ?_
      | refine Ev.congr (fun k => if_neg (by first | omega | simp)) ?_
      | simp only [bne_self_eq_false, Bool.false_eq_true, if_false]
      | (refine Ev.unr ?_; simp only [laws_FnExactStormsOf.j0])
      | (refine Ev.unr ?_; simp only [laws_FnExactStormsOf.j1])
      | (refine Ev.unr ?_; simp only [laws_FnExactStormsOf.j2])
  · simp only [if_neg hb]
    exact Ev.now _
end Go.Proofs.Ytpdeapefekbdpaa.Pure
