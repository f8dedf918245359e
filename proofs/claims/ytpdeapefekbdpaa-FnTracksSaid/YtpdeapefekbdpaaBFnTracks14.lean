/- Texts of this claim, put together: walks of the program's functions, and plain facts. -/
import Derived.Test.YtpdeapefekbdpaaZFnTracks
import Derived.Test.YtpdeapefekbdpaaBFnTracks0
import Derived.Test.YtpdeapefekbdpaaBFnTracks11
import Derived.Test.YtpdeapefekbdpaaBFnTracks12
import Derived.Test.YtpdeapefekbdpaaBFnTracks13
namespace Go.Proofs.Ytpdeapefekbdpaa.Q
open Go.RowKit Go.Proofs.YtpdeapefekbdpaaW.PrintWords Go.Proofs.Ytpdeapefekbdpaa.Gen
set_option linter.unusedVariables false
set_option linter.unusedSimpArgs false
theorem partsS_in (near : Int → Int → Bool) : ∀ (n : Nat) (l : List Int), ∀ P ∈ partsS near n l, P ≠ [] ∧ ∀ x ∈ P, x ∈ l := by
  intro n
  induction n with
  | zero => intro l P h; exact absurd h List.not_mem_nil
  | succ n ih =>
    intro l P h
    cases l with
    | nil => rw [partsS_nil] at h; exact absurd h List.not_mem_nil
    | cons c r =>
      rw [partsS] at h
      obtain ⟨h1, h2, _, _⟩ := growP_spec near (c :: r) c (r.length + 1) [c] r 0 (by simp; omega) (.refl _) (List.mem_singleton.2 rfl) (fun j hj => absurd hj (Nat.not_lt_zero j)) (fun S hc _ x hx => by rw [List.mem_singleton.1 hx]; exact hc)
      rcases List.mem_cons.1 h with e | h
      · have hp : P.Perm (growP near (r.length + 1) [c] r 0).1 := by rw [e]; exact List.mergeSort_perm ..
        refine ⟨fun c0 => ?_, fun x hx => h1.mem_iff.1 (List.mem_append.2 (.inl (hp.mem_iff.1 hx)))⟩
        have := hp.mem_iff.2 h2
        rw [c0] at this
        cases this
      · obtain ⟨k1, k2⟩ := ih _ P h
        exact ⟨k1, fun x hx => h1.mem_iff.1 (List.mem_append.2 (.inr (k2 x hx)))⟩
theorem partsS_le (near : Int → Int → Bool) : ∀ (n : Nat) (l : List Int), (partsS near n l).length ≤ n := by
  intro n
  induction n with
  | zero => intro l; exact Nat.le_refl _
  | succ n ih =>
    intro l
    cases l with
    | nil => rw [partsS_nil]; exact Nat.zero_le _
    | cons c r => rw [partsS, List.length_cons]; have := ih (growP near (r.length + 1) [c] r 0).2; omega
def InF (l P : List Int) : Prop := ∀ x ∈ P, ∃ i : Nat, x = (i : Int) ∧ i < l.length
def bestF (l : List Int) (b x : Int) : Int := if rd l x > rd l b then x else b
def bestOf (l P : List Int) : Int := (P.drop 1).foldl (bestF l) (P.getD 0 0)
def stV (w : Int) (l : List Int) (n : Nat) (b : Int) : S49 := ⟨Int.tmod b w, wrap64 (Int.tdiv b w), (n : Int), rd l b⟩
def stormOf (w : Int) (l P : List Int) : S49 := stV w l P.length (bestOf l P)
theorem drop_getD {P : List Int} {i : Nat} (hi : i < P.length) : P.drop i = P.getD i 0 :: P.drop (i + 1) := by
  rw [Gen.getD_lt P 0 i hi, List.getElem_cons_drop]
theorem best_first {l P : List Int} (hP : 0 < P.length) : P.foldl (bestF l) (P.getD 0 0) = bestOf l P := by
  have e := drop_getD hP
  rw [List.drop_zero] at e
  unfold bestOf
  conv => lhs; rw [e]
  rw [List.foldl_cons]
  congr 1
  unfold bestF
  split <;> rfl
theorem bestF_in {l : List Int} {b x : Int} (hx : ∃ j : Nat, x = (j : Int) ∧ j < l.length) (hb : ∃ j : Nat, b = (j : Int) ∧ j < l.length) : ∃ j : Nat, bestF l b x = (j : Int) ∧ j < l.length := by
  unfold bestF
  split
  · exact hx
  · exact hb
theorem st_l0 (w h : Int) (hw : w ≠ 0) (l P : List Int) (hPl : P.length ≤ 1048576) (hP : InF l P) : ∀ (d i : Nat) (b : Int), i + d = P.length → (∃ j : Nat, b = (j : Int) ∧ j < l.length) →
    Ev (fun k => spec_l12Storm.l0 k P b (i : Int) w h l) (Int.tmod ((P.drop i).foldl (bestF l) b) w, wrap64 (Int.tdiv ((P.drop i).foldl (bestF l) b) w), (P.length : Int), rd l ((P.drop i).foldl (bestF l) b)) := by
  intro d
  induction d with
  | zero =>
    rintro i b hi ⟨j, rfl, hj⟩
    rw [List.drop_eq_nil_of_le (by omega), List.foldl_nil]
    refine Ev.unr (Ev.eq_now fun k => ?_)
    simp only [spec_l12Storm.l0]
    rw [if_neg (by omega), if_neg hw, if_pos (by omega), if_pos (by omega)]
  | succ d ih =>
    rintro i b hi ⟨j, rfl, hj⟩
    have hil : i < P.length := by omega
    obtain ⟨q, hq, hql⟩ := hP _ (getD_memF hil)
    have h2 := ih (i + 1) (bestF l (j : Int) (P.getD i 0)) (by omega) (bestF_in ⟨q, hq, hql⟩ ⟨j, rfl, hj⟩)
    rw [drop_getD hil, List.foldl_cons]
    refine Ev.unr (Ev.congr (fun k => ?_) h2)
    simp only [spec_l12Storm.l0]
    rw [if_pos (by omega), if_pos (by omega), show rd P (i : Int) = P.getD i 0 from rfl]
    unfold bestF
    rw [hq, if_pos (by omega), if_pos (by omega), if_pos (by omega), if_pos (by omega), wrapS i (by omega)]
    by_cases e : rd l (q : Int) > rd l (j : Int)
    · rw [if_pos e, if_pos e]
    · rw [if_neg e, if_neg e]
theorem ev_l12Storm (w h : Int) (hw : w ≠ 0) (l P : List Int) (hPl : P.length ≤ 1048576) (hP : InF l P) (hne : P ≠ []) : Ev (fun k => spec_l12Storm.f k w h l P) ((stormOf w l P).f0, (stormOf w l P).f1, (stormOf w l P).f2, (stormOf w l P).f3) := by
  have h0 : 0 < P.length := List.length_pos_iff.2 hne
  unfold spec_l12Storm.f
  refine Ev.congr (fun k => if_pos (by omega)) ?_
  exact st_l0 w h hw l P hPl hP (P.length - 1) 1 (P.getD 0 0) (by omega) (hP _ (getD_memF h0))
theorem im_l1 (w h : Int) (hw : w ≠ 0) (l P : List Int) (hPl : P.length ≤ 1048576) (hP : InF l P) (out : List S49) (ho : out.length ≤ 1000) (ps : List (List Int)) (n : Int) (i22 : Nat) (h22 : i22 ≤ 1000) (r : List S49 × Bool) : ∀ (d i : Nat) (b : Int), i + d = P.length → (∃ j : Nat, b = (j : Int) ∧ j < l.length) →
    Ev (fun k => impl_StormsOf.l0 k (out ++ [stV w l P.length ((P.drop i).foldl (bestF l) b)]) ps n ((i22 + 1 : Nat) : Int) w h l) r → Ev (fun k => impl_StormsOf.l1 k out P b ps n (i22 : Int) P (P.length : Int) (i : Int) w h l) r := by
  intro d
  induction d with
  | zero =>
    rintro i b hi ⟨j, rfl, hj⟩ he
    rw [List.drop_eq_nil_of_le (by omega), List.foldl_nil] at he
    refine Ev.unr (Ev.congr (fun k => ?_) he)
    simp only [impl_StormsOf.l1]
    rw [if_neg (by omega), if_neg hw, if_pos (by omega), if_pos (by omega), if_pos (by omega), wrapS i22 (by omega)]
    rfl
  | succ d ih =>
    rintro i b hi ⟨j, rfl, hj⟩ he
    have hil : i < P.length := by omega
    obtain ⟨q, hq, hql⟩ := hP _ (getD_memF hil)
    rw [drop_getD hil, List.foldl_cons] at he
    have h2 := ih (i + 1) (bestF l (j : Int) (P.getD i 0)) (by omega) (bestF_in ⟨q, hq, hql⟩ ⟨j, rfl, hj⟩) he
    refine Ev.unr (Ev.congr (fun k => ?_) h2)
    simp only [impl_StormsOf.l1]
    rw [if_pos (by omega), if_pos (by omega), if_pos (by omega), show rd P (i : Int) = P.getD i 0 from rfl]
    unfold bestF
    rw [hq, if_pos (by omega), if_pos (by omega), if_pos (by omega), if_pos (by omega), wrapS i (by omega)]
    by_cases e : rd l (q : Int) > rd l (j : Int)
    · rw [if_pos e, if_pos e]
    · rw [if_neg e, if_neg e]
theorem rdLL (ps : List (List Int)) (i : Nat) : rd_L1 ps (i : Int) = ps.getD i [] := rfl
theorem take_getD {ps : List (List Int)} {i : Nat} (hi : i < ps.length) : ps.take (i + 1) = ps.take i ++ [ps.getD i []] := by
  rw [List.take_add_one, List.getElem?_eq_getElem hi, Gen.getD_lt ps [] i hi]; rfl
theorem getD_memL {ps : List (List Int)} {i : Nat} (hi : i < ps.length) : ps.getD i [] ∈ ps := by
  rw [Gen.getD_lt ps [] i hi]; exact List.getElem_mem hi
theorem sp_l0 (w h : Int) (hw : w ≠ 0) (l : List Int) (ps : List (List Int)) (hps : ps.length ≤ 100) (hP : ∀ P ∈ ps, P ≠ [] ∧ P.length ≤ 1048576 ∧ InF l P) : ∀ (d i : Nat), i + d = ps.length →
    Ev (fun k => spec_StormsOf.l0 k ((ps.take i).map (stormOf w l)) ps (i : Int) w h l) (ps.map (stormOf w l), true) := by
  intro d
  induction d with
  | zero =>
    intro i hi
    rw [show i = ps.length by omega, List.take_length]
    refine Ev.unr (Ev.eq_now fun k => ?_)
    simp only [spec_StormsOf.l0]
    rw [if_neg (by omega)]
  | succ d ih =>
    intro i hi
    have hil : i < ps.length := by omega
    obtain ⟨h1, h2, h3⟩ := hP _ (getD_memL hil)
    have h4 := ih (i + 1) (by omega)
    rw [take_getD hil, List.map_append] at h4
    refine Ev.unr ?_
    simp only [spec_StormsOf.l0]
    refine Ev.congr (fun k => (if_pos (by omega)).trans (if_pos (by omega))) ?_
    rw [rdLL]
    refine Ev.bind (f := fun k bt174 => _) (ev_l12Storm w h hw l _ h2 h3 h1) ?_
    refine Ev.congr (fun k => ?_) h4
    rw [if_pos (by rw [List.length_map, List.length_take]; omega), wrapS i (by omega)]
    rfl
theorem im_l0 (w h : Int) (hw : w ≠ 0) (l : List Int) (ps : List (List Int)) (hps : ps.length ≤ 100) (hP : ∀ P ∈ ps, P ≠ [] ∧ P.length ≤ 1048576 ∧ InF l P) : ∀ (d i : Nat), i + d = ps.length →
    Ev (fun k => impl_StormsOf.l0 k ((ps.take i).map (stormOf w l)) ps (ps.length : Int) (i : Int) w h l) (if (ps.length : Int) > 5 then (([] : List S49), false) else (ps.map (stormOf w l), true)) := by
  intro d
  induction d with
  | zero =>
    intro i hi
    rw [show i = ps.length by omega, List.take_length]
    refine Ev.unr (Ev.eq_now fun k => ?_)
    simp only [impl_StormsOf.l0]
    rw [if_neg (by omega), List.length_map]
    split <;> rfl
  | succ d ih =>
    intro i hi
    have hil : i < ps.length := by omega
    obtain ⟨h1, h2, h3⟩ := hP _ (getD_memL hil)
    have h4 := ih (i + 1) (by omega)
    rw [take_getD hil, List.map_append] at h4
    have h0 : 0 < (ps.getD i []).length := List.length_pos_iff.2 h1
    refine Ev.unr ?_
    simp only [impl_StormsOf.l0]
    refine Ev.congr (fun k => by rw [if_pos (by omega), if_pos (by omega), if_pos (by omega), rdLL, if_pos (by omega)]) ?_
    refine im_l1 w h hw l (ps.getD i []) h2 h3 _ (by rw [List.length_map, List.length_take]; omega) ps _ i (by omega) _ (ps.getD i []).length 0 _ (by omega) (h3 _ (getD_memF h0)) ?_
    rw [List.drop_zero, show rd (ps.getD i []) 0 = (ps.getD i []).getD 0 0 from rfl, best_first h0]
    exact h4
def stormsR (w h : Int) (l : List Int) (m : Int) : List S49 × Bool :=
  if okF w h l = true then (if ((partsS (nearF w) (above l m).length (above l m)).length : Int) > 5 then ([], false) else ((partsS (nearF w) (above l m).length (above l m)).map (stormOf w l), true)) else ([], false)
theorem okF_shape {w h : Int} {l : List Int} (ho : okF w h l = true) : (1 ≤ w ∧ w ≤ 8) ∧ (1 ≤ h ∧ h ≤ 8) ∧ (l.length : Int) = w * h ∧ l.length ≤ 64 := by
  have h1 := ((okF_iff w h l).1 ho).1
  have h2 := (shapeB_iff _ _ _).1 h1
  exact ⟨h2.1, h2.2.1, h2.2.2, shape_len h1⟩
theorem above_rgn {l : List Int} (hl : l.length ≤ 64) (m : Int) : Rgn (above l m) :=
  ⟨fun x hx => by obtain ⟨i, h1, h2, _⟩ := above_mem hx; exact ⟨i, h1, by omega⟩, above_nodup l m, Nat.le_trans (above_len l m) hl⟩
theorem parts_in {w : Int} {l : List Int} (hl : l.length ≤ 64) (m : Int) : (partsS (nearF w) (above l m).length (above l m)).length ≤ 64 ∧ ∀ P ∈ partsS (nearF w) (above l m).length (above l m), P ≠ [] ∧ InF l P := by
  refine ⟨Nat.le_trans (partsS_le ..) (Nat.le_trans (above_len l m) hl), fun P h => ?_⟩
  obtain ⟨h1, h2⟩ := partsS_in _ _ _ P h
  refine ⟨h1, fun x hx => ?_⟩
  obtain ⟨i, e, hi, _⟩ := above_mem (h2 x hx)
  exact ⟨i, e, hi⟩
theorem partsS_len (near : Int → Int → Bool) : ∀ (n : Nat) (l : List Int), ∀ P ∈ partsS near n l, P.length ≤ l.length := by
  intro n
  induction n with
  | zero => intro l P h; exact absurd h List.not_mem_nil
  | succ n ih =>
    intro l P h
    cases l with
    | nil => rw [partsS_nil] at h; exact absurd h List.not_mem_nil
    | cons c r =>
      rw [partsS] at h
      obtain ⟨h1, _, _, _⟩ := growP_spec near (c :: r) c (r.length + 1) [c] r 0 (by simp; omega) (.refl _) (List.mem_singleton.2 rfl) (fun j hj => absurd hj (Nat.not_lt_zero j)) (fun S hc _ x hx => by rw [List.mem_singleton.1 hx]; exact hc)
      have hl := h1.length_eq
      rw [List.length_append] at hl
      rcases List.mem_cons.1 h with e | h
      · have hp : P.Perm (growP near (r.length + 1) [c] r 0).1 := by rw [e]; exact List.mergeSort_perm ..
        rw [hp.length_eq]; omega
      · have := ih _ P h
        omega
theorem ev_specStorms (w h : Int) (l : List Int) (m : Int) : Ev (fun k => spec_StormsOf.f k w h l m) (stormsR w h l m) := by
  unfold spec_StormsOf.f stormsR
  simp only [Option.bind_some]
  refine Ev.bind (f := fun k t166 => _) (ev_goodF w h l) ?_
  cases ho : okF w h l with
  | false => exact Ev.now _
  | true =>
    obtain ⟨h1, h2, h3, h4⟩ := okF_shape ho
    obtain ⟨u, rfl⟩ : ∃ u : Nat, w = (u : Int) := ⟨w.toNat, by omega⟩
    obtain ⟨k1, k2⟩ := parts_in (w := (u : Int)) h4 m
    have hpl := partsS_len (nearF (u : Int)) (above l m).length (above l m)
    have hal := above_len l m
    refine Ev.congr (fun k => if_pos rfl) ?_
    rw [if_pos rfl]
    refine Ev.bind (f := fun k t167 => _) (ev_specAbove (u : Int) h l (by omega) m) ?_
    refine Ev.bind (f := fun k t170 => _) (ev_specParts u (by omega) _ (above_rgn h4 m)) ?_
    generalize partsS (nearF (u : Int)) (above l m).length (above l m) = ps at *
    by_cases e : (ps.length : Int) > 5
    · rw [if_pos e]
      exact Ev.congr (fun k => if_pos e) (Ev.now _)
    · rw [if_neg e]
      refine Ev.congr (fun k => if_neg e) ?_
      have key := sp_l0 (u : Int) h (by omega) l ps (by omega) (fun P hP => ⟨(k2 P hP).1, by have := hpl P hP; omega, (k2 P hP).2⟩) ps.length 0 (by omega)
      exact key
theorem ev_implStorms (w h : Int) (l : List Int) (m : Int) : Ev (fun k => impl_StormsOf.f k w h l m) (stormsR w h l m) := by
  unfold impl_StormsOf.f stormsR
  rw [validF_f]
  simp only [Option.bind_some]
  cases ho : okF w h l with
  | false => exact Ev.now _
  | true =>
    obtain ⟨h1, h2, h3, h4⟩ := okF_shape ho
    obtain ⟨u, rfl⟩ : ∃ u : Nat, w = (u : Int) := ⟨w.toNat, by omega⟩
    obtain ⟨k1, k2⟩ := parts_in (w := (u : Int)) h4 m
    have hpl := partsS_len (nearF (u : Int)) (above l m).length (above l m)
    have hal := above_len l m
    refine Ev.congr (fun k => if_pos rfl) ?_
    rw [if_pos rfl]
    refine Ev.bind (f := fun k t322 => _) (ev_implAbove (u : Int) h l (by omega) m) ?_
    rw [(above_rgn h4 m).parts u (by omega)]
    simp only [Option.bind_some]
    generalize partsS (nearF (u : Int)) (above l m).length (above l m) = ps at *
    exact im_l0 (u : Int) h (by omega) l ps (by omega) (fun P hP => ⟨(k2 P hP).1, by have := hpl P hP; omega, (k2 P hP).2⟩) ps.length 0 (by omega)
theorem stormsR_len (w h : Int) (l : List Int) (m : Int) : (stormsR w h l m).1.length ≤ 5 := by
  unfold stormsR
  split
  · split
    · exact Nat.zero_le _
    · rw [List.length_map]; omega
  · exact Nat.zero_le _
theorem wrap_nat (n : Nat) (h : n ≤ 1000000) : wrap64 (n : Int) = (n : Int) := by unfold wrap64; omega
theorem wrap_two (q x : Nat) (h : q + x ≤ 1000000) : wrap64 (wrap64 (q : Int) + (x : Int)) = ((q + x : Nat) : Int) := by
  rw [wrap_nat q (by omega)]
  unfold wrap64; omega
theorem partsS_disj {near : Int → Int → Bool} {n : Nat} {c : Int} {r : List Int} (hn : (c :: r).Nodup) : ∀ P0 rest, partsS near (n + 1) (c :: r) = P0 :: rest → ∀ P ∈ rest, ∀ x ∈ P, x ∉ P0 := by
  intro P0 rest h P hP x hx hx0
  rw [partsS] at h
  injection h with h1 h2
  obtain ⟨_, hp⟩ := growP_flood near c r hn
  have hnd := hp.nodup_iff.2 hn
  rw [← h2] at hP
  have k := (partsS_in near _ _ P hP).2 x hx
  rw [← h1] at hx0
  exact (List.nodup_append.1 hnd).2.2 x ((List.mergeSort_perm ..).mem_iff.1 hx0) x k rfl
theorem parts_apart {near : Int → Int → Bool} {l : List Int} (hn : l.Nodup) {i : Nat} (hi : i < (partsS near l.length l).length) (h0 : i ≠ 0) : ∀ x ∈ (partsS near l.length l).getD i [], x ∉ (partsS near l.length l).getD 0 [] := by
  cases l with
  | nil => rw [partsS_nil] at hi; exact absurd hi (Nat.not_lt_zero _)
  | cons c r =>
    rw [List.length_cons] at hi ⊢
    generalize he : partsS near (r.length + 1) (c :: r) = ps at hi ⊢
    cases ps with
    | nil => exact absurd hi (Nat.not_lt_zero _)
    | cons P0 rest =>
      obtain ⟨j, rfl⟩ : ∃ j, i = j + 1 := ⟨i - 1, by omega⟩
      intro x hx
      rw [List.getD_cons_succ] at hx
      rw [List.getD_cons_zero]
      exact partsS_disj hn P0 rest he _ (getD_memL (by simpa using hi)) x hx
theorem foldl_bestF_mem (l : List Int) : ∀ (q : List Int) (b : Int), q.foldl (bestF l) b = b ∨ q.foldl (bestF l) b ∈ q
  | [], b => .inl rfl
  | x :: q, b => by
    rw [List.foldl_cons]
    rcases foldl_bestF_mem l q (bestF l b x) with e | e
    · rw [e]
      unfold bestF
      split
      · exact .inr (List.mem_cons_self ..)
      · exact .inl rfl
    · exact .inr (List.mem_cons_of_mem _ e)
theorem bestOf_mem {l P : List Int} (hP : P ≠ []) : bestOf l P ∈ P := by
  have h0 : 0 < P.length := List.length_pos_iff.2 hP
  unfold bestOf
  rcases foldl_bestF_mem l (P.drop 1) (P.getD 0 0) with e | e
  · rw [e]; exact getD_memF h0
  · exact List.mem_of_mem_drop e
theorem hasCell_f (w h : Int) (l : List Int) (hw : 1 ≤ w ∧ w ≤ 8) (hh : 1 ≤ h ∧ h ≤ 8) (x y : Int) : impl_hasCell.f w h l x y = some (decide (0 ≤ x ∧ x ≤ w - 1) && decide (0 ≤ y ∧ y ≤ h - 1)) := by
  unfold impl_hasCell.f
  rw [show wrap64 (w - 1) = w - 1 from by unfold wrap64; omega, show wrap64 (h - 1) = h - 1 from by unfold wrap64; omega]
  simp only [within_f, Option.bind_some, decide_eq_true_eq]
  by_cases h1 : 0 ≤ x ∧ x ≤ w - 1
  · rw [if_pos h1, decide_eq_true h1]; rfl
  · rw [if_neg h1, decide_eq_false h1]; rfl
structure StTold (w h : Int) (l : List Int) (m : Int) (ss : List S49) : Prop where
  len : ss.length ≤ 5
  cell : ∀ i, i < ss.length → impl_CellAt.f w h l (ss.getD i z49).f0 (ss.getD i z49).f1 = some ((ss.getD i z49).f3, true)
  above : ∀ i, i < ss.length → m < (ss.getD i z49).f3
  good : ∀ i, i < ss.length → stormB (ss.getD i z49) = true
  apart : ∀ i, i < ss.length → (dist (ss.getD i z49) (ss.getD 0 z49) = 0 ↔ i = 0)
theorem told_nil (w h : Int) (l : List Int) (m : Int) : StTold w h l m [] :=
  ⟨Nat.zero_le _, fun i hi => absurd hi (Nat.not_lt_zero i), fun i hi => absurd hi (Nat.not_lt_zero i), fun i hi => absurd hi (Nat.not_lt_zero i), fun i hi => absurd hi (Nat.not_lt_zero i)⟩
theorem absI_zero (x : Int) : absI x = 0 ↔ x = 0 := by unfold absI; split <;> omega
theorem absI_nn (x : Int) : 0 ≤ absI x := by unfold absI; split <;> omega
set_option maxHeartbeats 4000000 in
theorem stormsR_told (w h : Int) (l : List Int) (m : Int) : StTold w h l m (stormsR w h l m).1 := by
  unfold stormsR
  by_cases ho : okF w h l = true
  · rw [if_pos ho]
    obtain ⟨h1, h2, h3, h4⟩ := okF_shape ho
    have hcells := ((okF_iff w h l).1 ho).2
    obtain ⟨u, rfl⟩ : ∃ u : Nat, w = (u : Int) := ⟨w.toNat, by omega⟩
    obtain ⟨v, rfl⟩ : ∃ v : Nat, h = (v : Int) := ⟨h.toNat, by omega⟩
    have hlen : l.length = u * v := by
      have : ((u * v : Nat) : Int) = (u : Int) * (v : Int) := by simp
      omega
    have hap : ∀ i, i < (partsS (nearF (u : Int)) (above l m).length (above l m)).length → i ≠ 0 → ∀ x ∈ (partsS (nearF (u : Int)) (above l m).length (above l m)).getD i [], x ∉ (partsS (nearF (u : Int)) (above l m).length (above l m)).getD 0 [] := fun i hi h0 => parts_apart (above_nodup l m) hi h0
    have hin := partsS_in (nearF (u : Int)) (above l m).length (above l m)
    have hpl := partsS_len (nearF (u : Int)) (above l m).length (above l m)
    have hal := above_len l m
    by_cases e5 : ((partsS (nearF (u : Int)) (above l m).length (above l m)).length : Int) > 5
    · rw [if_pos e5]; exact told_nil ..
    · rw [if_neg e5]
      dsimp only
      generalize partsS (nearF (u : Int)) (above l m).length (above l m) = ps at *
      have hgm : ∀ i, i < ps.length → (ps.map (stormOf (u : Int) l)).getD i z49 = stormOf (u : Int) l (ps.getD i []) := by
        intro i hi
        rw [Gen.getD_lt _ _ i (by rw [List.length_map]; exact hi), List.getElem_map, Gen.getD_lt ps [] i hi]
      have place : ∀ i, i < ps.length → ∃ j : Nat, bestOf l (ps.getD i []) = (j : Int) ∧ (j : Int) ∈ ps.getD i [] ∧ j < l.length ∧ l.getD j 0 ≠ -9999 ∧ m < l.getD j 0 ∧ cellB (l.getD j 0) = true ∧ 1 ≤ (ps.getD i []).length ∧ (ps.getD i []).length ≤ 64 ∧
          stormOf (u : Int) l (ps.getD i []) = ⟨((j % u : Nat) : Int), ((j / u : Nat) : Int), ((ps.getD i []).length : Int), l.getD j 0⟩ := by
        intro i hi
        obtain ⟨hne, hsub⟩ := hin _ (getD_memL hi)
        have hm := bestOf_mem (l := l) hne
        obtain ⟨j, ej, hj, hj2, hj3⟩ := above_mem (hsub _ hm)
        have hl1 := hpl _ (getD_memL hi)
        refine ⟨j, ej, by rw [← ej]; exact hm, hj, hj2, hj3, hcells _ (getD_memF hj), List.length_pos_iff.2 hne, by omega, ?_⟩
        unfold stormOf stV
        rw [ej, ← Int.ofNat_tmod, ← Int.ofNat_tdiv, rdI]
        have : j / u ≤ j := Nat.div_le_self _ _
        rw [wrap_nat (j / u) (by omega)]
      have inside : ∀ j, j < l.length → j % u ≤ 7 ∧ j % u < u ∧ j / u ≤ 7 ∧ j / u < v ∧ u * (j / u) + j % u = j := by
        intro j hj
        have a1 : j % u < u := Nat.mod_lt _ (by omega)
        have a2 : j / u < v := Nat.div_lt_of_lt_mul (by omega)
        exact ⟨by omega, a1, by omega, a2, Nat.div_add_mod j u⟩
      refine ⟨by rw [List.length_map]; omega, fun i hi => ?_, fun i hi => ?_, fun i hi => ?_, fun i hi => ?_⟩
      · rw [List.length_map] at hi
        obtain ⟨j, e1, e2, e3, e4, e5', e6, e7, e8, e9⟩ := place i hi
        obtain ⟨b1, b2, b3, b4, b5⟩ := inside j e3
        rw [hgm i hi, e9]
        dsimp only
        unfold impl_CellAt.f
        rw [validF_f, ho, Option.bind_some, if_pos rfl, hasCell_f _ _ _ h1 h2]
        generalize j % u = x at *
        generalize j / u = y at *
        rw [decide_eq_true (show 0 ≤ (x : Int) ∧ (x : Int) ≤ (u : Int) - 1 by omega), decide_eq_true (show 0 ≤ (y : Int) ∧ (y : Int) ≤ (v : Int) - 1 by omega)]
        have ei : wrap64 (wrap64 ((y : Int) * (u : Int)) + (x : Int)) = (j : Int) := by
          rw [← Int.natCast_mul, Nat.mul_comm y u, wrap_two (u * y) x (Nat.le_trans (Nat.le_of_eq b5) (Nat.le_trans (Nat.le_of_lt e3) (Nat.le_trans h4 (by decide)))), b5]
        rw [Option.bind_some, if_pos (show (true && true) = true from rfl), ei, if_pos (Int.natCast_nonneg j), if_pos (Int.ofNat_lt.2 e3), rdI]
      · rw [List.length_map] at hi
        obtain ⟨j, e1, e2, e3, e4, e5', e6, e7, e8, e9⟩ := place i hi
        rw [hgm i hi, e9]
        exact e5'
      · rw [List.length_map] at hi
        obtain ⟨j, e1, e2, e3, e4, e5', e6, e7, e8, e9⟩ := place i hi
        obtain ⟨b1, b2, b3, b4, b5⟩ := inside j e3
        rw [hgm i hi, e9]
        clear e1 e9
        generalize j % u = x at *
        generalize j / u = y at *
        unfold stormB
        have hc : -9000 ≤ l.getD j 0 ∧ l.getD j 0 ≤ 9000 := by
          unfold cellB at e6
          rw [Bool.or_eq_true, decide_eq_true_eq, decide_eq_true_eq] at e6
          exact e6.resolve_left e4
        simp only [Bool.and_eq_true, decide_eq_true_eq]
        exact ⟨by omega, by omega, by omega, hc⟩
      · rw [List.length_map] at hi
        obtain ⟨j, e1, e2, e3, e4, e5', e6, e7, e8, e9⟩ := place i hi
        obtain ⟨j', f1, f2, f3, f4, f5', f6, f7, f8, f9⟩ := place 0 (by omega)
        obtain ⟨b1, b2, b3, b4, b5⟩ := inside j e3
        obtain ⟨d1, d2, d3, d4, d5⟩ := inside j' f3
        rw [hgm i hi, hgm 0 (by omega), e9, f9]
        unfold dist
        dsimp only
        constructor
        · intro hd
          have n1 := absI_nn (((j % u : Nat) : Int) - ((j' % u : Nat) : Int))
          have n2 := absI_nn (((j / u : Nat) : Int) - ((j' / u : Nat) : Int))
          have z1 := (absI_zero (((j % u : Nat) : Int) - ((j' % u : Nat) : Int))).1 (by omega)
          have z2 := (absI_zero (((j / u : Nat) : Int) - ((j' / u : Nat) : Int))).1 (by omega)
          have ejj : j = j' := by
            have e1' : j % u = j' % u := by omega
            have e2' : j / u = j' / u := by omega
            rw [← b5, ← d5, e1', e2']
          subst ejj
          refine Decidable.byContradiction fun hne => ?_
          exact hap i hi hne _ e2 f2
        · rintro rfl
          have ejj : j = j' := by
            have := e1.symm.trans f1
            omega
          subst ejj
          rw [(absI_zero _).2 (by omega), (absI_zero _).2 (by omega)]
          rfl
  · rw [if_neg ho]; exact told_nil ..
end Go.Proofs.Ytpdeapefekbdpaa.Q
set_option linter.unusedVariables false
set_option linter.unusedSimpArgs false
namespace Go.Proofs.Ytpdeapefekbdpaa.Pure
open Go.RowKit Go.Proofs.YtpdeapefekbdpaaW.PrintWords Go.Proofs.Ytpdeapefekbdpaa.Tells Go.Proofs.Ytpdeapefekbdpaa.Q Go.Proofs.Ytpdeapefekbdpaa.Gen
theorem ev_vS (ss : List S49) (hl : ss.length ≤ 1048576) : Ev (fun k => laws_vStorms.f k ss ss) true := by
  unfold laws_vStorms.f
  refine Ev.congr (fun k => if_pos rfl) ?_
  have key := ev_fold (fun k (_ : Unit) i => laws_vStorms.l0 k ss ss i) ss.length (fun s _ => s) (fun _ => true) (fun _ _ => True)
    (by
      intro i s r hi hs
      refine ⟨trivial, fun he => Ev.congr (fun k => ?_) he⟩
      simp only [laws_vStorms.l0]
      rw [if_pos (by omega), if_pos (by omega), if_pos (by omega), if_neg (by simp), wrapS i (by omega)])
    (by
      intro s hs
      refine Ev.eq_now fun k => ?_
      simp only [laws_vStorms.l0]
      rw [if_neg (by omega)])
    () trivial
  exact key
theorem tracks_l0 (w h : Int) (l : List Int) (m : Int) (ss : List S49) (ht : StTold w h l m ss) : ∀ d i, i + d = ss.length → Ev (fun k => laws_FnTracks.l0 k m ss (i : Int) w h l) true := by
  have hlen := ht.len
  intro d
  induction d with
  | zero =>
    intro i hi
    refine Ev.unr (Ev.eq_now fun k => ?_)
    simp only [laws_FnTracks.l0]
    rw [if_neg (by omega)]
  | succ d ih =>
    intro i hi
    have hil : i < ss.length := by omega
    have h0 : 0 < ss.length := by omega
    have hc := ht.cell i hil
    have ha := ht.above i hil
    have hg := ht.good i hil
    have hg0 := ht.good 0 h0
    have hap := ht.apart i hil
    have hd : impl_StormDistance.f (ss.getD i z49).f0 (ss.getD i z49).f1 (ss.getD i z49).f2 (ss.getD i z49).f3 (ss.getD 0 z49).f0 (ss.getD 0 z49).f1 (ss.getD 0 z49).f2 (ss.getD 0 z49).f3 = some (dist (ss.getD i z49) (ss.getD 0 z49), true) := by
      unfold impl_StormDistance.f impl_areStorms.f
      have e1 : badS (ss.getD i z49) = false := by unfold badS; rw [hg]; rfl
      have e2 : badS (ss.getD 0 z49) = false := by unfold badS; rw [hg0]; rfl
      have e3 : ([(ss.getD i z49), (ss.getD 0 z49)] : List S49).any badS = false := by simp only [List.any_cons, List.any_nil, e1, e2, Bool.or_false]
      rw [show (decide (([(⟨(ss.getD i z49).f0, (ss.getD i z49).f1, (ss.getD i z49).f2, (ss.getD i z49).f3⟩ : S49), (⟨(ss.getD 0 z49).f0, (ss.getD 0 z49).f1, (ss.getD 0 z49).f2, (ss.getD 0 z49).f3⟩ : S49)] : List S49).length ≤ 5) && !(([(⟨(ss.getD i z49).f0, (ss.getD i z49).f1, (ss.getD i z49).f2, (ss.getD i z49).f3⟩ : S49), (⟨(ss.getD 0 z49).f0, (ss.getD 0 z49).f1, (ss.getD 0 z49).f2, (ss.getD 0 z49).f3⟩ : S49)] : List S49).any badS)) = true from by
        rw [Bool.and_eq_true]
        exact ⟨decide_eq_true (by simp), by rw [Bool.not_eq_true']; exact e3⟩]
      rw [Option.bind_some, if_pos rfl, implDist_f hg hg0, Option.bind_some]
    have hd0 := dist_le hg hg0
    refine Ev.unr (Ev.congr (fun k => ?_) (ih (i + 1) (by omega)))
    simp only [laws_FnTracks.l0]
    rw [if_pos (by omega), if_pos (by omega), rdW, show rd_T49 ss 0 = ss.getD 0 z49 from rfl, hc, Option.bind_some, if_pos (by omega), hd, Option.bind_some]
    dsimp only
    rw [if_pos rfl, if_pos rfl, if_neg (by omega), if_pos rfl, if_neg (by omega), wrapS i (by omega)]
    rw [if_neg]
    have e : (dist (ss.getD i z49) (ss.getD 0 z49) == 0) = ((i : Int) == 0) := by
      rw [Bool.eq_iff_iff, beq_iff_eq, beq_iff_eq, hap]
      omega
    rw [e]
    simp
theorem FnTracks : ∀ (l : List Int), l.length ≤ maxLen → (∀ x ∈ l, 0 ≤ x ∧ x ≤ 255) → ∃ k, laws_FnTracks.f k l = some true := by
  intro l _ hx
  refine Ev.rounds ?_
  unfold laws_FnTracks.f
  refine Ev.bind (f := fun k t => _) (Ev.eq_now fun k => (show laws_vBig.f l = some (decide ((l.length : Int) > 65536)) from rfl)) ?_
  by_cases hl : (l.length : Int) > 65536
  · exact Ev.congr (fun k => if_pos (decide_eq_true hl)) (Ev.now _)
  refine Ev.congr (fun k => if_neg (by rw [decide_eq_true_eq]; exact hl)) ?_
  have hc : Cod l := ⟨by omega, hx⟩
  obtain ⟨ls, p, a, b, e, hs⟩ := drawTL_ok hc
  obtain ⟨w, h, L, m, eS, hL⟩ := drawSO_ok hc
  have j2 : Ev (fun k => laws_FnTracks.j2 k l) true := by
    refine Ev.unr ?_
    simp only [laws_FnTracks.j2]
    refine Ev.bind (f := fun k t => _) eS ?_
    refine Ev.bind (f := fun k t => _) (ev_implStorms w h L m) ?_
    refine Ev.bind (f := fun k t => _) (ev_specStorms w h L m) ?_
    have ht := stormsR_told w h L m
    generalize stormsR w h L m = v at ht
    refine Ev.congr (fun k => if_neg (by simp)) ?_
    refine Ev.bind (f := fun k t => _) (ev_vS v.1 (by have := ht.len; omega)) ?_
    refine Ev.unr ?_
    simp only [laws_FnTracks.j3]
    refine Ev.congr (fun k => if_neg (by simp)) ?_
    exact tracks_l0 w h L m v.1 ht v.1.length 0 (by omega)
  have hsp := ev_specTL ls (by have := hs.1; omega) (fun x hx => by have := hs.2 x hx; omega) p
  have him := ev_implTL ls (by have := hs.1; omega) (fun x hx => by have := hs.2 x hx; omega) p
  refine Ev.bind (f := fun k t => _) e ?_
  refine Ev.bind (f := fun k t => _) (him a b) ?_
  refine Ev.bind (f := fun k t => _) (hsp a b) ?_
  refine Ev.congr (fun k => if_pos rfl) (Ev.unr ?_)
  simp only [laws_FnTracks.j0]
  refine Ev.congr (fun k => if_neg (by simp)) ?_
  refine Ev.bind (f := fun k t => _) (ev_implLT ls p) ?_
  refine Ev.bind (f := fun k t => _) (ev_specLT ls p) ?_
  refine Ev.congr (fun k => (if_pos rfl).trans (if_pos rfl)) (Ev.unr ?_)
  simp only [laws_FnTracks.j1]
  refine Ev.congr (fun k => if_neg (by simp)) ?_
  by_cases hf : (longR ls p).2.2 = true
  · obtain ⟨best, h1, h2, h3⟩ := long_facts ls p hf
    refine Ev.congr (fun k => if_pos hf) ?_
    have hi2 := him (longR ls p).1 (longR ls p).2.1
    rw [h1] at hi2
    refine Ev.bind (f := fun k t => _) hi2 ?_
    refine Ev.congr (fun k => (if_pos rfl).trans (if_neg (by dsimp only; omega))) ?_
    have h4 := h3 a b
    generalize lengthR ls p a b = v at h4
    by_cases hv : v.2 = true
    · have := h4 hv
      refine Ev.congr (fun k => (if_pos hv).trans (if_neg (by dsimp only; omega))) j2
    · exact Ev.congr (fun k => if_neg hv) j2
  · exact Ev.congr (fun k => if_neg hf) j2
end Go.Proofs.Ytpdeapefekbdpaa.Pure
