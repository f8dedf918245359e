/- The common sides of two areas: both programs count the same. -/
import Derived.Test.YtlcpbhcgncljiaaQf43
import Derived.Test.YtlcpbhcgncljiaaQf44
import Derived.Test.YtlcpbhcgncljiaaLaArea
namespace Go.Proofs.Ytlcpbhcgncljiaa.Q
open Go.RowKit Go.Proofs.YtlcpbhcgncljiaaW.PrintWords Go.Proofs.Ytlcpbhcgncljiaa.Gen
set_option linter.unusedVariables false
set_option linter.unusedSimpArgs false
/-! Sums. -/
/-- The sum of f below n. -/
def sumN (n : Nat) (f : Nat → Nat) : Nat := match n with
  | 0 => 0
  | n + 1 => sumN n f + f n
theorem sumN_congr {n : Nat} {f g : Nat → Nat} (h : ∀ i, i < n → f i = g i) : sumN n f = sumN n g := by
  induction n with
  | zero => rfl
  | succ n ih => unfold sumN; rw [ih (fun i hi => h i (by omega)), h n (by omega)]
theorem sumN_add (n : Nat) (f g : Nat → Nat) : sumN n (fun i => f i + g i) = sumN n f + sumN n g := by
  induction n with
  | zero => rfl
  | succ n ih => unfold sumN; rw [ih]; omega
theorem sumN_zero (n : Nat) : sumN n (fun _ => 0) = 0 := by
  induction n with
  | zero => rfl
  | succ n ih => unfold sumN; rw [ih]
theorem sumN_swap (n m : Nat) (f : Nat → Nat → Nat) : sumN n (fun i => sumN m (fun j => f i j)) = sumN m (fun j => sumN n (fun i => f i j)) := by
  induction n with
  | zero => exact (sumN_zero m).symm
  | succ n ih => rw [show sumN (n + 1) (fun i => sumN m fun j => f i j) = sumN n (fun i => sumN m fun j => f i j) + sumN m (fun j => f n j) from rfl, ih, ← sumN_add]; rfl
/-- A sum with one place that counts. -/
theorem sumN_one (n c : Nat) (f : Nat → Nat) : sumN n (fun j => if j = c then f j else 0) = if c < n then f c else 0 := by
  induction n with
  | zero => rfl
  | succ n ih =>
    unfold sumN
    rw [ih]
    by_cases h : n = c
    · subst h; rw [if_neg (Nat.lt_irrefl _), if_pos rfl, if_pos (by omega)]; omega
    · rw [if_neg h]
      by_cases h2 : c < n
      · rw [if_pos h2, if_pos (by omega)]; omega
      · rw [if_neg h2, if_neg (by omega)]
/-- The places below w * h, row by row. -/
theorem sumN_grid (w h : Nat) (f : Nat → Nat) : sumN (w * h) f = sumN h (fun y => sumN w (fun x => f (w * y + x))) := by
  induction h with
  | zero => rfl
  | succ h ih =>
    have key : ∀ m, sumN (w * h + m) f = sumN (w * h) f + sumN m (fun x => f (w * h + x)) := by
      intro m
      induction m with
      | zero => rfl
      | succ m im =>
        show sumN (w * h + m) f + f (w * h + m) = sumN (w * h) f + (sumN m (fun x => f (w * h + x)) + f (w * h + m))
        rw [im, Nat.add_assoc]
    rw [Nat.mul_succ, key, ih]
    rfl
/-- 0 or 1. -/
def tick (p : Prop) [Decidable p] : Nat := if p then 1 else 0
theorem tick_pos {p : Prop} [Decidable p] (h : p) : tick p = 1 := if_pos h
theorem tick_neg {p : Prop} [Decidable p] (h : ¬p) : tick p = 0 := if_neg h
theorem length_filter_sum (n : Nat) (p : Nat → Bool) : ((List.range n).filter p).length = sumN n (fun i => tick (p i = true)) := by
  induction n with
  | zero => rfl
  | succ n ih =>
    rw [List.range_succ, List.filter_append, List.length_append, ih]
    show _ = sumN n _ + tick _
    congr 1
    unfold tick
    by_cases h : p n = true
    · rw [if_pos h]; simp [h]
    · rw [if_neg h]; simp [h]
/-- Two cells have a side in common. -/
def nearB (w i j : Nat) : Bool := decide ((i % w = j % w ∧ (i / w = j / w + 1 ∨ j / w = i / w + 1)) ∨ (i / w = j / w ∧ (i % w = j % w + 1 ∨ j % w = i % w + 1)))
theorem absOf_f (a : Int) (h : -1000 ≤ a ∧ a ≤ 1000) : impl_absOf.f a = some (if a < 0 then -a else a) := by
  unfold impl_absOf.f
  by_cases c : a < 0
  · rw [if_pos c, if_pos c]; congr 1; unfold wrap64; omega
  · rw [if_neg c, if_neg c]
theorem near_f (w i j : Nat) (hw : 1 ≤ w ∧ w ≤ 8) (hi : i < 64) (hj : j < 64) : impl_areConnected.f (w : Int) (i : Int) (j : Int) = some (nearB w i j) := by
  unfold impl_areConnected.f
  have h1 : i % w < w := Nat.mod_lt _ (by omega)
  have h2 : j % w < w := Nat.mod_lt _ (by omega)
  have h3 : i / w ≤ i := Nat.div_le_self _ _
  have h4 : j / w ≤ j := Nat.div_le_self _ _
  rw [if_neg (by omega), Int.ofNat_tmod .. |>.symm, Int.ofNat_tmod .. |>.symm, Int.ofNat_tdiv .. |>.symm, Int.ofNat_tdiv .. |>.symm]
  unfold nearB
  generalize i % w = a at *
  generalize j % w = b at *
  generalize i / w = c at *
  generalize j / w = d at *
  rw [show wrap64 ((a : Int) - (b : Int)) = (a : Int) - b from by unfold wrap64; omega, show wrap64 (c : Int) = c from by unfold wrap64; omega, show wrap64 (d : Int) = d from by unfold wrap64; omega, show wrap64 ((c : Int) - (d : Int)) = (c : Int) - d from by unfold wrap64; omega, absOf_f _ (by omega), absOf_f _ (by omega)]
  simp only [Option.bind_some]
  congr 1
  rw [Bool.eq_iff_iff, beq_iff_eq, decide_eq_true_eq]
  by_cases e1 : (a : Int) - b < 0 <;> by_cases e2 : (c : Int) - d < 0
  · rw [if_pos e1, if_pos e2]; unfold wrap64; omega
  · rw [if_pos e1, if_neg e2]; unfold wrap64; omega
  · rw [if_neg e1, if_pos e2]; unfold wrap64; omega
  · rw [if_neg e1, if_neg e2]; unfold wrap64; omega
/-- The sides that areas a and b have in common, by pairs of cells. -/
def pairs (w : Nat) (l : List Int) (a b : Int) : Nat := sumN l.length fun i => sumN l.length fun j => tick (l.getD i 0 = a ∧ l.getD j 0 = b ∧ nearB w i j = true)
theorem foldl_map_sum (q : List Nat) (g : Nat → Nat) : ∀ s : Int, q.foldl (fun (s : Int) i => s + ((g i : Nat) : Int)) s = s + ((q.map g).sum : Nat) := by
  induction q with
  | nil => intro s; simp
  | cons x q ih => intro s; rw [List.foldl_cons, ih, List.map_cons, List.sum_cons]; omega
theorem sum_filter (n : Nat) (p : Nat → Bool) (g : Nat → Nat) : (((List.range n).filter p).map g).sum = sumN n (fun i => if p i = true then g i else 0) := by
  induction n with
  | zero => rfl
  | succ n ih =>
    rw [List.range_succ, List.filter_append, List.map_append, List.sum_append, ih]
    show _ = sumN n _ + (if p n = true then g n else 0)
    congr 1
    by_cases h : p n = true
    · rw [if_pos h]; simp [h]
    · rw [if_neg h]; simp [h]
/-- How many cells of area b lie beside cell i. -/
def beside (w : Nat) (l : List Int) (b : Int) (i : Nat) : Nat := ((cells l b).filter fun j => nearB w i j).length
theorem pairs_eq (w : Nat) (l : List Int) (a b : Int) : ((cells l a).map (beside w l b)).sum = pairs w l a b := by
  unfold cells pairs
  rw [sum_filter]
  refine sumN_congr fun i _ => ?_
  unfold beside cells
  rw [List.filter_filter, length_filter_sum]
  by_cases h : (l.getD i 0 == a) = true
  · rw [if_pos h]
    refine sumN_congr fun j _ => ?_
    have h' := beq_iff_eq.1 h
    unfold tick
    simp only [Bool.and_eq_true, beq_iff_eq]
    by_cases e : l.getD j 0 = b ∧ nearB w i j = true
    · rw [if_pos ⟨e.2, e.1⟩, if_pos ⟨h', e⟩]
    · rw [if_neg (fun c => e ⟨c.2, c.1⟩), if_neg (fun c => e c.2)]
  · rw [if_neg h, ← sumN_zero l.length]
    refine sumN_congr fun j _ => ?_
    unfold tick
    rw [if_neg (fun c => h (beq_iff_eq.2 c.1))]
theorem icells_getB (l : List Int) (a : Int) (j : Nat) (hj : j < (cells l a).length) : (icells l a).getD j 0 = (((cells l a).getD j 0 : Nat) : Int) := by
  unfold icells
  rw [getD_lt _ _ j (by simpa using hj), List.getElem_map, getD_lt _ _ j hj]
theorem cells_ltB {l : List Int} {a : Int} {j : Nat} (hj : j < (cells l a).length) : (cells l a).getD j 0 < l.length := by
  have h : (cells l a).getD j 0 ∈ cells l a := by rw [getD_lt _ _ j hj]; exact List.getElem_mem hj
  unfold cells at h
  exact List.mem_range.1 (List.mem_filter.1 h).1
/-- The program's count. -/
theorem ev_commonSides (w : Nat) (hw : 1 ≤ w ∧ w ≤ 8) (h : Int) (l : List Int) (hl : l.length ≤ 64) (a b : Int) : Ev (fun k => impl_commonSides.f k (w : Int) h l a b) ((pairs w l a b : Nat) : Int) := by
  unfold impl_commonSides.f
  refine Ev.bind (f := fun k t => _) (ev_cells (w : Int) h l (by omega) a) ?_
  have hca := cells_len l a
  have hcb := cells_len l b
  have hia : (icells l a).length = (cells l a).length := by simp [icells]
  have hib : (icells l b).length = (cells l b).length := by simp [icells]
  have hbes : ∀ i, beside w l b i ≤ 64 := fun i => by unfold beside; exact Nat.le_trans (List.length_filter_le _ _) (by omega)
  have key := ev_fold (fun k (s : Int) i => impl_commonSides.l0 k b s (icells l a) ((icells l a).length : Int) i (w : Int) h l) (cells l a).length (fun s i => s + ((beside w l b ((cells l a).getD i 0) : Nat) : Int)) (fun s => s) (fun i s => 0 ≤ s ∧ s ≤ 64 * (i : Int))
    (by
      intro i s r hi hs
      have hm := cells_ltB hi
      have hb := hbes ((cells l a).getD i 0)
      refine ⟨by omega, fun he => ?_⟩
      simp only [impl_commonSides.l0]
      refine Ev.congr (fun k => ?_) (Ev.bind (f := fun k t => impl_commonSides.l1 k b s (rd (icells l a) (i : Int)) (icells l a) ((icells l a).length : Int) (i : Int) t (t.length : Int) 0 (w : Int) h l) (ev_cells (w : Int) h l (by omega) b) ?_)
      · rw [if_pos (by omega), if_pos (by omega), if_pos (by omega)]
      rw [rdI, icells_getB l a i hi]
      generalize (cells l a).getD i 0 = c at hm hb he
      have key2 := ev_fold (fun k (s : Int) j => impl_commonSides.l1 k b s (c : Int) (icells l a) ((icells l a).length : Int) (i : Int) (icells l b) ((icells l b).length : Int) j (w : Int) h l) (cells l b).length (fun s j => if nearB w c ((cells l b).getD j 0) = true then s + 1 else s) (fun _ => r) (fun j t => 0 ≤ t ∧ t ≤ 64 * (i : Int) + (j : Int) ∧ t = ((List.range j).foldl (fun s j => if nearB w c ((cells l b).getD j 0) = true then s + 1 else s) s))
        (by
          rintro j t r' hj ⟨ht0, ht1, ht2⟩
          have hn := cells_ltB hj
          have hstep : (List.range (j + 1)).foldl (fun (s : Int) j => if nearB w c ((cells l b).getD j 0) = true then s + 1 else s) s = if nearB w c ((cells l b).getD j 0) = true then t + 1 else t := by
            rw [List.range_succ, List.foldl_append, ← ht2]; rfl
          by_cases e : nearB w c ((cells l b).getD j 0) = true
          · rw [if_pos e]
            rw [if_pos e] at hstep
            refine ⟨⟨by omega, by omega, hstep.symm⟩, fun he => Ev.congr (fun k => ?_) he⟩
            simp only [impl_commonSides.l1]
            rw [if_pos (by omega), if_pos (by omega), if_pos (by omega), rdI, icells_getB l b j hj, near_f w c _ hw (by omega) (by omega), wrapS j (by omega), wrapS' t ht0 (by omega)]
            simp only [Option.bind_some]
            rw [if_pos e]
          · rw [if_neg e]
            rw [if_neg e] at hstep
            refine ⟨⟨by omega, by omega, hstep.symm⟩, fun he => Ev.congr (fun k => ?_) he⟩
            simp only [impl_commonSides.l1]
            rw [if_pos (by omega), if_pos (by omega), if_pos (by omega), rdI, icells_getB l b j hj, near_f w c _ hw (by omega) (by omega), wrapS j (by omega)]
            simp only [Option.bind_some]
            rw [if_neg e])
        (by
          rintro t ⟨ht0, ht1, ht2⟩
          have e : t = s + ((beside w l b c : Nat) : Int) := by
            rw [ht2, foldl_getD (cells l b) 0 (fun (s : Int) x => if nearB w c x = true then s + 1 else s), foldl_count (fun x => nearB w c x)]
            rfl
          rw [← e] at he
          refine Ev.congr (fun k => ?_) he
          simp only [impl_commonSides.l1]
          rw [if_neg (by omega), wrapS i (by omega)])
        s (by exact ⟨hs.1, by omega, rfl⟩)
      exact key2)
    (by
      intro s hs
      refine Ev.eq_now fun k => ?_
      simp only [impl_commonSides.l0]
      rw [if_neg (by omega)])
    0 (by simp)
  rw [foldl_getD (cells l a) 0 (fun (s : Int) x => s + ((beside w l b x : Nat) : Int)), foldl_map_sum, Int.zero_add, pairs_eq] at key
  exact key
/-! The reference: side by side. -/
def cell (w h : Nat) (l : List Int) (x y : Nat) : Int := if x < w ∧ y < h then l.getD (w * y + x) 0 else 0
theorem grid_lt {w h x y : Nat} (hx : x < w) (hy : y < h) : w * y + x < w * h := by
  have : w * (y + 1) ≤ w * h := Nat.mul_le_mul_left w hy
  rw [Nat.mul_succ] at this
  omega
theorem l1In_fB (a b c : Int) : spec_l1In.f a b c = some (decide (b ≤ a ∧ a ≤ c)) := l1In_f a b c
theorem at_f (w h : Nat) (hw : 1 ≤ w ∧ w ≤ 8) (hh : 1 ≤ h ∧ h ≤ 8) (l : List Int) (hl : l.length = w * h) (x y : Nat) (hx : x ≤ 8) (hy : y ≤ 8) : spec_l13At.f (w : Int) (h : Int) l (x : Int) (y : Int) = some (cell w h l x y) := by
  unfold spec_l13At.f cell
  rw [show wrap64 ((w : Int) - 1) = (w : Int) - 1 from by unfold wrap64; omega, show wrap64 ((h : Int) - 1) = (h : Int) - 1 from by unfold wrap64; omega]
  simp only [l1In_f, Option.bind_some, decide_eq_true_eq]
  by_cases h1 : x < w
  · rw [if_pos (by omega)]
    by_cases h2 : y < h
    · have hlt := grid_lt h1 h2
      have hle : w * h ≤ 64 := by
        have := Nat.mul_le_mul hw.2 hh.2
        omega
      rw [show (if x < w ∧ y < h then l.getD (w * y + x) 0 else 0) = l.getD (w * y + x) 0 from if_pos ⟨h1, h2⟩, if_pos (by omega)]
      have e0 : (w : Int) * (y : Int) = ((w * y : Nat) : Int) := by simp
      rw [e0, show wrap64 ((w * y : Nat) : Int) = ((w * y : Nat) : Int) from by unfold wrap64; omega, show wrap64 (((w * y : Nat) : Int) + (x : Int)) = ((w * y + x : Nat) : Int) from by unfold wrap64; omega]
      rw [if_pos (by omega), if_pos (by omega), rdI]
    · rw [if_neg (by omega), if_neg (fun c => h2 c.2)]
  · rw [if_neg (by omega), if_neg (fun c => h1 c.1)]
/-- The two cells belong to the two areas. -/
def two (a b p q : Int) : Prop := (p = a ∧ q = b) ∨ (p = b ∧ q = a)
instance (a b p q : Int) : Decidable (two a b p q) := by unfold two; exact inferInstance
/-- The sides of one cell to the right and below that count. -/
def sides (w h : Nat) (l : List Int) (a b : Int) (x y : Nat) : Nat := tick (two a b (cell w h l x y) (cell w h l (x + 1) y)) + tick (two a b (cell w h l x y) (cell w h l x (y + 1)))
def border (w h : Nat) (l : List Int) (a b : Int) : Nat := sumN h fun y => sumN w fun x => sides w h l a b x y
theorem sides_le (w h : Nat) (l : List Int) (a b : Int) (x y : Nat) : sides w h l a b x y ≤ 2 := by
  unfold sides tick; split <;> split <;> omega
theorem foldl_sum (n : Nat) (g : Nat → Nat) : ∀ s : Int, (List.range n).foldl (fun (s : Int) i => s + ((g i : Nat) : Int)) s = s + ((sumN n g : Nat) : Int) := by
  induction n with
  | zero => intro s; simp [sumN]
  | succ n ih =>
    intro s
    rw [List.range_succ, List.foldl_append, ih]
    show s + ((sumN n g : Nat) : Int) + ((g n : Nat) : Int) = s + ((sumN n g + g n : Nat) : Int)
    omega
theorem sumN_le (n c : Nat) (g : Nat → Nat) (h : ∀ i, g i ≤ c) : sumN n g ≤ n * c := by
  induction n with
  | zero => exact Nat.zero_le _
  | succ n ih => unfold sumN; rw [Nat.succ_mul]; have := h n; omega
theorem border_round (w h : Nat) (hw : 1 ≤ w ∧ w ≤ 8) (hh : 1 ≤ h ∧ h ≤ 8) (l : List Int) (hl : l.length = w * h) (a b s : Int) (x y : Nat) (hx : x < w) (hy : y < h) (hs : 0 ≤ s ∧ s ≤ 100000) (r : Int)
    (he : Ev (fun k => spec_l13Border.l1 k a b (s + ((sides w h l a b x y : Nat) : Int)) (y : Int) ((x + 1 : Nat) : Int) (w : Int) (h : Int) l) r) : Ev (fun k => spec_l13Border.l1 (k + 1) a b s (y : Int) (x : Int) (w : Int) (h : Int) l) r := by
  simp only [spec_l13Border.l1]
  refine Ev.congr (fun k => if_pos (by omega)) ?_
  rw [wrapS x (by omega), wrapS y (by omega), at_f w h hw hh l hl x y (by omega) (by omega), at_f w h hw hh l hl (x + 1) y (by omega) (by omega), at_f w h hw hh l hl x (y + 1) (by omega) (by omega)]
  simp only [Option.bind_some]
  unfold sides at he
  generalize cell w h l x y = p at he ⊢
  generalize cell w h l (x + 1) y = q at he ⊢
  generalize cell w h l x (y + 1) = t at he ⊢
  have w1 : wrap64 (s + 1) = s + 1 := wrapS' s hs.1 (by omega)
  have w2 : wrap64 (s + 1 + 1) = s + 2 := by rw [wrapS' (s + 1) (by omega) (by omega)]; omega
  have j2 : ∀ z : Bool, z = decide (two a b p q) → Ev (fun k => spec_l13Border.j2 k a b s (y : Int) (x : Int) p t z (w : Int) (h : Int) l) r := by
    intro z hz
    refine Ev.unr ?_
    simp only [spec_l13Border.j2]
    rw [w1, w2, wrapS x (by omega)]
    by_cases c1 : two a b p q
    · rw [decide_eq_true c1] at hz
      subst hz
      rw [tick_pos c1] at he
      by_cases c2 : two a b p t
      · rw [tick_pos c2, show s + ((1 + 1 : Nat) : Int) = s + 2 from by omega] at he
        refine Ev.congr (fun k => ?_) he
        rw [if_pos rfl]
        rcases c2 with ⟨d1, d2⟩ | ⟨d1, d2⟩
        · rw [if_pos d1, if_pos d2]
        · by_cases d3 : p = a
          · rw [if_pos d3]
            by_cases d4 : t = b
            · rw [if_pos d4]
            · rw [if_neg d4, if_pos d1, if_pos d2]
          · rw [if_neg d3, if_pos d1, if_pos d2]
      · rw [tick_neg c2, show s + ((1 + 0 : Nat) : Int) = s + 1 from by omega] at he
        refine Ev.congr (fun k => ?_) he
        rw [if_pos rfl]
        by_cases d3 : p = a
        · rw [if_pos d3, if_neg (fun e => c2 (.inl ⟨d3, e⟩))]
          by_cases d4 : p = b
          · rw [if_pos d4, if_neg (fun e => c2 (.inr ⟨d4, e⟩))]
          · rw [if_neg d4]
        · rw [if_neg d3]
          by_cases d4 : p = b
          · rw [if_pos d4, if_neg (fun e => c2 (.inr ⟨d4, e⟩))]
          · rw [if_neg d4]
    · rw [decide_eq_false c1] at hz
      subst hz
      rw [tick_neg c1] at he
      by_cases c2 : two a b p t
      · rw [tick_pos c2, show s + ((0 + 1 : Nat) : Int) = s + 1 from by omega] at he
        refine Ev.congr (fun k => ?_) he
        rw [if_neg (by decide)]
        rcases c2 with ⟨d1, d2⟩ | ⟨d1, d2⟩
        · rw [if_pos d1, if_pos d2]
        · by_cases d3 : p = a
          · rw [if_pos d3]
            by_cases d4 : t = b
            · rw [if_pos d4]
            · rw [if_neg d4, if_pos d1, if_pos d2]
          · rw [if_neg d3, if_pos d1, if_pos d2]
      · rw [tick_neg c2, show s + ((0 + 0 : Nat) : Int) = s from by omega] at he
        refine Ev.congr (fun k => ?_) he
        rw [if_neg (by decide)]
        by_cases d3 : p = a
        · rw [if_pos d3, if_neg (fun e => c2 (.inl ⟨d3, e⟩))]
          by_cases d4 : p = b
          · rw [if_pos d4, if_neg (fun e => c2 (.inr ⟨d4, e⟩))]
          · rw [if_neg d4]
        · rw [if_neg d3]
          by_cases d4 : p = b
          · rw [if_pos d4, if_neg (fun e => c2 (.inr ⟨d4, e⟩))]
          · rw [if_neg d4]
  by_cases d1 : p = a
  · refine Ev.congr (fun k => if_pos d1) ?_
    by_cases d2 : q = b
    · exact Ev.congr (fun k => if_pos d2) (j2 _ (decide_eq_true (.inl ⟨d1, d2⟩)).symm)
    · refine Ev.congr (fun k => if_neg d2) ?_
      by_cases d3 : p = b
      · refine Ev.congr (fun k => if_pos d3) (j2 _ ?_)
        rw [Bool.eq_iff_iff, decide_eq_true_eq, beq_iff_eq]
        exact ⟨fun e => .inr ⟨d3, e⟩, fun e => e.elim (fun e => absurd e.2 d2) (fun e => e.2)⟩
      · refine Ev.congr (fun k => if_neg d3) (j2 _ (decide_eq_false ?_).symm)
        rintro (e | e)
        · exact d2 e.2
        · exact d3 e.1
  · refine Ev.congr (fun k => if_neg d1) ?_
    by_cases d3 : p = b
    · refine Ev.congr (fun k => if_pos d3) (j2 _ ?_)
      rw [Bool.eq_iff_iff, decide_eq_true_eq, beq_iff_eq]
      exact ⟨fun e => .inr ⟨d3, e⟩, fun e => e.elim (fun e => absurd e.1 d1) (fun e => e.2)⟩
    · refine Ev.congr (fun k => if_neg d3) (j2 _ (decide_eq_false ?_).symm)
      rintro (e | e)
      · exact d1 e.1
      · exact d3 e.1
theorem ev_border (w h : Nat) (hw : 1 ≤ w ∧ w ≤ 8) (hh : 1 ≤ h ∧ h ≤ 8) (l : List Int) (hl : l.length = w * h) (a b : Int) : Ev (fun k => spec_l13Border.f k (w : Int) (h : Int) l a b) ((border w h l a b : Nat) : Int) := by
  unfold spec_l13Border.f
  have hrow : ∀ y, sumN w (fun x => sides w h l a b x y) ≤ 16 := fun y => Nat.le_trans (sumN_le w 2 _ (fun x => sides_le w h l a b x y)) (by omega)
  have key := ev_fold (fun k (s : Int) y => spec_l13Border.l0 k a b s y (w : Int) (h : Int) l) h (fun s y => s + ((sumN w (fun x => sides w h l a b x y) : Nat) : Int)) (fun s => s) (fun y s => 0 ≤ s ∧ s ≤ 16 * (y : Int))
    (by
      intro y s r hy hs
      have hr := hrow y
      refine ⟨by omega, fun he => ?_⟩
      simp only [spec_l13Border.l0]
      refine Ev.congr (fun k => if_pos (by omega)) ?_
      have key2 := ev_fold (fun k (s : Int) x => spec_l13Border.l1 k a b s (y : Int) x (w : Int) (h : Int) l) w (fun s x => s + ((sides w h l a b x y : Nat) : Int)) (fun _ => r) (fun x t => 0 ≤ t ∧ t ≤ 16 * (y : Int) + 2 * (x : Int) ∧ t = (List.range x).foldl (fun (s : Int) x => s + ((sides w h l a b x y : Nat) : Int)) s)
        (by
          rintro x t r' hx ⟨h0, h1, h2⟩
          have hsd := sides_le w h l a b x y
          refine ⟨⟨by omega, by omega, by rw [List.range_succ, List.foldl_append, ← h2]; rfl⟩, fun he => ?_⟩
          exact border_round w h hw hh l hl a b t x y hx hy ⟨h0, by omega⟩ r' he)
        (by
          rintro t ⟨h0, h1, h2⟩
          have e : t = s + ((sumN w (fun x => sides w h l a b x y) : Nat) : Int) := by rw [h2, foldl_sum]
          rw [← e] at he
          refine Ev.congr (fun k => ?_) he
          simp only [spec_l13Border.l1]
          rw [if_neg (by omega), wrapS y (by omega)])
        s ⟨hs.1, by omega, rfl⟩
      exact key2)
    (by
      intro s hs
      refine Ev.eq_now fun k => ?_
      simp only [spec_l13Border.l0]
      rw [if_neg (by omega)])
    0 (by simp)
  rw [foldl_sum, Int.zero_add] at key
  exact key
/-! Pairs of cells and sides: the same number. -/
theorem at_mod {w x : Nat} (y : Nat) (hx : x < w) : (w * y + x) % w = x ∧ (w * y + x) / w = y :=
  ⟨by rw [Nat.mul_add_mod, Nat.mod_eq_of_lt hx], by rw [Nat.mul_add_div (by omega), Nat.div_eq_of_lt hx, Nat.add_zero]⟩
def rightP (w i j : Nat) : Prop := j / w = i / w ∧ j % w = i % w + 1
def downP (w i j : Nat) : Prop := j % w = i % w ∧ j / w = i / w + 1
instance (w i j : Nat) : Decidable (rightP w i j) := by unfold rightP; exact inferInstance
instance (w i j : Nat) : Decidable (downP w i j) := by unfold downP; exact inferInstance
theorem right_iff {w x : Nat} (y j : Nat) (hx : x < w) : rightP w (w * y + x) j ↔ (x + 1 < w ∧ j = w * y + (x + 1)) := by
  unfold rightP
  rw [(at_mod y hx).1, (at_mod y hx).2]
  constructor
  · rintro ⟨h1, h2⟩
    have h3 := Nat.div_add_mod j w
    have h4 : j % w < w := Nat.mod_lt _ (by omega)
    rw [h1, h2] at h3
    exact ⟨by omega, by omega⟩
  · rintro ⟨h1, rfl⟩
    exact ⟨(at_mod y h1).2, (at_mod y h1).1⟩
theorem down_iff {w x : Nat} (y j : Nat) (hx : x < w) : downP w (w * y + x) j ↔ j = w * (y + 1) + x := by
  unfold downP
  rw [(at_mod y hx).1, (at_mod y hx).2]
  constructor
  · rintro ⟨h1, h2⟩
    have h3 := Nat.div_add_mod j w
    rw [h1, h2] at h3
    exact h3.symm
  · rintro rfl
    exact ⟨(at_mod (y + 1) hx).1, (at_mod (y + 1) hx).2⟩
theorem tick_congr {p q : Prop} [Decidable p] [Decidable q] (h : p ↔ q) : tick p = tick q := by
  by_cases hp : p
  · rw [tick_pos hp, tick_pos (h.1 hp)]
  · rw [tick_neg hp, tick_neg (fun c => hp (h.2 c))]
theorem near_ticks (a b c d : Nat) : tick ((a = b ∧ (c = d + 1 ∨ d = c + 1)) ∨ (c = d ∧ (a = b + 1 ∨ b = a + 1))) = (tick (d = c ∧ b = a + 1) + tick (c = d ∧ a = b + 1)) + (tick (b = a ∧ d = c + 1) + tick (a = b ∧ c = d + 1)) := by
  unfold tick
  repeat' split
  all_goals omega
theorem near_split (w i j : Nat) (A B : Prop) [Decidable A] [Decidable B] : tick (A ∧ B ∧ nearB w i j = true) = (tick (A ∧ B ∧ rightP w i j) + tick (A ∧ B ∧ rightP w j i)) + (tick (A ∧ B ∧ downP w i j) + tick (A ∧ B ∧ downP w j i)) := by
  by_cases hA : A
  · by_cases hB : B
    · have e : ∀ (p : Prop) [Decidable p], tick (A ∧ B ∧ p) = tick p := fun p _ => by
        by_cases hp : p
        · rw [tick_pos ⟨hA, hB, hp⟩, tick_pos hp]
        · rw [tick_neg (fun c => hp c.2.2), tick_neg hp]
      rw [e, e, e, e, e]
      rw [tick_congr (p := nearB w i j = true) (q := (i % w = j % w ∧ (i / w = j / w + 1 ∨ j / w = i / w + 1)) ∨ (i / w = j / w ∧ (i % w = j % w + 1 ∨ j % w = i % w + 1))) (by unfold nearB; exact decide_eq_true_iff),
        tick_congr (p := rightP w i j) (q := j / w = i / w ∧ j % w = i % w + 1) Iff.rfl, tick_congr (p := rightP w j i) (q := i / w = j / w ∧ i % w = j % w + 1) Iff.rfl,
        tick_congr (p := downP w i j) (q := j % w = i % w ∧ j / w = i / w + 1) Iff.rfl, tick_congr (p := downP w j i) (q := i % w = j % w ∧ i / w = j / w + 1) Iff.rfl]
      exact near_ticks _ _ _ _
    · rw [tick_neg (fun c => hB c.2.1), tick_neg (fun c => hB c.2.1), tick_neg (fun c => hB c.2.1), tick_neg (fun c => hB c.2.1), tick_neg (fun c => hB c.2.1)]
  · rw [tick_neg (fun c => hA c.1), tick_neg (fun c => hA c.1), tick_neg (fun c => hA c.1), tick_neg (fun c => hA c.1), tick_neg (fun c => hA c.1)]
theorem two_split {a b : Int} (hab : a ≠ b) (p q : Int) (R : Prop) [Decidable R] : tick (p = a ∧ q = b ∧ R) + tick (q = a ∧ p = b ∧ R) = tick (two a b p q ∧ R) := by
  by_cases hR : R
  · by_cases h1 : p = a ∧ q = b
    · rw [tick_pos ⟨h1.1, h1.2, hR⟩, tick_neg (fun c => hab (by rw [← h1.1, c.2.1])), tick_pos ⟨.inl h1, hR⟩]
    · rw [tick_neg (fun c => h1 ⟨c.1, c.2.1⟩)]
      by_cases h2 : p = b ∧ q = a
      · rw [tick_pos ⟨h2.2, h2.1, hR⟩, tick_pos ⟨.inr h2, hR⟩]
      · rw [tick_neg (fun c => h2 ⟨c.2.1, c.1⟩), tick_neg (fun c => c.1.elim h1 h2)]
  · rw [tick_neg (fun c => hR c.2.2), tick_neg (fun c => hR c.2.2), tick_neg (fun c => hR c.2)]
theorem sum_place (n c : Nat) (P : Nat → Prop) [DecidablePred P] (R : Nat → Prop) [DecidablePred R] (hR : ∀ j, R j ↔ j = c) : sumN n (fun j => tick (P j ∧ R j)) = if c < n then tick (P c) else 0 := by
  rw [← sumN_one n c (fun j => tick (P j))]
  refine sumN_congr fun j _ => ?_
  by_cases h : j = c
  · rw [if_pos h]
    by_cases hp : P j
    · rw [tick_pos ⟨hp, (hR j).2 h⟩, tick_pos hp]
    · rw [tick_neg (fun d => hp d.1), tick_neg hp]
  · rw [if_neg h, tick_neg (fun d => h ((hR j).1 d.2))]
theorem sum_none (n : Nat) (P : Nat → Prop) [DecidablePred P] (h : ∀ j, ¬ P j) : sumN n (fun j => tick (P j)) = 0 := by
  rw [← sumN_zero n]
  exact sumN_congr fun j _ => tick_neg (h j)
theorem pairs_border (w h : Nat) (hw : 1 ≤ w) (l : List Int) (hl : l.length = w * h) (a b : Int) (ha : 0 < a) (hb : 0 < b) (hab : a ≠ b) : pairs w l a b = border w h l a b := by
  have h1 : pairs w l a b = sumN l.length fun i => sumN l.length (fun j => tick (two a b (l.getD i 0) (l.getD j 0) ∧ rightP w i j)) + sumN l.length (fun j => tick (two a b (l.getD i 0) (l.getD j 0) ∧ downP w i j)) := by
    unfold pairs
    simp only [near_split, sumN_add]
    rw [sumN_swap l.length l.length (fun i j => tick (l.getD i 0 = a ∧ l.getD j 0 = b ∧ rightP w j i)), sumN_swap l.length l.length (fun i j => tick (l.getD i 0 = a ∧ l.getD j 0 = b ∧ downP w j i))]
    rw [← sumN_add, ← sumN_add]
    congr 1
    · refine sumN_congr fun i _ => ?_
      rw [← sumN_add]
      exact sumN_congr fun j _ => two_split hab _ _ _
    · refine sumN_congr fun i _ => ?_
      rw [← sumN_add]
      exact sumN_congr fun j _ => two_split hab _ _ _
  rw [h1, hl, sumN_grid]
  unfold border
  refine sumN_congr fun y hy => sumN_congr fun x hx => ?_
  have hn := grid_lt hx hy
  have hc : cell w h l x y = l.getD (w * y + x) 0 := if_pos ⟨hx, hy⟩
  have out : ∀ p, ¬ two a b p 0 := by
    rintro p (⟨_, h2⟩ | ⟨_, h2⟩) <;> omega
  unfold sides
  rw [hc]
  congr 1
  · by_cases hx1 : x + 1 < w
    · rw [sum_place (w * h) (w * y + (x + 1)) _ _ (fun j => (right_iff y j hx).trans ⟨fun c => c.2, fun c => ⟨hx1, c⟩⟩), if_pos (grid_lt hx1 hy), show cell w h l (x + 1) y = l.getD (w * y + (x + 1)) 0 from if_pos ⟨hx1, hy⟩]
    · rw [sum_none _ _ (fun j c => hx1 ((right_iff y j hx).1 c.2).1), show cell w h l (x + 1) y = 0 from if_neg (fun c => hx1 c.1), tick_neg (out _)]
  · rw [sum_place (w * h) (w * (y + 1) + x) _ _ (fun j => down_iff y j hx)]
    by_cases hy1 : y + 1 < h
    · rw [if_pos (grid_lt hx hy1), show cell w h l x (y + 1) = l.getD (w * (y + 1) + x) 0 from if_pos ⟨hx, hy1⟩]
    · have : w * h ≤ w * (y + 1) := Nat.mul_le_mul_left w (by omega)
      rw [if_neg (by omega), show cell w h l x (y + 1) = 0 from if_neg (fun c => hy1 c.2), tick_neg (out _)]
/-- For valid maps and two areas: what both programs count. -/
def common (w h : Int) (l : List Int) (a b : Int) : Int := ((border w.toNat h.toNat l a b : Nat) : Int)
theorem ev_bothBorder {w h : Int} {l : List Int} (ho : okM w h l = true) (a b : Int) (ha : 0 < a) (hb : 0 < b) (hab : a ≠ b) :
    Ev (fun k => spec_l13Border.f k w h l a b) (common w h l a b) ∧ Ev (fun k => impl_commonSides.f k w h l a b) (common w h l a b) := by
  have hlen := okM_len ho
  unfold okM at ho
  obtain ⟨h1, h2, h3⟩ := (shapeB_iff _ _ _).1 (Bool.and_eq_true _ _ ▸ ho).1
  obtain ⟨u, rfl⟩ : ∃ u : Nat, w = (u : Int) := ⟨w.toNat, by omega⟩
  obtain ⟨v, rfl⟩ : ∃ v : Nat, h = (v : Int) := ⟨h.toNat, by omega⟩
  have hl : l.length = u * v := by
    have : ((u * v : Nat) : Int) = (u : Int) * (v : Int) := by simp
    omega
  unfold common
  rw [Int.toNat_natCast, Int.toNat_natCast]
  refine ⟨ev_border u v (by omega) (by omega) l hl a b, ?_⟩
  rw [← pairs_border u v (by omega) l hl a b ha hb hab]
  exact ev_commonSides u (by omega) (v : Int) l hlen a b
end Go.Proofs.Ytlcpbhcgncljiaa.Q
