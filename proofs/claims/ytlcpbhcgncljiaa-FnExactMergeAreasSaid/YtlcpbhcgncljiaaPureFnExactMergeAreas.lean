/- The two programs merge areas alike: for every map and areas. -/
import Derived.Test.YtlcpbhcgncljiaaQf6
import Derived.Test.YtlcpbhcgncljiaaLaArea
import Derived.Test.YtlcpbhcgncljiaaLaMarksA
namespace Go.Proofs.Ytlcpbhcgncljiaa.Q
open Go.RowKit Go.Proofs.YtlcpbhcgncljiaaW.PrintWords Go.Proofs.Ytlcpbhcgncljiaa.Gen
set_option linter.unusedVariables false
set_option linter.unusedSimpArgs false
/-- All cells of area b belong to area a. -/
def mergeL (l : List Int) (a b : Int) : List Int := l.map fun x => if x = b then a else x
theorem mergeL_len (l : List Int) (a b : Int) : (mergeL l a b).length = l.length := by simp [mergeL]
theorem mergeL_get (l : List Int) (a b : Int) (j : Nat) : (mergeL l a b)[j]? = l[j]?.map fun x => if x = b then a else x := by simp [mergeL]
def mergeR (w h : Int) (l : List Int) (a b : Int) : Int × Int × List Int × Bool := if ((thereB w h l a && thereB w h l b) && !(a == b)) = true then (w, h, mergeL l a b, true) else (0, 0, [], false)
theorem mergeR_len (w h : Int) (l : List Int) (a b : Int) : (mergeR w h l a b).2.2.1.length ≤ 64 := by
  unfold mergeR
  by_cases c : ((thereB w h l a && thereB w h l b) && !(a == b)) = true
  · rw [if_pos c]
    simp only [Bool.and_eq_true] at c
    have := c.1.1
    unfold thereB at this
    rw [Bool.and_eq_true] at this
    rw [mergeL_len]
    exact okM_len this.1
  · rw [if_neg c]; exact Nat.zero_le _
theorem own_f (l : List Int) (hl : l.length ≤ 1048576) : spec_l1Own.f l = some l := by
  unfold spec_l1Own.f
  simp only [Option.bind_some, List.nil_append, List.length_nil]
  rw [if_pos (by omega)]
theorem ev_specMergeL (w h : Int) (l : List Int) (hl : l.length ≤ 64) (a b : Int) : Ev (fun k => spec_MergeAreas.l0 k a b 0 w h l) (w, h, mergeL l a b, true) := by
  have key := ev_fold (fun k (s : List Int) i => spec_MergeAreas.l0 k a b i w h s) l.length (fun s i => if l.getD i 0 = b then s.set i a else s) (fun s => (w, h, s, true)) (fun i s => s.length = l.length ∧ ∀ j, i ≤ j → s[j]? = l[j]?)
    (by
      rintro i s r hi ⟨h1, h2⟩
      have hg : s.getD i 0 = l.getD i 0 := by rw [List.getD_eq_getElem?_getD, List.getD_eq_getElem?_getD, h2 i (Nat.le_refl _)]
      by_cases e : l.getD i 0 = b
      · rw [if_pos e]
        refine ⟨⟨by rw [List.length_set]; exact h1, fun j hj => ?_⟩, fun he => Ev.congr (fun k => ?_) he⟩
        · rw [List.getElem?_set_ne (by omega)]; exact h2 j (by omega)
        · simp only [spec_MergeAreas.l0]
          rw [if_pos (by omega), if_pos (by omega), rdI, hg, if_pos e, wrapS i (by omega)]
          rfl
      · rw [if_neg e]
        refine ⟨⟨h1, fun j hj => h2 j (by omega)⟩, fun he => Ev.congr (fun k => ?_) he⟩
        simp only [spec_MergeAreas.l0]
        rw [if_pos (by omega), if_pos (by omega), rdI, hg, if_neg e, wrapS i (by omega)])
    (by
      rintro s ⟨h1, _⟩
      refine Ev.eq_now fun k => ?_
      simp only [spec_MergeAreas.l0]
      rw [if_neg (by omega)])
    l ⟨rfl, fun _ _ => rfl⟩
  have hv : (List.range l.length).foldl (fun (s : List Int) i => if l.getD i 0 = b then s.set i a else s) l = mergeL l a b := by
    have hI := foldl_range_inv (f := fun (s : List Int) i => if l.getD i 0 = b then s.set i a else s) (fun i (s : List Int) => s.length = l.length ∧ ∀ j, s[j]? = if j < i then (mergeL l a b)[j]? else l[j]?) (n := l.length) (s := l) ⟨rfl, fun j => by simp⟩
      (by
        rintro i s hi ⟨h1, h2⟩
        by_cases e : l.getD i 0 = b
        · rw [if_pos e]
          refine ⟨by rw [List.length_set]; exact h1, fun j => ?_⟩
          by_cases c : j = i
          · subst c
            rw [List.getElem?_set_self (by omega), if_pos (by omega), mergeL_get, List.getElem?_eq_getElem hi]
            rw [getD_lt l 0 j hi] at e
            rw [Option.map_some, if_pos e]
          · rw [List.getElem?_set_ne (fun d => c d.symm), h2 j]
            by_cases d : j < i
            · rw [if_pos d, if_pos (by omega)]
            · rw [if_neg d, if_neg (by omega)]
        · rw [if_neg e]
          refine ⟨h1, fun j => ?_⟩
          rw [h2 j]
          by_cases c : j = i
          · subst c
            rw [if_neg (Nat.lt_irrefl _), if_pos (by omega), mergeL_get, List.getElem?_eq_getElem hi]
            rw [getD_lt l 0 j hi] at e
            rw [Option.map_some, if_neg e]
          · by_cases d : j < i
            · rw [if_pos d, if_pos (by omega)]
            · rw [if_neg d, if_neg (by omega)])
    apply List.ext_getElem?
    intro j
    rw [hI.2 j]
    by_cases d : j < l.length
    · rw [if_pos d]
    · rw [if_neg d, List.getElem?_eq_none (by omega), List.getElem?_eq_none (by rw [mergeL_len]; omega)]
  rw [hv] at key
  exact key
theorem ev_specMerge (w h : Int) (l : List Int) (a b : Int) : Ev (fun k => spec_MergeAreas.f k w h l a b) (mergeR w h l a b) := by
  unfold spec_MergeAreas.f mergeR
  have no : ∀ b', b' = true → Ev (fun k => spec_MergeAreas.j0 k a b b' w h l) (0, 0, [], false) := by
    rintro _ rfl
    exact Ev.unr (Ev.eq_now fun k => by simp only [spec_MergeAreas.j0]; rfl)
  refine Ev.bind (f := fun k t => _) (ev_there w h l a) ?_
  cases ht : thereB w h l a with
  | false => exact no _ rfl
  | true =>
    refine Ev.congr (fun k => if_pos rfl) ?_
    refine Ev.bind (f := fun k t => _) (ev_there w h l b) ?_
    cases ht2 : thereB w h l b with
    | false => exact no _ rfl
    | true =>
      refine Ev.congr (fun k => if_pos rfl) ?_
      cases hab : (a == b) with
      | true => exact no _ rfl
      | false =>
        have ho : okM w h l = true := by unfold thereB at ht; exact (Bool.and_eq_true _ _ ▸ ht).1
        have hl := okM_len ho
        refine Ev.unr ?_
        simp only [spec_MergeAreas.j0]
        refine Ev.congr (fun k => if_neg (by decide)) ?_
        refine Ev.bind (f := fun k t => _) (Ev.eq_now fun k => own_f l (by omega)) ?_
        exact ev_specMergeL w h l hl a b
theorem cells_memM {l : List Int} {a : Int} {j : Nat} : j ∈ cells l a ↔ j < l.length ∧ l.getD j 0 = a := by
  unfold cells
  rw [List.mem_filter, List.mem_range, beq_iff_eq]
theorem ev_implMergeL (w h : Int) (l : List Int) (hl : l.length ≤ 64) (a b : Int) : Ev (fun k => impl_MergeAreas.l0 k a (icells l b) ((icells l b).length : Int) 0 w h l) (w, h, mergeL l a b, true) := by
  have hcl := cells_len l b
  have hil : (icells l b).length = (cells l b).length := by simp [icells]
  have hget : ∀ j, j < (cells l b).length → (icells l b).getD j 0 = (((cells l b).getD j 0 : Nat) : Int) ∧ (cells l b).getD j 0 < l.length := fun j hj => by
    have hm : (cells l b).getD j 0 ∈ cells l b := by rw [getD_lt _ _ j hj]; exact List.getElem_mem hj
    refine ⟨?_, (cells_memM.1 hm).1⟩
    unfold icells
    rw [getD_lt _ _ j (by simpa using hj), List.getElem_map, getD_lt _ _ j hj]
  have key := ev_fold (fun k (s : List Int) i => impl_MergeAreas.l0 k a (icells l b) ((icells l b).length : Int) i w h s) (cells l b).length (fun s i => s.set ((cells l b).getD i 0) a) (fun s => (w, h, s, true)) (fun i s => s.length = l.length)
    (by
      intro i s r hi h1
      have hg := hget i hi
      refine ⟨by rw [List.length_set]; exact h1, fun he => Ev.congr (fun k => ?_) he⟩
      simp only [impl_MergeAreas.l0]
      rw [if_pos (by omega), if_pos (by omega), if_pos (by omega), rdI, hg.1, if_pos (by omega), if_pos (by omega), wrapS i (by omega), Int.toNat_natCast])
    (by
      intro s h1
      refine Ev.eq_now fun k => ?_
      simp only [impl_MergeAreas.l0]
      rw [if_neg (by omega)])
    l rfl
  rw [foldl_getD (cells l b) 0 (fun (s : List Int) x => s.set x a)] at key
  have hset : ∀ (q : List Nat) (s : List Int) (j : Nat), (q.foldl (fun (s : List Int) x => s.set x a) s)[j]? = if j ∈ q then (if j < s.length then some a else none) else s[j]? := by
    intro q
    induction q with
    | nil => intro s j; simp
    | cons x q ih =>
      intro s j
      rw [List.foldl_cons, ih, List.length_set]
      by_cases c : j ∈ q
      · rw [if_pos c, if_pos (List.mem_cons_of_mem _ c)]
      · rw [if_neg c]
        by_cases d : j = x
        · subst d
          rw [if_pos (by simp)]
          by_cases e : j < s.length
          · rw [if_pos e, List.getElem?_set_self e]
          · rw [if_neg e, List.getElem?_eq_none (by rw [List.length_set]; omega)]
        · rw [if_neg (by simp [d, c]), List.getElem?_set_ne (fun e => d e.symm)]
  have hv : (cells l b).foldl (fun (s : List Int) x => s.set x a) l = mergeL l a b := by
    apply List.ext_getElem?
    intro j
    rw [hset, mergeL_get]
    by_cases d : j < l.length
    · rw [List.getElem?_eq_getElem d, Option.map_some]
      by_cases e : l.getD j 0 = b
      · rw [if_pos (cells_memM.2 ⟨d, e⟩), if_pos d]
        rw [getD_lt l 0 j d] at e
        rw [if_pos e]
      · rw [if_neg (fun c => e (cells_memM.1 c).2)]
        rw [getD_lt l 0 j d] at e
        rw [if_neg e]
    · rw [if_neg (fun c => d (cells_memM.1 c).1), List.getElem?_eq_none (by omega)]
      rfl
  rw [hv] at key
  rw [hil] at key ⊢
  exact key
theorem ev_implMerge (w h : Int) (l : List Int) (a b : Int) : Ev (fun k => impl_MergeAreas.f k w h l a b) (mergeR w h l a b) := by
  unfold impl_MergeAreas.f mergeR
  have no : ∀ b', b' = true → Ev (fun k => impl_MergeAreas.j0 k a b b' w h l) (0, 0, [], false) := by
    rintro _ rfl
    exact Ev.unr (Ev.eq_now fun k => by simp only [impl_MergeAreas.j0]; rfl)
  refine Ev.bind (f := fun k t => _) (ev_hasTwo w h l a b) ?_
  cases ht : (thereB w h l a && thereB w h l b) with
  | false => exact no _ rfl
  | true =>
    refine Ev.congr (fun k => if_pos rfl) ?_
    cases hab : (a == b) with
    | true => exact no _ rfl
    | false =>
      have ho : okM w h l = true := by
        have h1 := (Bool.and_eq_true _ _ ▸ ht).1
        unfold thereB at h1
        exact (Bool.and_eq_true _ _ ▸ h1).1
      have hl := okM_len ho
      refine Ev.unr ?_
      simp only [impl_MergeAreas.j0]
      refine Ev.congr (fun k => if_neg (by decide)) ?_
      refine Ev.bind (f := fun k t => _) (Ev.eq_now (r := l) fun k => by unfold slices_Clone_int_int.f; rw [if_pos (by omega)]) ?_
      refine Ev.bind (f := fun k t => _) (ev_cells w h l (by omega) b) ?_
      exact ev_implMergeL w h l hl a b
end Go.Proofs.Ytlcpbhcgncljiaa.Q
set_option linter.unusedVariables false
set_option linter.unusedSimpArgs false
namespace Go.Proofs.Ytlcpbhcgncljiaa.Pure
open Go.RowKit Go.Proofs.YtlcpbhcgncljiaaW.PrintWords Go.Proofs.Ytlcpbhcgncljiaa.Tells Go.Proofs.Ytlcpbhcgncljiaa.Q Go.Proofs.Ytlcpbhcgncljiaa.Gen
theorem FnExactMergeAreas : ∀ (x0 : S24) (a1 : Int) (a2 : Int), G24 x0 → I64 a1 → I64 a2 → ∃ k, laws_FnExactMergeAreas.f k x0.f0 x0.f1 x0.f2 a1 a2 = some true := by
  rintro ⟨w, h, l⟩ a1 a2 ⟨_, _, hl, _⟩ _ _
  dsimp only at hl ⊢
  refine Ev.rounds ?_
  unfold laws_FnExactMergeAreas.f
  simp only [szA_f w h l 1048576 (by omega) hl, Option.bind_some]
  by_cases hb : (l.length : Int) ≤ 1048576
  · simp only [if_pos hb]
    refine Ev.congr (fun k => if_neg (by omega)) ?_
    have hcA := ev_toA w h l (by omega)
    have eqA := ev_eqA w h l (by omega)
    have hsp := ev_specMerge w h l a1 a2
    have him := ev_implMerge w h l a1 a2
    have hv := mergeR_len w h l a1 a2
    generalize mergeR w h l a1 a2 = v at hsp him hv
    repeat first
      | exact Ev.now _
      | (with_reducible refine Ev.bind (f := fun k t => _) hcA ?_)
      | (with_reducible refine Ev.bind (f := fun k t => _) hsp ?_)
      | (with_reducible refine Ev.bind (f := fun k t => _) him ?_)
      | (with_reducible refine Ev.bind (f := fun k t => _) eqA ?_)
      | (with_reducible refine Ev.bind (f := fun k t => _) (ev_eqA v.1 v.2.1 v.2.2.1 (by omega)) ?_)
      | (with_reducible refine Ev.bind (f := fun k t => _) (ev_markA w h l (by omega)) ?_)
      | (with_reducible refine Ev.bind (f := fun k t => _) (ev_markA v.1 v.2.1 v.2.2.1 (by omega)) ?_)
      | (with_reducible refine Ev.bind (f := fun k t => _) (ev_heldA v.1 v.2.1 v.2.2.1.length (by omega)) ?_)
      | refine Ev.congr (fun k => if_pos (by first | rfl | trivial)) ?_
      | refine Ev.congr (fun k => if_neg (by first | omega | simp)) ?_
      | simp only [bne_self_eq_false, Bool.false_eq_true, if_false]
      | (refine Ev.unr ?_; simp only [laws_FnExactMergeAreas.j0])
      | (refine Ev.unr ?_; simp only [laws_FnExactMergeAreas.j1])
      | (refine Ev.unr ?_; simp only [laws_FnExactMergeAreas.j2])
  · simp only [if_neg hb]
    exact Ev.now _
end Go.Proofs.Ytlcpbhcgncljiaa.Pure
