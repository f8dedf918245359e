/- Fields over maps of areas in plain words: valid fields, the values of an area: what both programs say. -/
import Derived.Test.YtlcpbhcgncljiaaQf63
import Derived.Test.YtlcpbhcgncljiaaQf47
import Derived.Test.YtlcpbhcgncljiaaQf64
import Derived.Test.YtlcpbhcgncljiaaQf64
import Derived.Test.YtlcpbhcgncljiaaQf52
import Derived.Test.YtlcpbhcgncljiaaQf29
import Derived.Test.YtlcpbhcgncljiaaQf32
import Derived.Test.YtlcpbhcgncljiaaQf28
import Derived.Test.YtlcpbhcgncljiaaLaArea
namespace Go.Proofs.Ytlcpbhcgncljiaa.Q
open Go.RowKit Go.Proofs.YtlcpbhcgncljiaaW.PrintWords Go.Proofs.Ytlcpbhcgncljiaa.Gen Go.Proofs.Ytlcpbhcgncljiaa.Tells
set_option linter.unusedVariables false
set_option linter.unusedSimpArgs false
theorem ev_toF (w h : Int) (l : List Int) (hl : l.length ≤ 1048576) : Ev (fun k => laws_toField.f k w h l) (w, h, l) := by
  unfold laws_toField.f
  exact Ev.bind (f := fun k t => _) (ev_toI l hl) (Ev.now _)
theorem ev_eqF (w h : Int) (l : List Int) (hl : l.length ≤ 1048576) : Ev (fun k => laws_eqField.f k w h l w h l) true := by
  unfold laws_eqField.f
  refine Ev.congr (fun k => if_pos rfl) (Ev.congr (fun k => if_pos rfl) ?_)
  exact Ev.bind (f := fun k t => _) (ev_eqI l (by omega)) (Ev.congr (fun k => if_pos rfl) (Ev.now _))
theorem szF_f (w h : Int) (l : List Int) (m : Int) (hm : 0 ≤ m ∧ m ≤ 1048576) (hl : l.length ≤ maxLen) : laws_szField.f w h l m = some (if (l.length : Int) ≤ m then m - l.length else -1) := by
  unfold laws_szField.f
  rw [szI_f l m hm hl]
  simp only [Option.bind_some]
  by_cases e : (l.length : Int) ≤ m
  · rw [if_pos e, if_neg (by omega)]
  · rw [if_neg e, if_pos (by omega)]
def okF (w h : Int) (l : List Int) : Bool := shapeB w h l.length && decide (∀ x ∈ l, cellB x = true)
theorem okF_iff (w h : Int) (l : List Int) : okF w h l = true ↔ shapeB w h l.length = true ∧ ∀ x ∈ l, cellB x = true := by
  unfold okF
  rw [Bool.and_eq_true, decide_eq_true_eq]
theorem l2Value_f (x : Int) : spec_l2Value.f x = some (cellB x) := by
  unfold spec_l2Value.f cellB
  rw [l1In_f]
  by_cases h : x = -9999
  · rw [if_pos h, decide_eq_true h]; rfl
  · rw [if_neg h, decide_eq_false h]; rfl
theorem l2Shape_f (w h : Int) : spec_l2Shape.f w h = some (decide (1 ≤ w ∧ w ≤ 8) && decide (1 ≤ h ∧ h ≤ 8)) := by
  unfold spec_l2Shape.f
  simp only [l1In_f, Option.bind_some, decide_eq_true_eq]
  by_cases h1 : 1 ≤ w ∧ w ≤ 8
  · rw [if_pos h1, decide_eq_true h1]; rfl
  · rw [if_neg h1, decide_eq_false h1]; rfl
theorem ev_goodFL (w h : Int) (l : List Int) (hl : l.length ≤ 64) : Ev (fun k => spec_l2Good.l0 k 0 w h l) (decide (∀ x ∈ l, cellB x = true)) := by
  have key := ev_allN (fun k i => spec_l2Good.l0 k i w h l) l.length (fun i => cellB (l.getD i 0)) true false
    (by
      intro i r hi hp he
      refine Ev.congr (fun k => ?_) he
      simp only [spec_l2Good.l0]
      rw [if_pos (by omega), if_pos (by omega), rdI, l2Value_f, hp, wrapS i (by omega)]
      rfl)
    (by
      intro i hi hp
      refine Ev.eq_now fun k => ?_
      simp only [spec_l2Good.l0]
      rw [if_pos (by omega), if_pos (by omega), rdI, l2Value_f, hp]
      rfl)
    (Ev.eq_now fun k => by
      simp only [spec_l2Good.l0]
      rw [if_neg (by omega)])
  have e : (if (∀ i, i < l.length → cellB (l.getD i 0) = true) then true else false) = decide (∀ x ∈ l, cellB x = true) := by
    by_cases c : ∀ x ∈ l, cellB x = true
    · rw [if_pos ((all_getD l 0 (fun y => cellB y = true)).2 c), decide_eq_true c]
    · rw [if_neg (fun d => c ((all_getD l 0 (fun y => cellB y = true)).1 d)), decide_eq_false c]
  rw [e] at key
  exact key
theorem ev_goodF (w h : Int) (l : List Int) : Ev (fun k => spec_l2Good.f k w h l) (okF w h l) := by
  unfold spec_l2Good.f okF shapeB
  have no : ∀ b, b = true → Ev (fun k => spec_l2Good.j0 k b w h l) false := by
    rintro b rfl
    exact Ev.unr (Ev.eq_now fun k => by simp only [spec_l2Good.j0]; rfl)
  simp only [l2Shape_f, Option.bind_some, Bool.and_eq_true, decide_eq_true_eq]
  by_cases h1 : 1 ≤ w ∧ w ≤ 8
  · by_cases h2 : 1 ≤ h ∧ h ≤ 8
    · rw [decide_eq_true h1, decide_eq_true h2]
      refine Ev.congr (fun k => if_pos ⟨h1, h2⟩) ?_
      have hb := side_mul h1 h2
      rw [show wrap64 (w * h) = w * h from by unfold wrap64; omega]
      by_cases h3 : (l.length : Int) = w * h
      · rw [decide_eq_true h3, show ((l.length : Int) != w * h) = false from by simpa using h3]
        refine Ev.unr ?_
        simp only [spec_l2Good.j0]
        exact Ev.congr (fun k => if_neg (by decide)) (ev_goodFL w h l (by omega))
      · rw [decide_eq_false h3, show ((l.length : Int) != w * h) = true from by simpa using h3]
        exact no _ rfl
    · rw [decide_eq_true h1, decide_eq_false h2]
      exact Ev.congr (fun k => if_neg (fun c => h2 c.2)) (no _ rfl)
  · rw [decide_eq_false h1]
    exact Ev.congr (fun k => if_neg (fun c => h1 c.1)) (no _ rfl)
theorem not_any_not (l : List Int) (p : Int → Bool) : (!(l.any fun x => !p x)) = decide (∀ x ∈ l, p x = true) := by
  rw [Bool.eq_iff_iff, decide_eq_true_eq]
  simp
theorem validF_f (w h : Int) (l : List Int) : impl_IsValidField.f w h l = some (okF w h l) := by
  unfold impl_IsValidField.f okF shapeB
  simp only [within_f, Option.bind_some, decide_eq_true_eq]
  by_cases h1 : 1 ≤ w ∧ w ≤ 8
  · rw [if_pos h1, decide_eq_true h1]
    by_cases h2 : 1 ≤ h ∧ h ≤ 8
    · rw [if_pos h2, decide_eq_true h2]
      have hb := side_mul h1 h2
      rw [show wrap64 (w * h) = w * h from by unfold wrap64; omega, not_any_not]
      by_cases h3 : (l.length : Int) = w * h
      · rw [if_pos h3, decide_eq_true h3]; rfl
      · rw [if_neg h3, decide_eq_false h3]; rfl
    · rw [if_neg h2, decide_eq_false h2]; rfl
  · rw [if_neg h1, decide_eq_false h1]; rfl
def fitsB (w h : Int) (fw fh : Int) (fl : List Int) : Bool := okF fw fh fl && (decide (w = fw) && decide (h = fh))
theorem ev_fits (w h : Int) (l : List Int) (fw fh : Int) (fl : List Int) (ho : okM w h l = true) : Ev (fun k => spec_l13Fits.f k w h l fw fh fl) (fitsB w h fw fh fl) := by
  unfold spec_l13Fits.f fitsB
  refine Ev.bind (f := fun k t => _) (ev_goodM w h l) ?_
  refine Ev.congr (fun k => if_pos ho) ?_
  refine Ev.bind (f := fun k t => _) (ev_goodF fw fh fl) ?_
  cases okF fw fh fl with
  | false => exact Ev.now _
  | true =>
    refine Ev.congr (fun k => if_pos rfl) ?_
    by_cases h1 : w = fw
    · rw [decide_eq_true h1]
      refine Ev.congr (fun k => if_pos h1) ?_
      rw [show (h == fh) = decide (h = fh) from rfl]
      exact Ev.now _
    · rw [decide_eq_false h1]
      exact Ev.congr (fun k => if_neg h1) (Ev.now _)
theorem fitsMap_f (w h : Int) (l : List Int) (fw fh : Int) (fl : List Int) : impl_fitsMap.f w h l fw fh fl = some (fitsB w h fw fh fl) := by
  unfold impl_fitsMap.f fitsB
  rw [validF_f]
  simp only [Option.bind_some]
  cases okF fw fh fl with
  | false => rfl
  | true =>
    rw [if_pos rfl]
    by_cases h1 : w = fw
    · rw [decide_eq_true h1, if_pos h1.symm]
      by_cases h2 : h = fh
      · rw [decide_eq_true h2, show (fh == h) = true from by simpa using h2.symm]; rfl
      · rw [decide_eq_false h2, show (fh == h) = false from by simpa using fun e => h2 (Eq.symm e)]; rfl
    · rw [decide_eq_false h1, if_neg (fun e => h1 e.symm)]; rfl
/-- The values of an area that are not missing. -/
def vals (l fl : List Int) (a : Int) : List Int := ((cells l a).map fun i => fl.getD i 0).filter fun v => !(v == -9999)
theorem cells_lt {l : List Int} {a : Int} {i : Nat} (h : i ∈ cells l a) : i < l.length := by
  unfold cells at h
  exact List.mem_range.1 (List.mem_filter.1 h).1
theorem fits_len {w h : Int} {l : List Int} {fw fh : Int} {fl : List Int} (ho : okM w h l = true) (hf : fitsB w h fw fh fl = true) : fl.length = l.length ∧ ∀ x ∈ fl, cellB x = true := by
  unfold fitsB at hf
  simp only [Bool.and_eq_true, decide_eq_true_eq] at hf
  obtain ⟨h1, rfl, rfl⟩ := hf
  have h2 := (okF_iff _ _ _).1 h1
  have h3 := ((shapeB_iff _ _ _).1 h2.1).2.2
  unfold okM at ho
  have h4 := ((shapeB_iff _ _ _).1 (Bool.and_eq_true _ _ ▸ ho).1).2.2
  exact ⟨by omega, h2.2⟩
theorem icells_get (l : List Int) (a : Int) (j : Nat) (hj : j < (cells l a).length) : (icells l a).getD j 0 = (((cells l a).getD j 0 : Nat) : Int) := by
  unfold icells
  rw [getD_lt _ _ j (by simpa using hj), List.getElem_map, getD_lt _ _ j hj]
theorem ev_areaValues (w h : Int) (l : List Int) (a : Int) (fw fh : Int) (fl : List Int) (hl : l.length ≤ 64) (hfl : fl.length = l.length) : Ev (fun k => impl_areaValues.f k w h l a fw fh fl) (vals l fl a) := by
  unfold impl_areaValues.f
  refine Ev.bind (f := fun k t => _) (ev_cells w h l (by omega) a) ?_
  have hcl := cells_len l a
  have hil : (icells l a).length = (cells l a).length := by simp [icells]
  have key := ev_fold (fun k (s : List Int) i => impl_areaValues.l0 k s (icells l a) ((icells l a).length : Int) i fw fh fl) (cells l a).length (fun s j => if (!(fl.getD ((cells l a).getD j 0) 0 == -9999)) = true then s ++ [fl.getD ((cells l a).getD j 0) 0] else s) (fun s => s) (fun i s => s.length ≤ i)
    (by
      intro i s r hi hs
      have hm : (cells l a).getD i 0 < l.length := cells_lt (by rw [getD_lt _ _ i hi]; exact List.getElem_mem hi)
      by_cases e : fl.getD ((cells l a).getD i 0) 0 = -9999
      · have e1 : (!(fl.getD ((cells l a).getD i 0) 0 == -9999)) = false := by simpa using e
        rw [e1, if_neg (by decide)]
        refine ⟨by omega, fun he => Ev.congr (fun k => ?_) he⟩
        simp only [impl_areaValues.l0]
        rw [if_pos (by omega), if_pos (by omega), if_pos (by omega), rdI, icells_get l a i hi, if_pos (by omega), if_pos (by omega), rdI, if_pos e, wrapS i (by omega)]
      · have e1 : (!(fl.getD ((cells l a).getD i 0) 0 == -9999)) = true := by simpa using e
        rw [e1, if_pos rfl]
        refine ⟨by rw [List.length_append]; simp; omega, fun he => Ev.congr (fun k => ?_) he⟩
        simp only [impl_areaValues.l0]
        rw [if_pos (by omega), if_pos (by omega), if_pos (by omega), rdI, icells_get l a i hi, if_pos (by omega), if_pos (by omega), rdI, if_neg e, if_pos (by omega), wrapS i (by omega)])
    (by
      intro s hs
      refine Ev.eq_now fun k => ?_
      simp only [impl_areaValues.l0]
      rw [if_neg (by omega)])
    [] (by simp)
  rw [foldl_getD (cells l a) 0 (fun s x => if (!(fl.getD x 0 == -9999)) = true then s ++ [fl.getD x 0] else s)] at key
  have e : (cells l a).foldl (fun (s : List Int) x => if (!(fl.getD x 0 == -9999)) = true then s ++ [fl.getD x 0] else s) [] = vals l fl a := by
    unfold vals
    have h := foldl_filter_append (fun v : Int => !(v == -9999)) ((cells l a).map fun i => fl.getD i 0) []
    rw [List.foldl_map, List.nil_append] at h
    exact h
  rw [e] at key
  exact key
theorem vals_len (l fl : List Int) (a : Int) : (vals l fl a).length ≤ l.length := by
  unfold vals
  refine Nat.le_trans (List.length_filter_le _ _) ?_
  rw [List.length_map]
  exact cells_len l a
theorem there_ok {w h : Int} {l : List Int} {a : Int} (ht : thereB w h l a = true) : okM w h l = true := by
  unfold thereB at ht
  exact (Bool.and_eq_true _ _ ▸ ht).1
end Go.Proofs.Ytlcpbhcgncljiaa.Q
