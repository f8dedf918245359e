/- Lists of valid warnings in the order of their numbers, and the text of an overview: what both programs make of them. -/
import Derived.Test.YtnibkkfjgmfpnaaDoorQf18
import Derived.Test.YtnibkkfjgmfpnaaDoorQf23
import Derived.Test.YtnibkkfjgmfpnaaDoorQf37
import Derived.Test.YtnibkkfjgmfpnaaDoorQf22
import Derived.Test.YtnibkkfjgmfpnaaDoorQf10
import Derived.Test.YtnibkkfjgmfpnaaDoorQf6
import Derived.Test.YtnibkkfjgmfpnaaDoorQf11
import Derived.Test.YtnibkkfjgmfpnaaDoorQf12
import Derived.Test.YtnibkkfjgmfpnaaDoorLaText
import Derived.Test.YtnibkkfjgmfpnaaDoorArgs
namespace Go.Proofs.YtnibkkfjgmfpnaaDoor.Q
open Go.RowKit Go.Proofs.YtnibkkfjgmfpnaaDoorW.PrintWords Go.Proofs.YtnibkkfjgmfpnaaDoor.Gen Go.Proofs.YtnibkkfjgmfpnaaDoor.Tells
set_option linter.unusedVariables false
set_option linter.unusedSimpArgs false

def okW (x : S42) : Bool := okB x.f0 x.f1 x.f2 x.f3 x.f4 x.f5
theorem goodW_f (x : S42) : spec_l14Good.f x.f0 x.f1 x.f2 x.f3 x.f4 x.f5 = some (okW x) := good_f _ _ _ _ _ _
theorem validW_f (x : S42) : impl_IsValidWarning.f x.f0 x.f1 x.f2 x.f3 x.f4 x.f5 = some (okW x) := valid_f _ _ _ _ _ _
theorem rdW (l : List S42) (i : Nat) : rd_T42 l (i : Int) = l.getD i z42 := rfl
/-- The warning at place i is valid and its number is greater than the one before. -/
def stepB (l : List S42) (i : Nat) : Bool := okW (l.getD i z42) && (i == 0 || decide ((l.getD (i - 1) z42).f0 < (l.getD i z42).f0))
theorem areW_round (l : List S42) (hl : l.length ≤ 4611686018427387904) (i : Nat) (hi : i < l.length) (k : Nat) : impl_areWarnings.l0 (k + 1) l l (l.length : Int) (i : Int) = if stepB l i = true then impl_areWarnings.l0 k l l (l.length : Int) ((i + 1 : Nat) : Int) else some false := by
  simp only [impl_areWarnings.l0]
  rw [if_pos (by omega), if_pos (by omega), if_pos (by omega), rdW, validW_f, wrapS i (by omega)]
  simp only [Option.bind_some]
  unfold stepB
  cases hg : okW (l.getD i z42) with
  | false => rfl
  | true =>
    rw [if_pos rfl]
    by_cases h0 : i = 0
    · subst h0
      rw [if_neg (by omega)]
      rfl
    · rw [if_pos (by omega), wrapP i (by omega) (by omega), if_pos (by omega), if_pos (by omega), rdW]
      rw [show (i == 0) = false from by simpa using h0]
      by_cases hlt : (l.getD (i - 1) z42).f0 < (l.getD i z42).f0
      · rw [if_neg (by omega), decide_eq_true hlt]; rfl
      · rw [if_pos (by omega), decide_eq_false hlt]; rfl
theorem ev_areWarnings (l : List S42) (hb : l.length ≤ 4611686018427387904) : Ev (fun k => impl_areWarnings.f k l) (decide (l.length ≤ 12) && decide (∀ j, j < l.length → stepB l j = true)) := by
  unfold impl_areWarnings.f
  have key := ev_run (fun k (_ : Unit) i => impl_areWarnings.l0 k l l (l.length : Int) i) l.length (fun j _ => if stepB l j = true then .inr () else .inl false) (fun _ => decide (l.length ≤ 12)) (fun _ _ => True)
    (by
      intro i s b hi _ h
      refine Ev.eq_now fun k => ?_
      rw [areW_round l hb i hi]
      cases hs : stepB l i <;> simp [hs] at h ⊢
      exact h)
    (by
      intro i s s' r hi _ h
      refine ⟨trivial, fun he => Ev.congr (fun k => ?_) he⟩
      rw [areW_round l hb i hi]
      cases hs : stepB l i <;> simp [hs] at h ⊢)
    (by
      intro s _
      refine Ev.eq_now fun k => ?_
      simp only [impl_areWarnings.l0]
      rw [if_neg (by omega)]
      congr 1
      exact decide_eq_decide.2 (by omega))
    l.length 0 () (by omega) trivial
  rw [run_all (fun j => stepB l j) false (decide (l.length ≤ 12)) l.length l.length 0 (by omega)] at key
  by_cases hp : ∀ j, j < l.length → stepB l j = true
  · rw [decide_eq_true hp, Bool.and_true]
    rw [if_pos (fun j hj _ => hp j hj)] at key
    exact key
  · rw [decide_eq_false hp, Bool.and_false]
    rw [if_neg (fun h => hp (fun j hj => h j hj (Nat.zero_le _)))] at key
    exact key

def overB (l : List S42) : Bool := decide (l.length ≤ 12) && decide (∀ j, j < l.length → stepB l j = true)
theorem ev_isOverview (l : List S42) (hb : l.length ≤ 4611686018427387904) : Ev (fun k => impl_isOverview.f k l) (overB l) := by
  unfold impl_isOverview.f overB
  by_cases h : l.length ≤ 12
  · refine Ev.congr (fun k => if_pos (by omega)) ?_
    exact Ev.bind (f := fun k t => _) (ev_areWarnings l hb) (Ev.now _)
  · rw [decide_eq_false h]
    exact Ev.congr (fun k => if_neg (by omega)) (Ev.now _)
theorem over_round (l : List S42) (hl : l.length ≤ 4611686018427387904) (i : Nat) (hi : i < l.length) (k : Nat) : spec_l16Overview.l0 (k + 1) l (i : Int) = if stepB l i = true then spec_l16Overview.l0 k l ((i + 1 : Nat) : Int) else some false := by
  simp only [spec_l16Overview.l0]
  rw [if_pos (by omega), if_pos (by omega), rdW, goodW_f, wrapS i (by omega)]
  simp only [Option.bind_some]
  unfold stepB
  cases hg : okW (l.getD i z42) with
  | false => rfl
  | true =>
    rw [if_pos rfl]
    by_cases h0 : i = 0
    · subst h0
      rw [if_neg (by omega)]
      rfl
    · rw [if_pos (by omega), wrapP i (by omega) (by omega), if_pos (by omega), if_pos (by omega), rdW]
      rw [show (i == 0) = false from by simpa using h0]
      by_cases hlt : (l.getD (i - 1) z42).f0 < (l.getD i z42).f0
      · rw [if_neg (by omega), decide_eq_true hlt]; rfl
      · rw [if_pos (by omega), decide_eq_false hlt]; rfl
theorem ev_l16Over (l : List S42) (hb : l.length ≤ 4611686018427387904) : Ev (fun k => spec_l16Overview.f k l) (overB l) := by
  unfold spec_l16Overview.f overB
  have key := ev_run (fun k (_ : Unit) i => spec_l16Overview.l0 k l i) l.length (fun j _ => if stepB l j = true then .inr () else .inl false) (fun _ => decide (l.length ≤ 12)) (fun _ _ => True)
    (by
      intro i s b hi _ h
      refine Ev.eq_now fun k => ?_
      rw [over_round l hb i hi]
      cases hs : stepB l i <;> simp [hs] at h ⊢
      exact h)
    (by
      intro i s s' r hi _ h
      refine ⟨trivial, fun he => Ev.congr (fun k => ?_) he⟩
      rw [over_round l hb i hi]
      cases hs : stepB l i <;> simp [hs] at h ⊢)
    (by
      intro s _
      refine Ev.eq_now fun k => ?_
      simp only [spec_l16Overview.l0]
      rw [if_neg (by omega)]
      congr 1
      exact decide_eq_decide.2 (by omega))
    l.length 0 () (by omega) trivial
  rw [run_all (fun j => stepB l j) false (decide (l.length ≤ 12)) l.length l.length 0 (by omega)] at key
  by_cases hp : ∀ j, j < l.length → stepB l j = true
  · rw [decide_eq_true hp, Bool.and_true]
    rw [if_pos (fun j hj _ => hp j hj)] at key
    exact key
  · rw [decide_eq_false hp, Bool.and_false]
    rw [if_neg (fun h => hp (fun j hj => h j hj (Nat.zero_le _)))] at key
    exact key
theorem over_ok {l : List S42} (h : overB l = true) : l.length ≤ 12 ∧ ∀ j, j < l.length → okW (l.getD j z42) = true := by
  unfold overB at h
  rw [Bool.and_eq_true, decide_eq_true_eq, decide_eq_true_eq] at h
  refine ⟨h.1, fun j hj => ?_⟩
  have := h.2 j hj
  unfold stepB at this
  rw [Bool.and_eq_true] at this
  exact this.1
def wT (x : S42) : ByteArray := warnR x.f0 x.f1 x.f2 x.f3 x.f4 x.f5
theorem wT_size {x : S42} (o : okW x = true) : (wT x).size ≤ 1000 := by
  have hb := of_decide_eq_true o
  have h1 := decN_size x.f3.toNat (by omega)
  have h2 := hourS_size x.f4.toNat (by omega)
  have h3 := hourS_size x.f5.toNat (by omega)
  have h4 := decN_size x.f0.toNat (by omega)
  have hL := wordL_size x.f2
  have hO := wordO_size x.f1
  unfold wT warnR catS
  simp only [ba_size_app, szW0, szW1, szW2, szW3, szW4, szW5]
  omega
def nlB : ByteArray := (⟨#[10]⟩ : ByteArray)
theorem nlB_size : nlB.size = 1 := rfl
def ovT : List S42 → ByteArray → ByteArray
  | [], s => s
  | x :: r, s => ovT r (s ++ (wT x ++ nlB))
theorem ovL_f : ∀ (l : List S42) (s : ByteArray), (∀ x ∈ l, okW x = true) → s.size + 1001 * l.length ≤ 1000000 → ovL l s = some (ovT l s) := by
  intro l
  induction l with
  | nil => intro s _ _; rfl
  | cons x r ih =>
    intro s ho hs
    have hx := ho x List.mem_cons_self
    have hz := wT_size hx
    rw [List.length_cons] at hs
    unfold ovL ovT
    rw [implText_f _ _ _ _ _ _ hx, Option.bind_some]
    show (if s.size + ((wT x).size + 1) ≤ 1000000 then ovL r (s ++ (wT x ++ nlB)) else none) = _
    rw [if_pos (by omega)]
    exact ih _ (fun y hy => ho y (List.mem_cons_of_mem _ hy)) (by rw [ba_size_app, ba_size_app, nlB_size]; omega)
theorem ev_specOver_l0 (l : List S42) (hl : l.length ≤ 12) (ho : ∀ j, j < l.length → okW (l.getD j z42) = true) : ∀ d j, j + d = l.length → ∀ s : ByteArray, s.size ≤ 1001 * j → Ev (fun k => spec_OverviewText.l0 k l s (j : Int)) (ovT (l.drop j) s, true) := by
  intro d
  induction d with
  | zero =>
    intro j hj s hs
    obtain rfl : j = l.length := by omega
    rw [List.drop_length]
    refine Ev.unr ?_
    simp only [spec_OverviewText.l0]
    exact Ev.congr (fun k => if_neg (by omega)) (Ev.now _)
  | succ d ih =>
    intro j hj s hs
    have hlt : j < l.length := by omega
    have hx := ho j hlt
    have hz := wT_size hx
    rw [List.drop_eq_getElem_cons hlt, ← Gen.getD_lt l z42 j hlt]
    have key := ih (j + 1) (by omega) (s ++ (wT (l.getD j z42) ++ nlB)) (by rw [ba_size_app, ba_size_app, nlB_size]; omega)
    refine Ev.unr ?_
    simp only [spec_OverviewText.l0]
    refine Ev.congr (fun k => if_pos (by omega)) ?_
    refine Ev.congr (fun k => if_pos (by omega)) ?_
    rw [rdW, wrapS j (by omega)]
    refine Ev.bind (f := fun k t => _) (ev_specText _ _ _ _ _ _ hx) ?_
    refine Ev.congr (fun k => if_pos (by have : (warnR (l.getD j z42).f0 (l.getD j z42).f1 (l.getD j z42).f2 (l.getD j z42).f3 (l.getD j z42).f4 (l.getD j z42).f5).size ≤ 1000 := hz; omega)) ?_
    refine Ev.congr (fun k => if_pos (by have : (warnR (l.getD j z42).f0 (l.getD j z42).f1 (l.getD j z42).f2 (l.getD j z42).f3 (l.getD j z42).f4 (l.getD j z42).f5).size ≤ 1000 := hz; rw [ba_size_app]; omega)) ?_
    rw [ByteArray.append_assoc]
    exact key
def overR (l : List S42) : ByteArray × Bool := if overB l = true then (if l.length = 0 then ((⟨#[78, 111, 32, 119, 97, 114, 110, 105, 110, 103, 115, 46, 10]⟩ : ByteArray), true) else (ovT l (⟨#[]⟩ : ByteArray), true)) else ((⟨#[]⟩ : ByteArray), false)
theorem ev_specOver (l : List S42) (hb : l.length ≤ 4611686018427387904) : Ev (fun k => spec_OverviewText.f k l) (overR l) := by
  unfold spec_OverviewText.f overR
  refine Ev.bind (f := fun k t => _) (ev_l16Over l hb) ?_
  by_cases h : overB l = true
  · rw [if_pos h]
    refine Ev.congr (fun k => if_pos h) ?_
    by_cases hz : l.length = 0
    · rw [if_pos hz]
      exact Ev.congr (fun k => if_pos (by omega)) (Ev.now _)
    · rw [if_neg hz]
      refine Ev.congr (fun k => if_neg (by omega)) ?_
      obtain ⟨h1, h2⟩ := over_ok h
      exact ev_specOver_l0 l h1 h2 l.length 0 (by omega) (⟨#[]⟩ : ByteArray) (Nat.zero_le _)
  · rw [if_neg h]
    exact Ev.congr (fun k => if_neg h) (Ev.now _)
theorem ev_implOver (l : List S42) (hb : l.length ≤ 4611686018427387904) : Ev (fun k => impl_OverviewText.f k l) (overR l) := by
  unfold impl_OverviewText.f overR
  refine Ev.bind (f := fun k t => _) (ev_isOverview l hb) ?_
  by_cases h : overB l = true
  · refine Ev.congr (fun k => if_pos h) ?_
    rw [if_pos h]
    by_cases hz : l.length = 0
    · refine Ev.congr (fun k => if_pos hz) ?_
      rw [if_pos hz]
      exact Ev.now _
    · refine Ev.congr (fun k => if_neg hz) ?_
      rw [if_neg hz]
      obtain ⟨h1, h2⟩ := over_ok h
      have hm : ∀ x ∈ l, okW x = true := fun x hx => by
        obtain ⟨j, hj, rfl⟩ := List.getElem_of_mem hx
        have := h2 j hj
        rwa [Gen.getD_lt l z42 j hj] at this
      rw [ovL_f l (⟨#[]⟩ : ByteArray) hm (by show 0 + _ ≤ _; omega)]
      exact Ev.now _
  · refine Ev.congr (fun k => if_neg h) ?_
    rw [if_neg h]
    exact Ev.now _
/-! The laws' own helpers. -/
def conv (x : S46) : S42 := ⟨x.f0, x.f1, x.f2, x.f3, x.f4, x.f5⟩
def wconv (l : List S46) : List S42 := l.map conv
theorem wconv_length (l : List S46) : (wconv l).length = l.length := by simp [wconv]
theorem szW_f (l : List S46) (m : Int) (hm : 0 ≤ m ∧ m ≤ 1048576) (h : l.length ≤ maxLen) : laws_szWarningS.f l m = some (if (l.length : Int) ≤ m then m - l.length else -1) := by
  unfold laws_szWarningS.f maxLen at *
  by_cases hl : (l.length : Int) ≤ m
  · rw [if_neg (by unfold wrap64; omega), if_pos hl]
    congr 1
    unfold wrap64; omega
  · rw [if_pos (by unfold wrap64; omega), if_neg hl]
theorem rdV (l : List S46) (i : Nat) : rd_T46 l (i : Int) = l.getD i z46 := rfl

theorem ev_toW (l : List S46) (hl : l.length ≤ 1048576) : Ev (fun k => laws_toWarningS.f k l) (wconv l) := by
  unfold laws_toWarningS.f
  refine Ev.congr (f := fun k => laws_toWarningS.l0 k l (List.replicate l.length z42) ((0 : Nat) : Int)) (fun k => by rw [if_pos (by omega), if_pos (by omega)]; rfl) ?_
  have key := ev_run (fun k (s : List S42) i => laws_toWarningS.l0 k l s i) l.length (fun i s => .inr (s.set i (conv (l.getD i z46)))) (fun s => s) (fun i s => s.length = l.length)
    (by intro i s b hi _ h; cases h)
    (by
      intro i s s' r hi hs h
      cases h
      refine ⟨by simpa using hs, fun he => Ev.congr (fun k => ?_) he⟩
      simp only [laws_toWarningS.l0, laws_toWarning.f]
      rw [if_pos (by omega), if_pos (by omega), wrapS i (by omega)]
      simp only [Option.bind_some]
      rw [if_pos (by omega)]
      rfl)
    (by
      intro s _
      refine Ev.eq_now fun k => ?_
      simp only [laws_toWarningS.l0]
      rw [if_neg (by omega)])
    l.length 0 (List.replicate l.length z42) (by omega) (by simp)
  have hv : run (fun i (s : List S42) => (.inr (s.set i (conv (l.getD i z46))) : List S42 ⊕ List S42)) (fun s => s) l.length 0 (List.replicate l.length z42) = wconv l := by
    refine run_inv (n := l.length) (fun i s => s.length = l.length ∧ ∀ j, j < i → s[j]? = (wconv l)[j]?) (fun b => b = wconv l) (fun i s b _ _ h => by cases h) ?_ ?_ l.length 0 _ (by omega) ⟨by simp, fun j hj => absurd hj (Nat.not_lt_zero _)⟩
    · rintro i s s' hi ⟨h1, h2⟩ h
      cases h
      refine ⟨by simpa using h1, fun j hj => ?_⟩
      by_cases e : j = i
      · subst e
        rw [List.getElem?_set_self (by omega)]
        simp [wconv, hi]
      · rw [List.getElem?_set_ne (by omega)]
        exact h2 j (by omega)
    · rintro s ⟨h1, h2⟩
      apply List.ext_getElem?
      intro j
      by_cases hj : j < l.length
      · exact h2 j hj
      · rw [List.getElem?_eq_none (by omega), List.getElem?_eq_none (by rw [wconv_length]; omega)]
  rw [hv] at key
  exact key

theorem eqW_f (x : S42) : laws_eqWarning.f x.f0 x.f1 x.f2 x.f3 x.f4 x.f5 x.f0 x.f1 x.f2 x.f3 x.f4 x.f5 = some true := by
  unfold laws_eqWarning.f
  simp
theorem ev_eqW (l : List S42) (hl : l.length ≤ 4611686018427387904) : Ev (fun k => laws_eqWarningS.f k l l) true := by
  unfold laws_eqWarningS.f
  refine Ev.congr (f := fun k => laws_eqWarningS.l0 k l l ((0 : Nat) : Int)) (fun k => by rw [if_pos rfl]; rfl) ?_
  have key := ev_run (fun k (s : Unit) i => laws_eqWarningS.l0 k l l i) l.length (fun _ _ => .inr ()) (fun _ => true) (fun _ _ => True)
    (by intro i s b hi _ h; cases h)
    (by
      intro i s s' r hi hs h
      refine ⟨trivial, fun he => Ev.congr (fun k => ?_) he⟩
      simp only [laws_eqWarningS.l0]
      rw [if_pos (by omega), if_pos (by omega), if_pos (by omega), rdW, eqW_f, wrapS i (by omega)]
      rfl)
    (by
      intro s _
      refine Ev.eq_now fun k => ?_
      simp only [laws_eqWarningS.l0]
      rw [if_neg (by omega)])
    l.length 0 () (by omega) trivial
  have hv : run (fun _ (_ : Unit) => (.inr () : Bool ⊕ Unit)) (fun _ => true) l.length 0 () = true :=
    run_inv (n := l.length) (fun _ _ => True) (fun b => b = true) (fun i s b _ _ h => by cases h) (fun _ _ _ _ _ _ => trivial) (fun _ _ => rfl) _ _ _ (by omega) trivial
  rw [hv] at key
  exact key
end Go.Proofs.YtnibkkfjgmfpnaaDoor.Q
