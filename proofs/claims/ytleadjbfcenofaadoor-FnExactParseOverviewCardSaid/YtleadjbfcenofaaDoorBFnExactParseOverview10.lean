/- Texts of this seat, put together: LaLines, LaMarksW, PureFnExactParseOverview. -/
import Derived.Test.YtleadjbfcenofaaDoorZFnExactParseOverview
import Derived.Test.YtleadjbfcenofaaDoorBFnExactParseOverview0
import Derived.Test.YtleadjbfcenofaaDoorBFnExactParseOverview4
import Derived.Test.YtleadjbfcenofaaDoorBFnExactParseOverview7
import Derived.Test.YtleadjbfcenofaaDoorBFnExactParseOverview8
import Derived.Test.YtleadjbfcenofaaDoorBFnExactParseOverview9
/- An overview read back from its text, line by line: what both programs find. -/
namespace Go.Proofs.YtleadjbfcenofaaDoor.Q.Ov
open Go.Proofs.YtleadjbfcenofaaDoor.Q Go.RowKit Go.Proofs.YtleadjbfcenofaaDoorW.PrintWords Go.Proofs.YtleadjbfcenofaaDoor.Gen Go.Proofs.YtleadjbfcenofaaDoor.Tells
set_option linter.unusedVariables false
set_option linter.unusedSimpArgs false
def mkB (l : List UInt8) : ByteArray := ⟨l.toArray⟩
theorem mkB_list (l : List UInt8) : (mkB l).data.toList = l := rfl
theorem mkB_size (l : List UInt8) : (mkB l).size = l.length := by rw [← ba_len, mkB_list]
theorem mkB_eta (s : ByteArray) : mkB s.data.toList = s := by
  cases s
  rfl
theorem mkB_app (a b : List UInt8) : mkB a ++ mkB b = mkB (a ++ b) := by
  apply ba_ext
  rw [ba_app]
  rfl
theorem nl_split : ∀ (l : List UInt8), 10 ∉ l ∨ ∃ a r, 10 ∉ a ∧ l = a ++ 10 :: r
  | [] => .inl (by simp)
  | x :: l => by
    by_cases hx : x = 10
    · subst hx
      exact .inr ⟨[], l, by simp, rfl⟩
    · rcases nl_split l with h | ⟨a, r, ha, e⟩
      · exact .inl (by simp only [List.mem_cons, not_or]; exact ⟨fun q => hx q.symm, h⟩)
      · exact .inr ⟨x :: a, r, by simp only [List.mem_cons, not_or]; exact ⟨fun q => hx q.symm, ha⟩, by rw [e]; rfl⟩
theorem ixB_none : ∀ (l : List UInt8), 10 ∉ l → Lib.indexByte l 10 = -1
  | [], _ => rfl
  | x :: l, h => by
    have hx : (x == 10) = false := beq_eq_false_iff_ne.mpr fun q => h (by rw [q]; exact List.mem_cons_self ..)
    have hi := ixB_none l fun q => h (List.mem_cons_of_mem _ q)
    unfold Lib.indexByte
    rw [hx, hi]
    rfl
theorem ixB_at : ∀ (a r : List UInt8), 10 ∉ a → Lib.indexByte (a ++ 10 :: r) 10 = (a.length : Int)
  | [], _, _ => by
    rw [List.nil_append]
    unfold Lib.indexByte
    rfl
  | x :: a, r, h => by
    have hx : (x == 10) = false := beq_eq_false_iff_ne.mpr fun q => h (by rw [q]; exact List.mem_cons_self ..)
    have hi := ixB_at a r fun q => h (List.mem_cons_of_mem _ q)
    rw [List.cons_append]
    unfold Lib.indexByte
    rw [hx, hi, if_neg (by simp), if_neg (by simp), List.length_cons]
    omega
/-- The bytes of pieces, each with a line's end behind it. -/
def joinN : List (List UInt8) → List UInt8
  | [] => []
  | q :: r => q ++ 10 :: joinN r
theorem joinN_snoc : ∀ (qs : List (List UInt8)) (q : List UInt8), joinN (qs ++ [q]) = joinN qs ++ (q ++ [10])
  | [], q => by simp [joinN]
  | x :: r, q => by rw [List.cons_append, joinN, joinN, joinN_snoc r q]; simp
theorem joinN_len : ∀ (qs : List (List UInt8)), qs.length ≤ (joinN qs).length
  | [] => Nat.le_refl _
  | x :: r => by
    have := joinN_len r
    simp only [joinN, List.length_append, List.length_cons]
    omega
theorem joinN_le (n : Nat) : ∀ (qs : List (List UInt8)), (∀ q ∈ qs, q.length ≤ n) → (joinN qs).length ≤ (n + 1) * qs.length
  | [], _ => Nat.zero_le _
  | x :: r, h => by
    have h1 := joinN_le n r fun q hq => h q (List.mem_cons_of_mem _ hq)
    have h2 := h x (List.mem_cons_self ..)
    simp only [joinN, List.length_append, List.length_cons, Nat.mul_add]
    omega
theorem nl_parts : ∀ (n : Nat) (l : List UInt8), l.length ≤ n → ∃ (qs : List (List UInt8)) (e : List UInt8), 10 ∉ e ∧ (∀ q ∈ qs, 10 ∉ q) ∧ l = joinN qs ++ e
  | 0, l, h => ⟨[], [], by simp, by simp, by simpa [joinN] using List.length_eq_zero_iff.1 (Nat.le_zero.1 h)⟩
  | n + 1, l, h => by
    rcases nl_split l with hl | ⟨a, r, ha, rfl⟩
    · exact ⟨[], l, hl, by simp, rfl⟩
    · obtain ⟨qs, e, he, hq, hr⟩ := nl_parts n r (by simp only [List.length_append, List.length_cons] at h; omega)
      refine ⟨a :: qs, e, he, ?_, by rw [hr, joinN, List.append_assoc, List.cons_append]⟩
      intro q hqm
      rcases List.mem_cons.1 hqm with rfl | hqm
      · exact ha
      · exact hq q hqm
theorem spl_parts : ∀ (qs : List (List UInt8)) (e : List UInt8), 10 ∉ e → (∀ q ∈ qs, 10 ∉ q) → spl 10 [] (joinN qs ++ e) = qs.map mkB ++ [mkB e]
  | [], e, he, _ => by
    rw [joinN, List.nil_append, spl_last 10 e [] he]
    rfl
  | a :: qs, e, he, hq => by
    rw [joinN, List.append_assoc, List.cons_append, spl_one 10 _ a [] (hq a (List.mem_cons_self ..)), spl_parts qs e he fun q h => hq q (List.mem_cons_of_mem _ h)]
    rfl
theorem lines_parts : ∀ (qs : List (List UInt8)) (e : List UInt8), 10 ∉ e → (∀ q ∈ qs, 10 ∉ q) → ∀ k, (joinN qs ++ e).length ≤ k → linesF k (mkB (joinN qs ++ e)) = qs.map (fun q => mkB (q ++ [10])) ++ (if e = [] then [] else [mkB e])
  | [], e, he, _, k, hk => by
    rw [joinN, List.nil_append, List.map_nil, List.nil_append]
    by_cases h0 : e = []
    · subst h0
      rw [if_pos rfl]
      exact linesF_nil k
    · rw [if_neg h0]
      have hp : 0 < e.length := List.length_pos_iff.2 h0
      obtain ⟨k, rfl⟩ : ∃ k', k = k' + 1 := ⟨k - 1, by simp only [joinN, List.nil_append] at hk; omega⟩
      unfold linesF
      rw [if_neg (by rw [mkB_size]; omega), mkB_list, ixB_none e he, if_neg (by omega)]
  | a :: qs, e, he, hq, k, hk => by
    have ha := hq a (List.mem_cons_self ..)
    rw [joinN, List.append_assoc, List.cons_append] at hk ⊢
    obtain ⟨k, rfl⟩ : ∃ k', k = k' + 1 := ⟨k - 1, by simp only [List.length_append, List.length_cons] at hk; omega⟩
    unfold linesF
    have hsz : (mkB (a ++ 10 :: (joinN qs ++ e))).size = a.length + 1 + (joinN qs ++ e).length := by rw [mkB_size, List.length_append, List.length_cons]; omega
    have x1 : (mkB (a ++ 10 :: (joinN qs ++ e))).extract 0 (a.length + 1) = mkB (a ++ [10]) := by
      have := ext_mid (mkB (a ++ 10 :: (joinN qs ++ e))) [] (a ++ [10]) (joinN qs ++ e) (by rw [mkB_list]; simp)
      rw [List.length_nil, Nat.zero_add, List.length_append, List.length_singleton] at this
      exact this
    have x2 : (mkB (a ++ 10 :: (joinN qs ++ e))).extract (a.length + 1) (mkB (a ++ 10 :: (joinN qs ++ e))).size = mkB (joinN qs ++ e) := by
      have := ext_mid (mkB (a ++ 10 :: (joinN qs ++ e))) (a ++ [10]) (joinN qs ++ e) [] (by rw [mkB_list]; simp)
      rw [List.length_append, List.length_singleton, ← hsz] at this
      exact this
    rw [if_neg (by omega), mkB_list, ixB_at a _ ha, if_pos (by omega), show ((a.length : Int) + 1).toNat = a.length + 1 from by omega, x1, x2,
      lines_parts qs e he (fun q h => hq q (List.mem_cons_of_mem _ h)) k (by simp only [List.length_append, List.length_cons] at hk ⊢; omega), List.map_cons, List.cons_append]
theorem ends_last (l : List UInt8) (x : UInt8) (hs : l.length ≤ 1048576) : stringslite_HasSuffix.f (mkB (l ++ [x])) ⟨#[10]⟩ = some (decide (x = 10)) := by
  unfold stringslite_HasSuffix.f
  have hsz : (mkB (l ++ [x])).size = l.length + 1 := by rw [mkB_size, List.length_append, List.length_singleton]
  have h1 : ((⟨#[10]⟩ : ByteArray).size : Int) = 1 := rfl
  rw [hsz, h1, if_pos (by omega), show wrap64 (((l.length + 1 : Nat) : Int) - 1) = (l.length : Int) from by unfold wrap64; omega, if_pos (by omega), if_pos (by omega), Int.toNat_natCast]
  have hx := ext_mid (mkB (l ++ [x])) l [x] [] (by rw [mkB_list]; simp)
  rw [List.length_singleton] at hx
  rw [hx]
  congr 1
  rw [Lib.toList_data, Lib.toList_data]
  by_cases h : x = 10
  · subst h
    rfl
  · rw [decide_eq_false h]
    simpa using h
theorem ends_nil : stringslite_HasSuffix.f (mkB []) ⟨#[10]⟩ = some false := rfl
theorem hasS (l : List UInt8) (b : Bool) (h : stringslite_HasSuffix.f (mkB l) ⟨#[10]⟩ = some b) : strings_HasSuffix.f (mkB l) ⟨#[10]⟩ = some b := by
  unfold strings_HasSuffix.f
  rw [h]
  rfl
theorem trimS (q : List UInt8) (hs : q.length ≤ 1048576) : strings_TrimSuffix.f (mkB (q ++ [10])) ⟨#[10]⟩ = some (mkB q) := by
  unfold strings_TrimSuffix.f stringslite_TrimSuffix.f
  rw [ends_last q 10 hs]
  have hsz : (mkB (q ++ [10])).size = q.length + 1 := by rw [mkB_size, List.length_append, List.length_singleton]
  have h1 : ((⟨#[10]⟩ : ByteArray).size : Int) = 1 := rfl
  rw [Option.bind_some, decide_eq_true rfl, if_pos rfl, hsz, h1, show wrap64 (((q.length + 1 : Nat) : Int) - 1) = (q.length : Int) from by unfold wrap64; omega, if_pos (by omega), if_pos (by omega), Int.toNat_natCast]
  have hx := ext_mid (mkB (q ++ [10])) [] q [10] (by rw [mkB_list]; simp)
  rw [List.length_nil, Nat.zero_add] at hx
  rw [hx]
  rfl
/-- The warning of a line. -/
noncomputable def pwV (x : ByteArray) : WV := if h : x.size ≤ 1048576 then Classical.choose (ev_specPW x h) else (0, 0, 0, 0, 0, 0, false)
theorem pwV_spec (x : ByteArray) (h : x.size ≤ 1048576) : Ev (fun k => spec_ParseWarning.f k x) (pwV x) ∧ PW x (pwV x) := by
  unfold pwV
  rw [dif_pos h]
  exact Classical.choose_spec (ev_specPW x h)
theorem pwV_impl (x : ByteArray) (h : x.size ≤ 1048576) : Ev (fun k => impl_ParseWarning.f k x) (pwV x) := by
  obtain ⟨Y, hY, pY⟩ := ev_implPW x h
  rw [PW_uniq (pwV_spec x h).2 pY]
  exact hY
def wOf (X : WV) : S31 := ⟨X.1, X.2.1, X.2.2.1, X.2.2.2.1, X.2.2.2.2.1, X.2.2.2.2.2.1⟩
theorem pwV_true (x : ByteArray) (h : x.size ≤ 1048576) (ht : (pwV x).2.2.2.2.2.2 = true) : okW (wOf (pwV x)) = true ∧ wT (wOf (pwV x)) = x := by
  rcases (pwV_spec x h).2 with ⟨a, b, c, d, e, f, hX, o, hw⟩ | ⟨hX, _⟩
  · rw [hX]
    exact ⟨o, hw⟩
  · rw [hX] at ht
    cases ht
noncomputable def parV : List ByteArray → List S31 → Option (List S31)
  | [], acc => some acc
  | x :: r, acc => if (pwV x).2.2.2.2.2.2 = true then parV r (acc ++ [wOf (pwV x)]) else none
theorem ev_poL : ∀ (qs : List (List UInt8)) (acc : List S31), (∀ q ∈ qs, q.length ≤ 1048576) → acc.length + qs.length ≤ 1000000 → Ev (fun k => poL k (qs.map fun q => mkB (q ++ [10])) acc) (parV (qs.map mkB) acc)
  | [], acc, _, _ => Ev.now _
  | q :: qs, acc, hs, hl => by
    have hq := hs q (List.mem_cons_self ..)
    rw [List.length_cons] at hl
    simp only [List.map_cons, poL, parV]
    refine Ev.bind (f := fun k t => _) (Ev.eq_now fun k => trimS q hq) ?_
    refine Ev.bind (f := fun k t => _) (pwV_impl (mkB q) (by rw [mkB_size]; exact hq)) ?_
    by_cases ht : (pwV (mkB q)).2.2.2.2.2.2 = true
    · rw [if_pos ht]
      refine Ev.congr (fun k => if_pos ht) (Ev.congr (fun k => if_pos (by omega)) ?_)
      exact ev_poL qs _ (fun x hx => hs x (List.mem_cons_of_mem _ hx)) (by rw [List.length_append, List.length_singleton]; omega)
    · rw [if_neg ht]
      exact Ev.congr (fun k => if_neg ht) (Ev.now _)
theorem parV_some : ∀ (qs : List (List UInt8)) (acc out : List S31), (∀ q ∈ qs, q.length ≤ 1048576) → parV (qs.map mkB) acc = some out →
    ∃ ws, out = acc ++ ws ∧ ws.length = qs.length ∧ (∀ w ∈ ws, okW w = true) ∧ (∀ s : ByteArray, ovT ws s = s ++ mkB (joinN qs)) ∧ ∀ q ∈ qs, q.length ≤ 120
  | [], acc, out, _, h => by
    injection h with h
    subst h
    refine ⟨[], by rw [List.append_nil], rfl, by simp, fun s => ?_, by simp⟩
    rw [ovT, joinN, show mkB [] = ByteArray.empty from rfl, ByteArray.append_empty]
  | q :: qs, acc, out, hs, h => by
    rw [List.map_cons, parV] at h
    split at h
    · rename_i ht
      have hq := hs q (List.mem_cons_self ..)
      obtain ⟨o, hw⟩ := pwV_true (mkB q) (by rw [mkB_size]; exact hq) ht
      obtain ⟨ws, e, hl, ho, ht2, hb⟩ := parV_some qs _ out (fun x hx => hs x (List.mem_cons_of_mem _ hx)) h
      refine ⟨wOf (pwV (mkB q)) :: ws, by rw [e, List.append_assoc]; rfl, by rw [List.length_cons, List.length_cons, hl], ?_, fun s => ?_, ?_⟩
      · intro w hm
        rcases List.mem_cons.1 hm with rfl | hm
        · exact o
        · exact ho w hm
      · rw [ovT, ht2, hw, show nlB = mkB [10] from rfl, mkB_app, ByteArray.append_assoc, mkB_app, joinN]
        simp
      · intro x hx
        rcases List.mem_cons.1 hx with rfl | hx
        · have h1 := warnR_size _ _ _ _ _ _ o
          have h2 : wT (wOf (pwV (mkB x))) = mkB x := hw
          unfold wT at h2
          rw [h2, mkB_size] at h1
          exact h1
        · exact hb x hx
    · cases h
/-- What the first program finds where the lines are warnings. -/
noncomputable def finI : Option (List S31) → List S31 × Bool
  | none => ([], false)
  | some l => if overB l = true then (l, true) else ([], false)
/-- The same of the second one. -/
noncomputable def finS (s : ByteArray) : Option (List S31) → List S31 × Bool
  | none => ([], false)
  | some l => if (overR l).2 = true then (if (overR l).1.toList = s.toList then (l, true) else ([], false)) else ([], false)
theorem ev_poE (o : Option (List S31)) (ho : ∀ l, o = some l → l.length ≤ 4611686018427387904) : Ev (fun k => poE k o) (finI o) := by
  cases o with
  | none => exact Ev.now _
  | some l =>
    unfold finI
    simp only [poE]
    refine Ev.bind (f := fun k t => _) (ev_isOverview l (ho l rfl)) ?_
    by_cases h : overB l = true
    · refine Ev.congr (fun k => if_pos h) ?_
      rw [if_pos h]
      exact Ev.now _
    · refine Ev.congr (fun k => if_neg h) ?_
      rw [if_neg h]
      exact Ev.now _
theorem ev_poS (s : ByteArray) (ps : List ByteArray) (e : ByteArray) (hps : ps.length ≤ 1048576) (hsz : ∀ x ∈ ps, x.size ≤ 1048576) : ∀ (rest pre : List ByteArray) (acc : List S31), ps = pre ++ rest → acc.length ≤ pre.length →
    Ev (fun k => spec_ParseOverview.l0 k s acc (ps ++ [e]) (pre.length : Int)) (finS s (parV rest acc)) := by
  intro rest
  induction rest with
  | nil =>
    intro pre acc hp hl
    rw [List.append_nil] at hp
    subst hp
    refine Ev.unr ?_
    simp only [spec_ParseOverview.l0, parV, finS]
    have hw : wrap64 (((ps ++ [e]).length : Int) - 1) = (ps.length : Int) := by rw [List.length_append, List.length_singleton]; unfold wrap64; omega
    rw [hw]
    refine Ev.congr (fun k => if_neg (by omega)) ?_
    refine Ev.bind (f := fun k t => _) (ev_specOver acc (by omega)) ?_
    by_cases h1 : (overR acc).2 = true
    · refine Ev.congr (fun k => if_pos h1) ?_
      by_cases h2 : (overR acc).1.toList = s.toList
      · refine Ev.congr (fun k => if_pos h2) ?_
        rw [if_pos h1, if_pos h2]
        exact Ev.now _
      · refine Ev.congr (fun k => if_neg h2) ?_
        rw [if_pos h1, if_neg h2]
        exact Ev.now _
    · refine Ev.congr (fun k => if_neg h1) ?_
      rw [if_neg h1]
      exact Ev.now _
  | cons x rest ih =>
    intro pre acc hp hl
    have hlen : ps.length = pre.length + (rest.length + 1) := by rw [hp, List.length_append, List.length_cons]
    have hw : wrap64 (((ps ++ [e]).length : Int) - 1) = (ps.length : Int) := by rw [List.length_append, List.length_singleton]; unfold wrap64; omega
    have hx : rdOf ByteArray.empty (ps ++ [e]) (pre.length : Int) = x := by
      unfold rdOf
      rw [Int.toNat_natCast, hp, List.append_assoc, List.getD_eq_getElem?_getD, List.getElem?_append_right (Nat.le_refl _), Nat.sub_self]
      rfl
    have hxs := hsz x (by rw [hp]; simp)
    refine Ev.unr ?_
    simp only [spec_ParseOverview.l0, parV]
    rw [hw, hx]
    refine Ev.congr (fun k => if_pos (by omega)) (Ev.congr (fun k => if_pos (by omega)) (Ev.congr (fun k => if_pos (by rw [List.length_append, List.length_singleton]; omega)) ?_))
    refine Ev.bind (f := fun k t => _) (pwV_spec x hxs).1 ?_
    by_cases ht : (pwV x).2.2.2.2.2.2 = true
    · rw [if_pos ht]
      refine Ev.congr (fun k => if_pos ht) (Ev.congr (fun k => if_pos (by omega)) ?_)
      rw [wrapS _ (by omega)]
      have hi := ih (pre ++ [x]) (acc ++ [wOf (pwV x)]) (by rw [hp, List.append_assoc]; rfl) (by rw [List.length_append, List.length_append, List.length_singleton, List.length_singleton]; omega)
      rw [List.length_append, List.length_singleton] at hi
      exact hi
    · rw [if_neg ht]
      exact Ev.congr (fun k => if_neg ht) (Ev.now _)
def NW : List UInt8 := [78, 111, 32, 119, 97, 114, 110, 105, 110, 103, 115, 46, 10]
theorem mkB_inj {a b : List UInt8} (h : mkB a = mkB b) : a = b := by
  have := congrArg (fun x : ByteArray => x.data.toList) h
  exact this
/-- What is read of lines that are known. -/
def Reads (s : ByteArray) (Y : List S31 × Bool) : Prop := ∀ qs : List (List UInt8), (∀ q ∈ qs, 10 ∉ q) → qs ≠ [] → s.toList ≠ NW → s.data.toList = joinN qs → Y = finI (parV (qs.map mkB) [])
/-- Both programs read the same overview of a text. -/
theorem ev_po (s : ByteArray) (hs : s.size ≤ 1048576) : ∃ Y : List S31 × Bool, Ev (fun k => spec_ParseOverview.f k s) Y ∧ Ev (fun k => impl_ParseOverview.f k s) Y ∧ Y.1.length ≤ 1048576 ∧ Reads s Y := by
  by_cases hn : s.toList = NW
  · refine ⟨([], true), ?_, ?_, Nat.zero_le _, fun _ _ _ h => absurd hn h⟩
    · unfold spec_ParseOverview.f
      simp only [Option.bind_some]
      exact Ev.congr (fun k => if_pos hn) (Ev.now _)
    · unfold impl_ParseOverview.f
      exact Ev.congr (fun k => if_pos (beq_iff_eq.2 hn)) (Ev.now _)
  · obtain ⟨qs, e, he, hq, hl⟩ := nl_parts _ s.data.toList (Nat.le_refl _)
    have hse : mkB (joinN qs ++ e) = s := by rw [← hl, mkB_eta]
    have hlen : (joinN qs ++ e).length = s.size := by rw [← hl, ba_len]
    rw [List.length_append] at hlen
    have hjl := joinN_len qs
    have hql : ∀ q ∈ qs, q.length ≤ 1048576 := by
      intro q hm
      obtain ⟨a, b, rfl⟩ := List.append_of_mem hm
      have : ∀ a : List (List UInt8), q.length ≤ (joinN (a ++ q :: b)).length := by
        intro a
        induction a with
        | nil => simp only [List.nil_append, joinN, List.length_append]; omega
        | cons y a ih => simp only [List.cons_append, joinN, List.length_append, List.length_cons]; omega
      have := this a
      omega
    have hsp : spl 10 [] s.data.toList = qs.map mkB ++ [mkB e] := by rw [hl]; exact spl_parts qs e he hq
    have hli : linesF s.size s = qs.map (fun q => mkB (q ++ [10])) ++ (if e = [] then [] else [mkB e]) := by
      have := lines_parts qs e he hq s.size (by rw [List.length_append]; omega)
      rw [hse] at this
      exact this
    have hS0 := ev_split s hs 10
    rw [hsp] at hS0
    have hpl : ∀ x ∈ qs.map mkB, x.size ≤ 1048576 := by
      intro x hx
      obtain ⟨q, hm, rfl⟩ := List.mem_map.1 hx
      rw [mkB_size]
      exact hql q hm
    have hlp : (qs.map mkB ++ [mkB e]).length = qs.length + 1 := by rw [List.length_append, List.length_map, List.length_singleton]
    have huq : ∀ qs' : List (List UInt8), (∀ q ∈ qs', 10 ∉ q) → s.data.toList = joinN qs' → e = [] ∧ qs'.map mkB = qs.map mkB := by
      intro qs' hq' hl'
      have h1 : spl 10 [] s.data.toList = qs'.map mkB ++ [mkB []] := by
        have := spl_parts qs' [] (by simp) hq'
        rw [List.append_nil, ← hl'] at this
        exact this
      rw [hsp] at h1
      have h2 := List.append_inj_right' h1 rfl
      injection h2 with h3 _
      exact ⟨mkB_inj h3, (List.append_inj_left' h1 rfl).symm⟩
    -- the second program
    have hspec : Ev (fun k => spec_ParseOverview.f k s) (if s.size > 2000 ∨ qs = [] then ([], false) else finS s (parV (qs.map mkB) [])) := by
      unfold spec_ParseOverview.f
      simp only [Option.bind_some]
      refine Ev.congr (fun k => if_neg hn) ?_
      refine Ev.bind (f := fun k t => _) hS0 ?_
      by_cases h2 : s.size > 2000
      · rw [if_pos (.inl h2)]
        refine Ev.congr (fun k => if_pos (by omega)) (Ev.unr ?_)
        simp only [spec_ParseOverview.j0, if_true]
        exact Ev.now _
      · refine Ev.congr (fun k => if_neg (by omega)) (Ev.unr ?_)
        simp only [spec_ParseOverview.j0]
        by_cases h3 : qs = []
        · rw [if_pos (.inr h3)]
          exact Ev.congr (fun k => if_pos (decide_eq_true (by rw [hlp, h3]; simp))) (Ev.now _)
        · rw [if_neg (by simp [h2, h3])]
          have hp := List.length_pos_iff.2 h3
          refine Ev.congr (fun k => if_neg (by rw [decide_eq_true_iff, hlp]; omega)) ?_
          exact ev_poS s (qs.map mkB) (mkB e) (by rw [List.length_map]; omega) hpl (qs.map mkB) [] [] rfl (Nat.le_refl _)
    have hb : (s.toList == [78, 111, 32, 119, 97, 114, 110, 105, 110, 103, 115, 46, 10]) = false := beq_eq_false_iff_ne.2 hn
    by_cases he0 : e = []
    · subst he0
      rw [if_pos rfl, List.append_nil] at hli
      rw [List.append_nil] at hse
      simp only [List.length_nil, Nat.add_zero] at hlen
      by_cases h3 : qs = []
      · subst h3
        refine ⟨([], false), by simpa using hspec, ?_, Nat.zero_le _, fun qs' hq' hne _ hl' => absurd (List.map_eq_nil_iff.1 (huq qs' hq' hl').2) hne⟩
        unfold impl_ParseOverview.f
        refine Ev.congr (fun k => if_neg (by rw [hb]; simp)) ?_
        have h0 : s.size = 0 := by simpa [joinN] using hlen.symm
        refine Ev.congr (fun k => if_pos (by omega)) ?_
        refine Ev.bind (f := fun k t => _) (Ev.eq_now fun k => show strings_HasSuffix.f s ⟨#[10]⟩ = some false from by rw [← hse]; exact hasS [] false ends_nil) ?_
        exact Ev.congr (fun k => if_neg (by simp)) (Ev.now _)
      · have hends : strings_HasSuffix.f s ⟨#[10]⟩ = some true := by
          obtain ⟨qs', q, hqq⟩ : ∃ qs' q, qs = qs' ++ [q] := ⟨qs.dropLast, qs.getLast h3, (List.dropLast_concat_getLast h3).symm⟩
          rw [← hse, hqq, joinN_snoc, ← List.append_assoc]
          refine hasS _ true ?_
          have := ends_last (joinN qs' ++ q) 10 (by
            have h4 : (joinN qs).length = (joinN qs' ++ q).length + 1 := by rw [hqq, joinN_snoc]; simp only [List.length_append, List.length_singleton]; omega
            omega)
          simpa using this
        have himpl : s.size ≤ 4000 → Ev (fun k => impl_ParseOverview.f k s) (finI (parV (qs.map mkB) [])) := by
          intro h4
          unfold impl_ParseOverview.f
          refine Ev.congr (fun k => if_neg (by rw [hb]; simp)) (Ev.congr (fun k => if_pos h4) ?_)
          refine Ev.bind (f := fun k t => _) (Ev.eq_now fun k => hends) (Ev.congr (fun k => if_pos rfl) ?_)
          rw [hli]
          refine Ev.bind (f := fun k t => _) (ev_poL qs [] hql (by simp only [List.length_nil]; omega)) ?_
          refine ev_poE _ fun l hl => ?_
          obtain ⟨ws, e1, e2, _⟩ := parV_some qs [] l hql hl
          rw [List.nil_append] at e1
          rw [e1, e2]
          omega
        cases hp : parV (qs.map mkB) [] with
        | none =>
          rw [hp] at hspec himpl
          refine ⟨([], false), by simpa [finS] using hspec, ?_, Nat.zero_le _, fun qs' hq' hne _ hl' => by rw [(huq qs' hq' hl').2, hp]; rfl⟩
          by_cases h4 : s.size ≤ 4000
          · exact himpl h4
          · unfold impl_ParseOverview.f
            exact Ev.congr (fun k => if_neg (by rw [hb]; simp)) (Ev.congr (fun k => if_neg h4) (Ev.now _))
        | some out =>
          rw [hp] at hspec himpl
          obtain ⟨ws, e1, e2, e3, e4, e5⟩ := parV_some qs [] out hql hp
          rw [List.nil_append] at e1
          subst e1
          have hpos := List.length_pos_iff.2 h3
          have hov : (overR out).1.toList = s.toList ∨ overB out = false := by
            cases ho : overB out with
            | false => exact .inr rfl
            | true =>
              refine .inl ?_
              unfold overR
              rw [if_pos ho, if_neg (by omega), e4, hse]
              show (ByteArray.empty ++ s).toList = s.toList
              rw [ByteArray.empty_append]
          have hfs : finS s (some out) = finI (some out) := by
            simp only [finS, finI]
            cases ho : overB out with
            | false =>
              rw [show (overR out).2 = false from by unfold overR; rw [if_neg (by rw [ho]; simp)]]
              rfl
            | true =>
              rw [show (overR out).2 = true from by unfold overR; rw [if_pos ho, if_neg (by omega)], if_pos rfl, if_pos rfl]
              rcases hov with h | h
              · rw [if_pos h]
              · rw [ho] at h; cases h
          have hbig : s.size > 2000 → finI (some out) = ([], false) := by
            intro h2
            simp only [finI]
            cases ho : overB out with
            | false => rfl
            | true =>
              have h12 := (over_ok ho).1
              have := joinN_le 120 qs e5
              have : (120 + 1) * qs.length ≤ 1452 := by omega
              omega
          rw [hfs] at hspec
          refine ⟨finI (some out), ?_, ?_, ?_, fun qs' hq' hne _ hl' => by rw [(huq qs' hq' hl').2, hp]⟩
          · by_cases h2 : s.size > 2000
            · rw [if_pos (.inl h2)] at hspec
              rw [hbig h2]
              exact hspec
            · rw [if_neg (by simp [h2, h3])] at hspec
              exact hspec
          · by_cases h4 : s.size ≤ 4000
            · exact himpl h4
            · rw [hbig (by omega)]
              unfold impl_ParseOverview.f
              exact Ev.congr (fun k => if_neg (by rw [hb]; simp)) (Ev.congr (fun k => if_neg h4) (Ev.now _))
          · simp only [finI]
            split
            · show out.length ≤ 1048576
              omega
            · exact Nat.zero_le _
    · -- the last piece is no line
      have hends : strings_HasSuffix.f s ⟨#[10]⟩ = some false := by
        obtain ⟨e', x, hex⟩ : ∃ e' x, e = e' ++ [x] := ⟨e.dropLast, e.getLast he0, (List.dropLast_concat_getLast he0).symm⟩
        have hx : x ≠ 10 := fun h => he (by rw [hex, h]; simp)
        rw [← hse, hex, ← List.append_assoc]
        refine hasS _ false ?_
        have := ends_last (joinN qs ++ e') x (by rw [List.length_append]; rw [hex, List.length_append] at hlen; omega)
        rw [decide_eq_false hx] at this
        exact this
      have himpl : Ev (fun k => impl_ParseOverview.f k s) (([] : List S31), false) := by
        unfold impl_ParseOverview.f
        refine Ev.congr (fun k => if_neg (by rw [hb]; simp)) ?_
        by_cases h4 : s.size ≤ 4000
        · refine Ev.congr (fun k => if_pos h4) ?_
          exact Ev.bind (f := fun k t => _) (Ev.eq_now fun k => hends) (Ev.congr (fun k => if_neg (by simp)) (Ev.now _))
        · exact Ev.congr (fun k => if_neg h4) (Ev.now _)
      refine ⟨([], false), ?_, himpl, Nat.zero_le _, fun qs' hq' hne _ hl' => absurd (huq qs' hq' hl').1 he0⟩
      split at hspec
      · exact hspec
      · rename_i hc
        cases hp : parV (qs.map mkB) [] with
        | none =>
          rw [hp] at hspec
          exact hspec
        | some out =>
          rw [hp] at hspec
          obtain ⟨ws, e1, e2, e3, e4, e5⟩ := parV_some qs [] out hql hp
          rw [List.nil_append] at e1
          subst e1
          have h3 : qs ≠ [] := fun h => hc (.inr h)
          have hpos := List.length_pos_iff.2 h3
          have : finS s (some out) = ([], false) := by
            simp only [finS]
            cases ho : overB out with
            | false =>
              rw [show (overR out).2 = false from by unfold overR; rw [if_neg (by rw [ho]; simp)]]
              rfl
            | true =>
              rw [show overR out = (ovT out (⟨#[]⟩ : ByteArray), true) from by unfold overR; rw [if_pos ho, if_neg (by omega)], if_pos rfl, if_neg]
              rw [e4, ← hse]
              intro h
              rw [Lib.toList_data, Lib.toList_data, ba_app] at h
              have h5 := congrArg List.length h
              rw [mkB_list, mkB_list, List.length_append, List.length_append] at h5
              have h6 : 0 < e.length := List.length_pos_iff.2 he0
              have h7 : (⟨#[]⟩ : ByteArray).data.toList.length = 0 := rfl
              omega
          rw [this] at hspec
          exact hspec
end Go.Proofs.YtleadjbfcenofaaDoor.Q.Ov
/- The laws' helpers on lists of Warning: marks, what is held, equality. -/
namespace Go.Proofs.YtleadjbfcenofaaDoor.Q
open Go.RowKit Go.Proofs.YtleadjbfcenofaaDoorW.PrintWords Go.Proofs.YtleadjbfcenofaaDoor.Gen
set_option linter.unusedVariables false
set_option linter.unusedSimpArgs false
def mkW (m : Int) : S31 := ⟨m, m + 1, m + 2, m + 3, m + 4, m + 5⟩
def marksW (n : Nat) : List S31 := (List.range n).map fun (i : Nat) => mkW (1 + 6 * (i : Int))
theorem marksW_length (n : Nat) : (marksW n).length = n := by simp [marksW]
theorem marksW_get (n i : Nat) (hi : i < n) : (marksW n).getD i z31 = mkW (1 + 6 * (i : Int)) := by
  rw [List.getD_eq_getElem?_getD]
  simp [marksW, hi]
theorem rdVW (l : List S31) (i : Nat) : rd_T31 l (i : Int) = l.getD i z31 := rfl
theorem ev_markVW (l : List S31) (hl : l.length ≤ 1073741824) : Ev (fun k => laws_markWarningS.f k l 1) (1 + 6 * (l.length : Int), marksW l.length) := by
  unfold laws_markWarningS.f
  let f : Nat → List S31 × Int → (Int × List S31) ⊕ (List S31 × Int) := fun i s => .inr (s.1.set i (mkW s.2), s.2 + 6)
  have key := ev_run (fun k (s : List S31 × Int) i => laws_markWarningS.l0 k s.1 s.2 i) l.length f (fun s => (s.2, s.1)) (fun i s => s.1.length = l.length ∧ s.2 = 1 + 6 * (i : Int))
    (by intro i s b hi _ h; cases h)
    (by
      rintro i ⟨s1, s2⟩ s' r hi ⟨h1, h2⟩ h
      cases h
      dsimp only at h1 h2
      refine ⟨⟨by simpa using h1, by dsimp only; omega⟩, fun he => Ev.congr (fun k => ?_) he⟩
      simp only [laws_markWarningS.l0]
      rw [if_pos (by omega), if_pos (by omega), wrapS i (by omega), wrapS' (s2) (by omega) (by omega), wrapS' (s2 + 1) (by omega) (by omega), wrapS' (s2 + 1 + 1) (by omega) (by omega), wrapS' (s2 + 1 + 1 + 1) (by omega) (by omega), wrapS' (s2 + 1 + 1 + 1 + 1) (by omega) (by omega), wrapS' (s2 + 1 + 1 + 1 + 1 + 1) (by omega) (by omega)]
      have e : ∀ (q : List S31) (v : S31), q.length = l.length → rd_T31 (q.set i v) (i : Int) = v := fun q v hq => by
        rw [rdVW, List.getD_eq_getElem?_getD, List.getElem?_set_self (by omega)]; rfl
      simp only [Option.bind_some, Int.toNat_natCast, e s1 _ h1, List.set_set, Int.add_assoc]
      rfl)
    (by
      rintro ⟨s1, s2⟩ ⟨h1, h2⟩
      dsimp only at h1 h2
      refine Ev.eq_now fun k => ?_
      simp only [laws_markWarningS.l0]
      rw [if_neg (by omega)])
    l.length 0 (l, 1) (by omega) ⟨rfl, by simp⟩
  have hv : run f (fun s => (s.2, s.1)) l.length 0 (l, 1) = (1 + 6 * (l.length : Int), marksW l.length) := by
    refine run_inv (n := l.length) (fun i s => s.1.length = l.length ∧ s.2 = 1 + 6 * (i : Int) ∧ ∀ j, j < i → s.1[j]? = some (mkW (1 + 6 * (j : Int)))) (fun b => b = (1 + 6 * (l.length : Int), marksW l.length)) (fun i s b _ _ h => by cases h) ?_ ?_ l.length 0 (l, 1) (by omega) ⟨rfl, by simp, fun j hj => absurd hj (Nat.not_lt_zero _)⟩
    · rintro i ⟨s1, s2⟩ s' hi ⟨h1, h2, h3⟩ h
      cases h
      dsimp only at h1 h2 h3 ⊢
      refine ⟨by simpa using h1, by omega, fun j hj => ?_⟩
      by_cases e : j = i
      · subst e
        rw [List.getElem?_set_self (by omega), h2]
      · rw [List.getElem?_set_ne (by omega)]
        exact h3 j (by omega)
    · rintro ⟨s1, s2⟩ ⟨h1, h2, h3⟩
      dsimp only at h1 h2 h3 ⊢
      rw [h2]
      congr 1
      apply List.ext_getElem?
      intro j
      by_cases hj : j < l.length
      · rw [h3 j hj]
        simp [marksW, hj]
      · rw [List.getElem?_eq_none (by omega), List.getElem?_eq_none (by rw [marksW_length]; omega)]
  rw [hv] at key
  exact key
theorem ev_heldVW (n : Nat) (hn : n ≤ 1073741824) : Ev (fun k => laws_heldWarningS.f k (marksW n) 1) (1 + 6 * (n : Int)) := by
  unfold laws_heldWarningS.f
  have key := ev_run (fun k (s : Int) i => laws_heldWarningS.l0 k (marksW n) s i) n (fun i s => .inr (s + 6)) (fun s => s) (fun i s => s = 1 + 6 * (i : Int))
    (by intro i s b hi _ h; cases h)
    (by
      intro i s s' r hi h1 h
      cases h
      refine ⟨by omega, fun he => Ev.congr (fun k => ?_) he⟩
      simp only [laws_heldWarningS.l0]
      rw [marksW_length, if_pos (by omega), if_pos (by omega), rdVW, marksW_get n i hi, wrapS i (by omega), wrapS' (s) (by omega) (by omega), wrapS' (s + 1) (by omega) (by omega), wrapS' (s + 1 + 1) (by omega) (by omega), wrapS' (s + 1 + 1 + 1) (by omega) (by omega), wrapS' (s + 1 + 1 + 1 + 1) (by omega) (by omega), wrapS' (s + 1 + 1 + 1 + 1 + 1) (by omega) (by omega)]
      simp only [mkW, Int.add_assoc, ← h1]
      simp only [Int.reduceAdd, if_true])
    (by
      intro s h1
      refine Ev.eq_now fun k => ?_
      simp only [laws_heldWarningS.l0]
      rw [marksW_length, if_neg (by omega)])
    n 0 1 (by omega) (by simp)
  have hv : run (fun i (s : Int) => (.inr (s + 6) : Int ⊕ Int)) (fun s => s) n 0 1 = 1 + 6 * (n : Int) :=
    run_inv (n := n) (fun i s => s = 1 + 6 * (i : Int)) (fun b => b = 1 + 6 * (n : Int)) (fun i s b _ _ h => by cases h) (fun i s s' _ h1 h => by cases h; omega) (fun s h1 => h1) n 0 1 (by omega) (by simp)
  rw [hv] at key
  exact key
theorem ev_eqVW (l : List S31) (hl : l.length ≤ 4611686018427387904) : Ev (fun k => laws_eqWarningS.f k l l) true := by
  unfold laws_eqWarningS.f
  refine Ev.congr (f := fun k => laws_eqWarningS.l0 k l l ((0 : Nat) : Int)) (fun k => by rw [if_pos rfl]; rfl) ?_
  have key := ev_run (fun k (s : Unit) i => laws_eqWarningS.l0 k l l i) l.length (fun _ _ => .inr ()) (fun _ => true) (fun _ _ => True)
    (by intro i s b hi _ h; cases h)
    (by
      intro i s s' r hi hs h
      refine ⟨trivial, fun he => Ev.congr (fun k => ?_) he⟩
      have e : ∀ y : S31, laws_eqWarning.f y.f0 y.f1 y.f2 y.f3 y.f4 y.f5 y.f0 y.f1 y.f2 y.f3 y.f4 y.f5 = some true := fun y => by unfold laws_eqWarning.f; simp
      simp only [laws_eqWarningS.l0]
      rw [if_pos (by omega), if_pos (by omega), if_pos (by omega), rdVW, e, wrapS i (by omega)]
      rfl)
    (by
      intro s _
      refine Ev.eq_now fun k => ?_
      simp only [laws_eqWarningS.l0]
      rw [if_neg (by omega)])
    l.length 0 () (by omega) trivial
  have hv : run (fun _ (_ : Unit) => (.inr () : Bool ⊕ Unit)) (fun _ => true) l.length 0 () = true :=
    run_inv (n := l.length) (fun _ _ => True) (fun b => b = true) (fun i s b _ _ h => by cases h) (fun _ _ _ _ _ _ => trivial) (fun _ _ => rfl) _ _ _ (by omega) trivial
  rw [hv] at key
  exact key
end Go.Proofs.YtleadjbfcenofaaDoor.Q
/- The two programs read the same overview of a text: for every text. -/
set_option linter.unusedVariables false
set_option linter.unusedSimpArgs false
namespace Go.Proofs.YtleadjbfcenofaaDoor.Pure
open Go.RowKit Go.Proofs.YtleadjbfcenofaaDoorW.PrintWords Go.Proofs.YtleadjbfcenofaaDoor.Tells Go.Proofs.YtleadjbfcenofaaDoor.Q Go.Proofs.YtleadjbfcenofaaDoor.Q.Ov Go.Proofs.YtleadjbfcenofaaDoor.Gen
theorem FnExactParseOverview : ∀ (a0 : ByteArray), a0.size ≤ maxLen → ∃ k, laws_FnExactParseOverview.f k a0 = some true := by
  intro s _
  refine Ev.rounds ?_
  unfold laws_FnExactParseOverview.f
  by_cases h : (s.size : Int) > 1048576
  · exact Ev.congr (fun k => if_pos h) (Ev.now _)
  · refine Ev.congr (fun k => if_neg h) ?_
    obtain ⟨Y, hS, hI, hl, _⟩ := ev_po s (by omega)
    have he := ev_eqVW Y.1 (by omega)
    have hm := ev_markVW Y.1 (by omega)
    have hh := ev_heldVW Y.1.length (by omega)
    refine Ev.bind (f := fun k t => _) hS ?_
    refine Ev.bind (f := fun k t => _) hI ?_
    refine Ev.bind (f := fun k t => _) he ?_
    refine Ev.congr (fun k => if_pos rfl) (Ev.unr ?_)
    simp only [laws_FnExactParseOverview.j0]
    refine Ev.congr (fun k => if_neg (by simp)) ?_
    refine Ev.bind (f := fun k t => _) hm ?_
    refine Ev.bind (f := fun k t => _) hh ?_
    refine Ev.congr (fun k => if_neg (by omega)) (Ev.congr (fun k => if_pos rfl) ?_)
    refine Ev.bind (f := fun k t => _) hI ?_
    refine Ev.bind (f := fun k t => _) he ?_
    refine Ev.congr (fun k => if_pos rfl) (Ev.unr ?_)
    simp only [laws_FnExactParseOverview.j1]
    refine Ev.congr (fun k => if_neg (by simp)) ?_
    refine Ev.bind (f := fun k t => _) hh ?_
    exact Ev.congr (fun k => if_neg (by omega)) (Ev.congr (fun k => if_pos rfl) (Ev.now _))
end Go.Proofs.YtleadjbfcenofaaDoor.Pure
