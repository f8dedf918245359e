/- Texts of this claim, put together: walks of the program's functions, and plain facts. -/
import Derived.Test.YtleadjbfcenofaaGreatDoorZFnWarningTexts
import Derived.Lib.ItoaMem
import Derived.Lib.CutLaws
import Derived.Lib.AtoiAllCases
import Derived.Laws.BitsLemmas
import Derived.Test.YtleadjbfcenofaaGreatDoorBFnWarningTexts0
import Derived.Test.YtleadjbfcenofaaGreatDoorBFnWarningTexts1
import Derived.Test.YtleadjbfcenofaaGreatDoorBFnWarningTexts2
import Derived.Test.YtleadjbfcenofaaGreatDoorBFnWarningTexts3
import Derived.Test.YtleadjbfcenofaaGreatDoorBFnWarningTexts4
import Derived.Test.YtleadjbfcenofaaGreatDoorBFnWarningTexts5
import Derived.Test.YtleadjbfcenofaaGreatDoorBFnWarningTexts6
import Derived.Test.YtleadjbfcenofaaGreatDoorBFnWarningTexts7
import Derived.Test.YtleadjbfcenofaaGreatDoorBFnWarningTexts9
import Derived.Test.YtleadjbfcenofaaGreatDoorBFnWarningTexts10
import Derived.Test.YtleadjbfcenofaaGreatDoorBFnWarningTexts11
namespace Go.Proofs.YtleadjbfcenofaaGreatDoor.Gen
open Go.RowKit Go.Proofs.YtleadjbfcenofaaGreatDoorW.PrintWords
set_option linter.unusedVariables false
set_option linter.unusedSimpArgs false
end Go.Proofs.YtleadjbfcenofaaGreatDoor.Gen
namespace Go.Proofs.YtleadjbfcenofaaGreatDoor.Q
open Go.RowKit Go.Proofs.YtleadjbfcenofaaGreatDoorW.PrintWords Go.Proofs.YtleadjbfcenofaaGreatDoor.Gen
set_option linter.unusedVariables false
set_option linter.unusedSimpArgs false
def decN (n : Nat) : ByteArray := ⟨(Lib.decDigits n).toArray⟩
theorem decS_nat (n : Nat) : decS (n : Int) = decN n := by unfold decS decN; rw [Lib.itoa_nonneg]
def digN (d : Nat) : ByteArray := ⟨#[UInt8.ofNat (48 + d)]⟩
theorem ba_ext {a b : ByteArray} (h : a.data.toList = b.data.toList) : a = b := by
  cases a with
  | mk a => cases b with
    | mk b =>
      have h' : a.toList = b.toList := h
      rw [show a = b from Array.toList_inj.1 h']
theorem ba_app (a b : ByteArray) : (a ++ b).data.toList = a.data.toList ++ b.data.toList := by simp
theorem ba_assoc (a b c : ByteArray) : (a ++ b) ++ c = a ++ (b ++ c) := ba_ext (by rw [ba_app, ba_app, ba_app, ba_app, List.append_assoc])
theorem ba_size_app (a b : ByteArray) : (a ++ b).size = a.size + b.size := ByteArray.size_append
theorem decN_small {n : Nat} (h : n < 10) : decN n = digN n := by
  unfold decN digN
  rw [Lib.decDigits, dif_pos h]
theorem decN_big {n : Nat} (h : ¬ n < 10) : decN n = decN (n / 10) ++ digN (n % 10) := by
  apply ba_ext
  rw [ba_app]
  unfold decN digN
  conv => lhs; rw [Lib.decDigits, dif_neg h]
theorem decN_size_pos (n : Nat) : 0 < (decN n).size := by
  by_cases h : n < 10
  · rw [decN_small h]; exact Nat.one_pos
  · rw [decN_big h, ba_size_app]; exact Nat.add_pos_right _ Nat.one_pos
theorem decN_size_one (n : Nat) : (decN n).size = 1 ↔ n < 10 := by
  constructor
  · intro h
    by_cases h2 : n < 10
    · exact h2
    · rw [decN_big h2, ba_size_app] at h
      have := decN_size_pos (n / 10)
      have e : (digN (n % 10)).size = 1 := rfl
      omega
  · intro h; rw [decN_small h]; rfl
theorem decN_size (n : Nat) (h : n ≤ 9223372036854775807) : (decN n).size ≤ 21 := by
  rw [← decS_nat]; exact decS_size _ (by omega) (by omega)
theorem cut_digit : ∀ d : Nat, d < 10 → (⟨#[48, 49, 50, 51, 52, 53, 54, 55, 56, 57]⟩ : ByteArray).extract d (d + 1) = digN d := by
  intro d hd
  have : d = 0 ∨ d = 1 ∨ d = 2 ∨ d = 3 ∨ d = 4 ∨ d = 5 ∨ d = 6 ∨ d = 7 ∨ d = 8 ∨ d = 9 := by omega
  rcases this with rfl | rfl | rfl | rfl | rfl | rfl | rfl | rfl | rfl | rfl <;> (apply ba_ext; decide +kernel)
theorem num_f : ∀ (k n : Nat), n < 10 ^ k → n ≤ 4611686018427387904 → ∀ j, k + 1 ≤ j → spec_l1Num.f j (n : Int) = some (decN n) := by
  intro k
  induction k with
  | zero =>
    intro n hn _ j hj
    obtain ⟨j, rfl⟩ : ∃ q, j = q + 1 := ⟨j - 1, by omega⟩
    have h : n < 10 := by
      have : n < 1 := by simpa using hn
      omega
    simp only [spec_l1Num.f]
    rw [if_neg (by omega), if_pos (by omega), if_pos (by omega), show wrap64 ((n : Int) + 1) = ((n + 1 : Nat) : Int) from by unfold wrap64; omega, if_pos (by omega), if_pos (by omega), Int.toNat_natCast, Int.toNat_natCast, cut_digit n h, decN_small h]
  | succ k ih =>
    intro n hn hb j hj
    obtain ⟨j, rfl⟩ : ∃ q, j = q + 1 := ⟨j - 1, by omega⟩
    by_cases h : n < 10
    · simp only [spec_l1Num.f]
      rw [if_neg (by omega), if_pos (by omega), if_pos (by omega), show wrap64 ((n : Int) + 1) = ((n + 1 : Nat) : Int) from by unfold wrap64; omega, if_pos (by omega), if_pos (by omega), Int.toNat_natCast, Int.toNat_natCast, cut_digit n h, decN_small h]
    · have hd : n / 10 < 10 ^ k := by rw [Nat.pow_succ] at hn; omega
      have hi := ih (n / 10) hd (by omega) j (by omega)
      have hs := decN_size (n / 10) (by omega)
      have hm : n % 10 < 10 := Nat.mod_lt _ (by omega)
      simp only [spec_l1Num.f]
      rw [if_neg (by omega), if_neg (by omega), show Int.tdiv (n : Int) 10 = ((n / 10 : Nat) : Int) from (Int.ofNat_tdiv n 10).symm, show Int.tmod (n : Int) 10 = ((n % 10 : Nat) : Int) from (Int.ofNat_tmod n 10).symm, show wrap64 ((n / 10 : Nat) : Int) = ((n / 10 : Nat) : Int) from by unfold wrap64; omega, hi, Option.bind_some]
      rw [if_pos (by omega), show wrap64 (((n % 10 : Nat) : Int) + 1) = ((n % 10 + 1 : Nat) : Int) from by unfold wrap64; omega, if_pos (by omega), if_pos (by omega), Int.toNat_natCast, Int.toNat_natCast, cut_digit _ hm]
      have e1 : (digN (n % 10)).size = 1 := rfl
      rw [if_pos (by omega), decN_big h]
theorem ev_num (n : Nat) (h : n < 1000000) : Ev (fun k => spec_l1Num.f k (n : Int)) (decN n) := ⟨7, fun k hk => num_f 6 n (by omega) (by omega) k hk⟩
def cutV (s sep : ByteArray) : ByteArray × ByteArray × Bool := (⟨(Lib.cut s.data.toList sep.data.toList).1.toArray⟩, ⟨(Lib.cut s.data.toList sep.data.toList).2.1.toArray⟩, (Lib.cut s.data.toList sep.data.toList).2.2)
theorem implCut_f (s sep : ByteArray) (h : s.size < 4294967281) : strings_Cut.f s sep = some (cutV s sep) := by
  unfold strings_Cut.f
  rw [if_pos h]
  rfl
theorem ba_len (s : ByteArray) : s.data.toList.length = s.size := Array.length_toList
theorem cut_len (l sep : List UInt8) : (Lib.cut l sep).1.length ≤ l.length ∧ (Lib.cut l sep).2.1.length ≤ l.length := by
  unfold Lib.cut
  split
  · constructor
    · simp only [List.length_take]; omega
    · simp only [List.length_drop]; omega
  · constructor
    · exact Nat.le_refl _
    · exact Nat.zero_le _
theorem cutV_size (s sep : ByteArray) : (cutV s sep).1.size ≤ s.size ∧ (cutV s sep).2.1.size ≤ s.size := by
  have h := cut_len s.data.toList sep.data.toList
  rw [ba_len] at h
  exact ⟨by rw [← ba_len]; exact h.1, by rw [← ba_len]; exact h.2⟩
theorem ext_list (s : ByteArray) (i j : Nat) : (s.extract i j).toList = (s.data.toList.drop i).take (j - i) := by
  rw [Lib.toList_data, ByteArray.data_extract, Array.toList_extract, List.extract_eq_take_drop]
theorem ev_cut16 (s sep : ByteArray) (hs : s.size ≤ 1048576) (hp : sep.size ≤ 1000) : Ev (fun k => spec_l16Cut.f k s sep) (cutV s sep) := by
  unfold spec_l16Cut.f
  have hl := ba_len s
  have hq := ba_len sep
  rcases Lib.index_spec s.data.toList sep.data.toList with ⟨h1, h2⟩ | ⟨i0, h1, h2, h3, h4⟩
  · have e : cutV s sep = (s, ⟨#[]⟩, false) := by
      obtain ⟨q1, q2, q3⟩ := Lib.cutB_miss s sep h1
      unfold cutV
      rw [q1, q2, q3]
      rfl
    rw [e]
    have key : ∀ d i : Nat, i + d = s.size + 1 → Ev (fun k => spec_l16Cut.l0 k s sep (i : Int)) (s, ⟨#[]⟩, false) := by
      intro d
      induction d with
      | zero =>
        intro i hi
        refine Ev.unr ?_
        simp only [spec_l16Cut.l0]
        exact Ev.congr (fun k => if_neg (by unfold wrap64; omega)) (Ev.now _)
      | succ d ih =>
        intro i hi
        refine Ev.unr ?_
        simp only [spec_l16Cut.l0]
        rw [show wrap64 ((i : Int) + (sep.size : Int)) = ((i + sep.size : Nat) : Int) from by unfold wrap64; omega]
        by_cases c : i + sep.size ≤ s.size
        · have ho := h2 i (by omega)
          rw [Lib.occAt_iff_take _ _ _ (by omega)] at ho
          refine Ev.congr (fun k => if_pos (by omega)) (Ev.congr (fun k => if_pos (by omega)) (Ev.congr (fun k => if_pos (by omega)) (Ev.congr (fun k => if_neg ?_) ?_)))
          · rw [Int.toNat_natCast, Int.toNat_natCast, ext_list, Lib.toList_data, show i + sep.size - i = sep.size from by omega, ← hq]
            exact beq_eq_false_iff_ne.1 ho
          · rw [wrapS i (by omega)]
            exact ih (i + 1) (by omega)
        · exact Ev.congr (fun k => if_neg (by omega)) (Ev.now _)
    exact key (s.size + 1) 0 (by omega)
  · have hr := Lib.index_room s.data.toList sep.data.toList (by omega)
    have e : cutV s sep = (s.extract 0 i0, s.extract (i0 + sep.size) s.size, true) := by
      obtain ⟨q1, q2, q3⟩ := Lib.cutB_hit s sep i0 h1
      unfold cutV
      rw [q1, q2, q3]
    rw [e]
    have key : ∀ d i : Nat, i + d = i0 → Ev (fun k => spec_l16Cut.l0 k s sep (i : Int)) (s.extract 0 i0, s.extract (i0 + sep.size) s.size, true) := by
      intro d
      induction d with
      | zero =>
        intro i hi
        obtain rfl : i = i0 := by omega
        refine Ev.unr ?_
        simp only [spec_l16Cut.l0]
        rw [show wrap64 ((i : Int) + (sep.size : Int)) = ((i + sep.size : Nat) : Int) from by unfold wrap64; omega]
        rw [Lib.occAt_iff_take _ _ _ (by omega)] at h3
        refine Ev.congr (fun k => if_pos (by omega)) (Ev.congr (fun k => if_pos (by omega)) (Ev.congr (fun k => if_pos (by omega)) (Ev.congr (fun k => if_pos ?_) (Ev.congr (fun k => if_pos (by omega)) (Ev.congr (fun k => if_pos (by omega)) ?_)))))
        · rw [Int.toNat_natCast, Int.toNat_natCast, ext_list, Lib.toList_data, show i + sep.size - i = sep.size from by omega, ← hq]
          exact beq_iff_eq.1 h3
        · rw [Int.toNat_natCast, Int.toNat_natCast]
          exact Ev.now _
      | succ d ih =>
        intro i hi
        refine Ev.unr ?_
        simp only [spec_l16Cut.l0]
        rw [show wrap64 ((i : Int) + (sep.size : Int)) = ((i + sep.size : Nat) : Int) from by unfold wrap64; omega]
        have ho := h4 i (by omega)
        rw [Lib.occAt_iff_take _ _ _ (by omega)] at ho
        refine Ev.congr (fun k => if_pos (by omega)) (Ev.congr (fun k => if_pos (by omega)) (Ev.congr (fun k => if_pos (by omega)) (Ev.congr (fun k => if_neg ?_) ?_)))
        · rw [Int.toNat_natCast, Int.toNat_natCast, ext_list, Lib.toList_data, show i + sep.size - i = sep.size from by omega, ← hq]
          exact beq_eq_false_iff_ne.1 ho
        · rw [wrapS i (by omega)]
          exact ih (i + 1) (by omega)
    exact key i0 0 (by omega)
theorem index_app1 (a : List UInt8) (c : UInt8) (t r : List UInt8) (h : c ∉ a) : Lib.index (a ++ (c :: t ++ r)) (c :: t) = a.length := by
  refine Lib.index_first (by simp) ?_ ?_
  · unfold Lib.occAt
    rw [List.drop_left]
    exact List.isPrefixOf_iff_prefix.2 (List.prefix_append _ _)
  · intro j hj
    cases ho : Lib.occAt (a ++ (c :: t ++ r)) (c :: t) j with
    | false => rfl
    | true =>
      exfalso
      have hh := Lib.occAt_head rfl ho
      rw [List.getElem?_append_left hj] at hh
      exact h (List.mem_of_getElem? hh)
theorem index_app2 (a : List UInt8) (c c1 : UInt8) (t r : List UInt8) (h : c1 ∉ a) (hc : c ≠ c1) : Lib.index (a ++ (c :: c1 :: t ++ r)) (c :: c1 :: t) = a.length := by
  refine Lib.index_first (by simp) ?_ ?_
  · unfold Lib.occAt
    rw [List.drop_left]
    exact List.isPrefixOf_iff_prefix.2 (List.prefix_append _ _)
  · intro j hj
    cases ho : Lib.occAt (a ++ (c :: c1 :: t ++ r)) (c :: c1 :: t) j with
    | false => rfl
    | true =>
      exfalso
      unfold Lib.occAt at ho
      obtain ⟨z, hz⟩ := List.isPrefixOf_iff_prefix.1 ho
      have h1 : (a ++ (c :: c1 :: t ++ r))[j + 1]? = some c1 := by
        have : ((a ++ (c :: c1 :: t ++ r)).drop j)[1]? = some c1 := by rw [← hz]; rfl
        rw [List.getElem?_drop] at this
        exact this
      by_cases e : j + 1 < a.length
      · rw [List.getElem?_append_left e] at h1
        exact h (List.mem_of_getElem? h1)
      · rw [List.getElem?_append_right (by omega), show j + 1 - a.length = 0 from by omega] at h1
        exact hc (Option.some.inj h1)
theorem cutV_app (a sep r : ByteArray) (h : Lib.index (a.data.toList ++ (sep.data.toList ++ r.data.toList)) sep.data.toList = a.data.toList.length) : cutV (a ++ (sep ++ r)) sep = (a, r, true) := by
  unfold cutV Lib.cut
  rw [ba_app, ba_app, h]
  have e1 : (a.data.toList ++ (sep.data.toList ++ r.data.toList)).take ((a.data.toList.length : Int)).toNat = a.data.toList := by
    rw [Int.toNat_natCast, List.take_left]
  have e2 : (a.data.toList ++ (sep.data.toList ++ r.data.toList)).drop (((a.data.toList.length : Int)).toNat + sep.data.toList.length) = r.data.toList := by
    rw [Int.toNat_natCast, ← List.append_assoc, ← List.length_append, List.drop_left]
  rw [if_pos (by omega)]
  dsimp only
  rw [e1, e2]
theorem cutV_1 (a r : ByteArray) (c : UInt8) (t : List UInt8) (sep : ByteArray) (e : sep.data.toList = c :: t) (h : c ∉ a.data.toList) : cutV (a ++ (sep ++ r)) sep = (a, r, true) := by
  refine cutV_app a sep r ?_
  rw [e]
  exact index_app1 _ c t _ h
theorem cutV_2 (a r : ByteArray) (c c1 : UInt8) (t : List UInt8) (sep : ByteArray) (e : sep.data.toList = c :: c1 :: t) (h : c1 ∉ a.data.toList) (hc : c ≠ c1) : cutV (a ++ (sep ++ r)) sep = (a, r, true) := by
  refine cutV_app a sep r ?_
  rw [e]
  exact index_app2 _ c c1 t _ h hc
theorem decN_dig : ∀ (m n : Nat), n ≤ m → ∀ x ∈ (decN n).data.toList, 48 ≤ x.toNat ∧ x.toNat ≤ 57 := by
  have one : ∀ d, d < 10 → ∀ x ∈ (digN d).data.toList, 48 ≤ x.toNat ∧ x.toNat ≤ 57 := by
    intro d hd x hx
    have : x = UInt8.ofNat (48 + d) := by simpa [digN] using hx
    subst this
    rw [UInt8.toNat_ofNat']
    omega
  intro m
  induction m with
  | zero =>
    intro n hn
    rw [decN_small (by omega)]
    exact one n (by omega)
  | succ m ih =>
    intro n hn
    by_cases h : n < 10
    · rw [decN_small h]
      exact one n h
    · rw [decN_big h]
      intro x hx
      rw [ba_app, List.mem_append] at hx
      rcases hx with hx | hx
      · exact ih (n / 10) (by omega) x hx
      · exact one (n % 10) (Nat.mod_lt _ (by omega)) x hx
theorem decN_not (n : Nat) (c : UInt8) (h : c.toNat < 48 ∨ 57 < c.toNat) : c ∉ (decN n).data.toList := by
  intro hx
  have := decN_dig n n (Nat.le_refl _) c hx
  omega
set_option linter.unusedVariables false
set_option linter.unusedSimpArgs false
def dg (d : Nat) : UInt8 := UInt8.ofNat (48 + d)
theorem dg_toNat (d : Nat) (h : d < 10) : (dg d).toNat = 48 + d := by unfold dg; rw [UInt8.toNat_ofNat']; omega
def valD (ds : List Nat) : Nat := ds.foldl (fun a d => 10 * a + d) 0
theorem valD_app (ds : List Nat) (d : Nat) : valD (ds ++ [d]) = 10 * valD ds + d := by unfold valD; rw [List.foldl_append]; rfl
theorem valD_lt : ∀ (ds : List Nat) (acc : Nat), (∀ d ∈ ds, d < 10) → ds.foldl (fun a d => 10 * a + d) acc < (acc + 1) * 10 ^ ds.length
  | [], acc, _ => by simp
  | d :: r, acc, h => by
    have hd := h d (List.mem_cons_self ..)
    have ih := valD_lt r (10 * acc + d) (fun x hx => h x (List.mem_cons_of_mem _ hx))
    rw [List.foldl_cons, List.length_cons, Nat.pow_succ]
    refine Nat.lt_of_lt_of_le ih ?_
    have : (10 * acc + d + 1) ≤ (acc + 1) * 10 := by omega
    calc (10 * acc + d + 1) * 10 ^ r.length ≤ ((acc + 1) * 10) * 10 ^ r.length := Nat.mul_le_mul_right _ this
      _ = (acc + 1) * (10 ^ r.length * 10) := by rw [Nat.mul_assoc, Nat.mul_comm 10]
theorem decN_digits (n : Nat) (h : n ≤ 999) : ∃ ds : List Nat, (∀ d ∈ ds, d < 10) ∧ 1 ≤ ds.length ∧ ds.length ≤ 3 ∧ (decN n).data.toList = ds.map dg ∧ valD ds = n := by
  by_cases h1 : n < 10
  · refine ⟨[n], by simpa using h1, by simp, by simp, ?_, by simp [valD]⟩
    rw [decN_small h1]
    rfl
  · by_cases h2 : n < 100
    · refine ⟨[n / 10, n % 10], ?_, by simp, by simp, ?_, ?_⟩
      · intro d hd
        simp only [List.mem_cons, List.not_mem_nil, or_false] at hd
        omega
      · rw [decN_big h1, decN_small (n := n / 10) (by omega), ba_app]
        rfl
      · simp only [valD, List.foldl_cons, List.foldl_nil]
        omega
    · refine ⟨[n / 10 / 10, n / 10 % 10, n % 10], ?_, by simp, by simp, ?_, ?_⟩
      · intro d hd
        simp only [List.mem_cons, List.not_mem_nil, or_false] at hd
        omega
      · rw [decN_big h1, decN_big (n := n / 10) (by omega), decN_small (n := n / 10 / 10) (by omega), ba_app, ba_app]
        rfl
      · simp only [valD, List.foldl_cons, List.foldl_nil]
        omega
theorem pu_digits : ∀ (ds : List Nat) (acc : Nat), (∀ d ∈ ds, d < 10) → (acc + 1) * 10 ^ ds.length ≤ 1000000 → Lib.parseUint10 acc (ds.map dg) = .ok (ds.foldl (fun a d => 10 * a + d) acc)
  | [], acc, _, _ => rfl
  | d :: r, acc, h, hb => by
    have hd := h d (List.mem_cons_self ..)
    have hp : 0 < 10 ^ r.length := Nat.pow_pos (by decide)
    have hb2 : (10 * acc + d + 1) * 10 ^ r.length ≤ 1000000 := by
      refine Nat.le_trans ?_ hb
      rw [List.length_cons, Nat.pow_succ]
      have : (10 * acc + d + 1) ≤ (acc + 1) * 10 := by omega
      calc (10 * acc + d + 1) * 10 ^ r.length ≤ ((acc + 1) * 10) * 10 ^ r.length := Nat.mul_le_mul_right _ this
        _ = (acc + 1) * (10 ^ r.length * 10) := by rw [Nat.mul_assoc, Nat.mul_comm 10]
    have hs : 10 * acc + d + 1 ≤ 1000000 := Nat.le_trans (Nat.le_mul_of_pos_right _ hp) hb2
    rw [List.map_cons, List.foldl_cons]
    unfold Lib.parseUint10
    rw [dg_toNat d hd, if_pos (by omega), if_neg (by omega), if_neg (by omega), show acc * 10 + (48 + d - 48) = 10 * acc + d from by omega]
    exact pu_digits r _ (fun x hx => h x (List.mem_cons_of_mem _ hx)) hb2
theorem atoi_digits (ds : List Nat) (h : ∀ d ∈ ds, d < 10) (h1 : 1 ≤ ds.length) (h3 : ds.length ≤ 3) : Lib.atoiAll (ds.map dg) = .ok (valD ds : Int) := by
  have hp : (0 + 1) * 10 ^ ds.length ≤ 1000000 := by
    have : 10 ^ ds.length ≤ 10 ^ 3 := Nat.pow_le_pow_right (by omega) h3
    omega
  have hu := pu_digits ds 0 h hp
  have hl := valD_lt ds 0 h
  match ds, h1 with
  | d :: r, _ =>
    have hd := h d (List.mem_cons_self ..)
    have e : Lib.parseMag ((d :: r).map dg) = .ok (valD (d :: r)) := by
      unfold Lib.parseMag
      rw [if_neg (by simp)]
      exact hu
    rw [List.map_cons] at e ⊢
    rw [Lib.atoiAll_plain _ _ (by rw [dg_toNat d hd]; omega) (by rw [dg_toNat d hd]; omega), e]
    have hl2 : valD (d :: r) < (0 + 1) * 10 ^ (d :: r).length := hl
    generalize valD (d :: r) = v at hl2
    show (if 9223372036854775808 ≤ v then Lib.NumEnd.range else .ok (v : Int)) = _
    rw [if_neg (by omega)]
theorem intV_dec (n : Nat) (h : n ≤ 999) : intV (decN n) = ((n : Int), true) := by
  obtain ⟨ds, h1, h2, h3, h4, h5⟩ := decN_digits n h
  unfold intV
  rw [h4, atoi_digits ds h1 h2 h3, h5]
  dsimp only
  rw [if_pos (by omega), if_pos (by rw [decS_nat])]
theorem parseInt_f (s : ByteArray) (h : s.size ≤ 1048576) : impl_ParseInt.f s = some (intV s) := by
  unfold impl_ParseInt.f
  rw [if_pos (by omega)]
theorem bt_list (s : ByteArray) (i : Nat) (h : i < s.data.toList.length) : bt s (i : Int) = ((s.data.toList[i]).toNat : Int) := by
  have h' : i < s.size := by rw [← ba_len]; exact h
  unfold bt
  rw [dif_pos (by rw [Int.toNat_natCast]; exact h')]
  rfl
theorem bt_digits (s : ByteArray) (ds : List Nat) (hs : s.data.toList = ds.map dg) (hd : ∀ d ∈ ds, d < 10) (pre rest : List Nat) (d : Nat) (e : ds = pre ++ d :: rest) : bt s (pre.length : Int) = ((48 + d : Nat) : Int) := by
  have hl : pre.length < s.data.toList.length := by rw [hs, e]; simp
  rw [bt_list s _ hl]
  have : s.data.toList[pre.length] = dg d := by
    simp only [hs, e]
    simp
  rw [this, dg_toNat d (hd d (by rw [e]; simp))]
theorem ex_num (x : Int) (h : -1000000 < x) (h2 : x < 1000000) : ∃ r, Ev (fun k => spec_l1Num.f k x) r := by
  by_cases c : 0 ≤ x
  · obtain ⟨n, rfl⟩ : ∃ n : Nat, x = (n : Int) := ⟨x.toNat, by omega⟩
    exact ⟨_, ev_num n (by omega)⟩
  · obtain ⟨n, hn⟩ : ∃ n : Nat, wrap64 (-x) = (n : Int) := ⟨(-x).toNat, by unfold wrap64; omega⟩
    have hb : n < 1000000 := by unfold wrap64 at hn; omega
    have hs := decN_size n (by omega)
    refine ⟨(⟨#[45]⟩ : ByteArray) ++ decN n, Ev.unr ?_⟩
    simp only [spec_l1Num.f]
    refine Ev.congr (fun k => if_pos (by omega)) ?_
    rw [hn]
    refine Ev.bind (f := fun k t => _) (ev_num n hb) ?_
    exact Ev.congr (fun k => if_pos (by omega)) (Ev.now _)
theorem ex_loop (x0 x4 : ByteArray) (h : x4.size ≤ 6) : ∀ d i x : Nat, i + d = x4.size → x < 10 ^ i → ∃ r, Ev (fun k => spec_l1Read.l0 k x0 x4 (x : Int) (i : Int)) r := by
  intro d
  induction d with
  | zero =>
    intro i x hi hx
    have hp : 10 ^ i ≤ 10 ^ 6 := Nat.pow_le_pow_right (by omega) (by omega)
    by_cases c : x4.size < x0.size
    · obtain ⟨r, hr⟩ := ex_num (wrap64 (-(x : Int))) (by unfold wrap64; omega) (by unfold wrap64; omega)
      by_cases e : r.toList = x0.toList
      · refine ⟨(wrap64 (-(x : Int)), true), Ev.unr ?_⟩
        simp only [spec_l1Read.l0]
        refine Ev.congr (fun k => if_neg (by omega)) (Ev.congr (fun k => if_pos (by omega)) ?_)
        exact Ev.bind (f := fun k t => _) hr (Ev.congr (fun k => if_pos e) (Ev.now _))
      · refine ⟨(0, false), Ev.unr ?_⟩
        simp only [spec_l1Read.l0]
        refine Ev.congr (fun k => if_neg (by omega)) (Ev.congr (fun k => if_pos (by omega)) ?_)
        exact Ev.bind (f := fun k t => _) hr (Ev.congr (fun k => if_neg e) (Ev.now _))
    · obtain ⟨r, hr⟩ := ex_num (x : Int) (by omega) (by omega)
      by_cases e : r.toList = x0.toList
      · refine ⟨((x : Int), true), Ev.unr ?_⟩
        simp only [spec_l1Read.l0]
        refine Ev.congr (fun k => if_neg (by omega)) (Ev.congr (fun k => if_neg (by omega)) ?_)
        exact Ev.bind (f := fun k t => _) hr (Ev.congr (fun k => if_pos e) (Ev.now _))
      · refine ⟨(0, false), Ev.unr ?_⟩
        simp only [spec_l1Read.l0]
        refine Ev.congr (fun k => if_neg (by omega)) (Ev.congr (fun k => if_neg (by omega)) ?_)
        exact Ev.bind (f := fun k t => _) hr (Ev.congr (fun k => if_neg e) (Ev.now _))
  | succ d ih =>
    intro i x hi hx
    have hp : 10 ^ i ≤ 10 ^ 6 := Nat.pow_le_pow_right (by omega) (by omega)
    by_cases c1 : bt x4 (i : Int) < 48
    · refine ⟨(0, false), Ev.unr ?_⟩
      simp only [spec_l1Read.l0]
      exact Ev.congr (fun k => if_pos (by omega)) (Ev.congr (fun k => if_pos (by omega)) (Ev.congr (fun k => if_pos c1) (Ev.now _)))
    · by_cases c2 : bt x4 (i : Int) > 57
      · refine ⟨(0, false), Ev.unr ?_⟩
        simp only [spec_l1Read.l0]
        exact Ev.congr (fun k => if_pos (by omega)) (Ev.congr (fun k => if_pos (by omega)) (Ev.congr (fun k => if_neg c1) (Ev.congr (fun k => if_pos c2) (Ev.now _))))
      · obtain ⟨b, hb⟩ : ∃ b : Nat, bt x4 (i : Int) = ((48 + b : Nat) : Int) := ⟨(bt x4 (i : Int)).toNat - 48, by omega⟩
        obtain ⟨r, hr⟩ := ih (i + 1) (10 * x + b) (by omega) (by rw [Nat.pow_succ]; omega)
        refine ⟨r, Ev.unr ?_⟩
        simp only [spec_l1Read.l0]
        refine Ev.congr (fun k => if_pos (by omega)) (Ev.congr (fun k => if_pos (by omega)) (Ev.congr (fun k => if_neg c1) (Ev.congr (fun k => if_neg c2) ?_)))
        rw [wrapS i (by omega), show wrap64 ((wrap64 (10 * (x : Int))) + ((bt x4 (i : Int) - 48) % 256)) = ((10 * x + b : Nat) : Int) from by unfold wrap64; omega]
        exact hr
theorem l1In_fR (a b c : Int) : spec_l1In.f a b c = some (decide (b ≤ a ∧ a ≤ c)) := by
  unfold spec_l1In.f
  by_cases h1 : a ≥ b <;> by_cases h2 : a ≤ c <;> simp [h1, h2] <;> omega
theorem ex_j1 (x0 x4 : ByteArray) : ∃ r, Ev (fun k => spec_l1Read.j1 k x0 x4) r := by
  by_cases c : (1 : Int) ≤ (x4.size : Int) ∧ (x4.size : Int) ≤ 6
  · obtain ⟨r, hr⟩ := ex_loop x0 x4 (by omega) x4.size 0 0 (by omega) (by simp)
    refine ⟨r, Ev.unr ?_⟩
    simp only [spec_l1Read.j1]
    refine Ev.bind (f := fun k t => _) (Ev.eq_now fun k => l1In_fR (x4.size : Int) 1 6) ?_
    exact Ev.congr (fun k => if_pos (decide_eq_true c)) hr
  · refine ⟨(0, false), Ev.unr ?_⟩
    simp only [spec_l1Read.j1]
    refine Ev.bind (f := fun k t => _) (Ev.eq_now fun k => l1In_fR (x4.size : Int) 1 6) ?_
    exact Ev.congr (fun k => if_neg (by simpa using c)) (Ev.now _)
theorem ex_read (s : ByteArray) : ∃ r, Ev (fun k => spec_l1Read.f k s) r := by
  have h0 : ∃ r, Ev (fun k => spec_l1Read.j0 k s s false) r := by
    obtain ⟨r, hr⟩ := ex_j1 s s
    refine ⟨r, Ev.unr ?_⟩
    simp only [spec_l1Read.j0]
    exact Ev.congr (fun k => if_neg (by simp)) hr
  unfold spec_l1Read.f
  by_cases c : (s.size : Int) > 1
  · cases hb : (bt s 0 == 45) with
    | false =>
      obtain ⟨r, hr⟩ := h0
      exact ⟨r, Ev.congr (fun k => if_pos c) (Ev.congr (fun k => if_pos (by omega)) hr)⟩
    | true =>
      obtain ⟨r, hr⟩ := ex_j1 s (s.extract 1 s.size)
      refine ⟨r, Ev.congr (fun k => if_pos c) (Ev.congr (fun k => if_pos (by omega)) (Ev.unr ?_))⟩
      simp only [spec_l1Read.j0]
      exact Ev.congr (fun k => if_pos trivial) (Ev.congr (fun k => if_pos (by omega)) hr)
  · obtain ⟨r, hr⟩ := h0
    exact ⟨r, Ev.congr (fun k => if_neg c) hr⟩
theorem step_dg (v d : Nat) (hv : v < 1000000) (hd : d < 10) : wrap64 ((wrap64 (10 * (v : Int))) + ((((48 + d : Nat) : Int) - 48) % 256)) = ((10 * v + d : Nat) : Int) := by
  have e : ((((48 + d : Nat) : Int) - 48) % 256) = (d : Int) := by omega
  rw [e]
  unfold wrap64
  omega
theorem ev_readDec (n : Nat) (h : n ≤ 999) : Ev (fun k => spec_l1Read.f k (decN n)) ((n : Int), true) := by
  obtain ⟨ds, h1, h2, h3, h4, h5⟩ := decN_digits n h
  have hz : (decN n).size = ds.length := by rw [← ba_len, h4, List.length_map]
  generalize hs : decN n = s at h4 hz ⊢
  have key : ∀ (rest pre : List Nat), ds = pre ++ rest → Ev (fun k => spec_l1Read.l0 k s s ((valD pre : Nat) : Int) (pre.length : Int)) ((n : Int), true) := by
    intro rest
    induction rest with
    | nil =>
      intro pre e
      rw [List.append_nil] at e
      subst e
      refine Ev.unr ?_
      simp only [spec_l1Read.l0]
      refine Ev.congr (fun k => if_neg (by omega)) (Ev.congr (fun k => if_neg (by omega)) ?_)
      rw [h5]
      refine Ev.bind (f := fun k t => _) (ev_num n (by omega)) ?_
      exact Ev.congr (fun k => if_pos (by rw [hs])) (Ev.now _)
    | cons d rest ih =>
      intro pre e
      have hb := bt_digits s ds h4 h1 pre rest d e
      have hd := h1 d (by rw [e]; simp)
      have hl : pre.length < ds.length := by rw [e]; simp
      have hv := valD_lt pre 0 (fun x hx => h1 x (by rw [e]; exact List.mem_append_left _ hx))
      have hv' : valD pre < (0 + 1) * 10 ^ pre.length := hv
      have hp : 10 ^ pre.length ≤ 10 ^ 3 := Nat.pow_le_pow_right (by omega) (by omega)
      have hi := ih (pre ++ [d]) (by rw [e, List.append_assoc]; rfl)
      rw [valD_app, List.length_append, List.length_singleton] at hi
      generalize valD pre = v at hi hv'
      clear hv
      refine Ev.unr ?_
      simp only [spec_l1Read.l0]
      rw [hb]
      refine Ev.congr (fun k => if_pos (by omega)) (Ev.congr (fun k => if_pos (by omega)) (Ev.congr (fun k => if_neg (by omega)) (Ev.congr (fun k => if_neg (by omega)) ?_)))
      rw [wrapS _ (by omega), step_dg v d (by omega) hd]
      exact hi
  have k0 : Ev (fun k => spec_l1Read.j0 k s s false) ((n : Int), true) := by
    refine Ev.unr ?_
    simp only [spec_l1Read.j0]
    refine Ev.congr (fun k => if_neg (by simp)) (Ev.unr ?_)
    simp only [spec_l1Read.j1]
    refine Ev.bind (f := fun k t => _) (Ev.eq_now fun k => l1In_fR (s.size : Int) 1 6) ?_
    exact Ev.congr (fun k => if_pos (decide_eq_true (by omega))) (key ds [] rfl)
  unfold spec_l1Read.f
  by_cases c : (s.size : Int) > 1
  · have hb : (bt s 0 == 45) = false := by
      match ds, h2, h1, h4 with
      | d :: r, _, h1, h4 =>
        have := bt_digits s (d :: r) h4 h1 [] r d rfl
        have hd := h1 d (List.mem_cons_self ..)
        have e : bt s 0 = ((48 + d : Nat) : Int) := this
        rw [e, beq_eq_false_iff_ne]
        omega
    rw [hb]
    exact Ev.congr (fun k => if_pos c) (Ev.congr (fun k => if_pos (by omega)) k0)
  · exact Ev.congr (fun k => if_neg c) k0
theorem ev_read (s : ByteArray) : ∃ r : Int × Bool, Ev (fun k => spec_l1Read.f k s) r ∧ ∀ n : Nat, n ≤ 999 → s = decN n → r = ((n : Int), true) := by
  obtain ⟨r, hr⟩ := ex_read s
  exact ⟨r, hr, fun n hn e => by subst e; exact Ev.uniq hr (ev_readDec n hn)⟩
set_option linter.unusedVariables false
set_option linter.unusedSimpArgs false
def spl (c : UInt8) : List UInt8 → List UInt8 → List ByteArray
  | cur, [] => [⟨cur.toArray⟩]
  | cur, x :: r => if x = c then ⟨cur.toArray⟩ :: spl c [] r else spl c (cur ++ [x]) r
theorem spl_one (c : UInt8) (r : List UInt8) : ∀ (a cur : List UInt8), c ∉ a → spl c cur (a ++ c :: r) = ⟨(cur ++ a).toArray⟩ :: spl c [] r
  | [], cur, _ => by
    rw [List.nil_append, spl, if_pos rfl, List.append_nil]
  | x :: a, cur, h => by
    rw [List.cons_append, spl, if_neg (fun e => h (by rw [e]; exact List.mem_cons_self ..)), spl_one c r a (cur ++ [x]) (fun q => h (List.mem_cons_of_mem _ q)), List.append_assoc]
    rfl
theorem spl_last (c : UInt8) : ∀ (a cur : List UInt8), c ∉ a → spl c cur a = [⟨(cur ++ a).toArray⟩]
  | [], cur, _ => by
    rw [spl, List.append_nil]
  | x :: a, cur, h => by
    rw [spl, if_neg (fun e => h (by rw [e]; exact List.mem_cons_self ..)), spl_last c a (cur ++ [x]) (fun q => h (List.mem_cons_of_mem _ q)), List.append_assoc]
    rfl
theorem ext_mid (s : ByteArray) (pre cur rest : List UInt8) (e : s.data.toList = pre ++ (cur ++ rest)) : s.extract pre.length (pre.length + cur.length) = ⟨cur.toArray⟩ := by
  apply ba_ext
  rw [← Lib.toList_data, ext_list, e, List.drop_left, Nat.add_sub_cancel_left, List.take_left]
theorem ev_split (s : ByteArray) (hs : s.size ≤ 1048576) (c : UInt8) : Ev (fun k => spec_l1Split.f k s (c.toNat : Int)) (spl c [] s.data.toList) := by
  have hl := ba_len s
  have key : ∀ (rest cur pre : List UInt8) (out : List ByteArray), s.data.toList = pre ++ (cur ++ rest) → out.length ≤ pre.length →
      Ev (fun k => spec_l1Split.l0 k s (c.toNat : Int) out (pre.length : Int) ((pre.length + cur.length : Nat) : Int)) (out ++ spl c cur rest) := by
    intro rest
    induction rest with
    | nil =>
      intro cur pre out e ho
      have hz : s.size = pre.length + cur.length := by rw [← hl, e]; simp
      have hx := ext_mid s pre cur [] e
      refine Ev.unr ?_
      simp only [spec_l1Split.l0]
      refine Ev.congr (fun k => if_neg (by omega)) (Ev.congr (fun k => if_pos (by omega)) (Ev.congr (fun k => if_pos (by omega)) (Ev.congr (fun k => if_pos (by omega)) ?_)))
      rw [Int.toNat_natCast, hz, hx]
      exact Ev.now _
    | cons x rest ih =>
      intro cur pre out e ho
      have hz : s.size = pre.length + (cur.length + (rest.length + 1)) := by rw [← hl, e]; simp
      have hb : bt s ((pre.length + cur.length : Nat) : Int) = (x.toNat : Int) := by
        rw [bt_list s _ (by omega)]
        have : s.data.toList[pre.length + cur.length]? = some x := by
          rw [e, ← List.append_assoc, List.getElem?_append_right (by simp)]
          simp
        rw [(List.getElem?_eq_some_iff.1 this).2]
      refine Ev.unr ?_
      simp only [spec_l1Split.l0]
      rw [hb]
      refine Ev.congr (fun k => if_pos (by omega)) (Ev.congr (fun k => if_pos (by omega)) ?_)
      rw [wrapS _ (by omega), spl]
      by_cases h : x = c
      · subst h
        have hx := ext_mid s pre cur (x :: rest) e
        refine Ev.congr (fun k => if_pos rfl) (Ev.congr (fun k => if_pos (by omega)) (Ev.congr (fun k => if_pos (by omega)) (Ev.congr (fun k => if_pos (by omega)) (Ev.congr (fun k => if_pos (by omega)) ?_))))
        rw [if_pos rfl, Int.toNat_natCast, Int.toNat_natCast, hx]
        have hi := ih [] (pre ++ cur ++ [x]) (out ++ [⟨cur.toArray⟩]) (by rw [e]; simp) (by simp only [List.length_append, List.length_singleton]; omega)
        rw [show (pre ++ cur ++ [x]).length = pre.length + cur.length + 1 from by simp only [List.length_append, List.length_singleton], List.length_nil, Nat.add_zero, List.append_assoc] at hi
        exact hi
      · have hne : ¬ ((x.toNat : Int) = (c.toNat : Int)) := fun q => h (UInt8.toNat_inj.1 (by omega))
        refine Ev.congr (fun k => if_neg hne) ?_
        rw [if_neg h]
        have hi := ih (cur ++ [x]) pre out (by rw [e]; simp) ho
        rw [List.length_append, List.length_singleton, ← Nat.add_assoc] at hi
        exact hi
  unfold spec_l1Split.f
  have := key s.data.toList [] [] [] rfl (Nat.le_refl _)
  exact this
def sDay : ByteArray := ⟨#[100, 97, 121, 32]⟩
def sComma : ByteArray := ⟨#[44, 32]⟩
def sZero : ByteArray := ⟨#[58, 48, 48]⟩
def s0 : ByteArray := ⟨#[48]⟩
def hourS (n : Nat) : ByteArray := ((((sDay ++ decN (n / 24 + 1)) ++ sComma) ++ decN (n % 24 / 10)) ++ decN (n % 24 % 10)) ++ sZero
theorem two_digits (x : Nat) : decN (x / 10) ++ decN (x % 10) = if x < 10 then s0 ++ decN x else decN x := by
  by_cases h : x < 10
  · rw [if_pos h, show x / 10 = 0 from by omega, show x % 10 = x from by omega, decN_small (n := 0) (by omega)]
    rfl
  · rw [if_neg h, decN_big h, decN_small (n := x % 10) (Nat.mod_lt _ (by omega))]
theorem hourS_eq (n : Nat) : hourS n = (((sDay ++ decN (n / 24 + 1)) ++ sComma) ++ (if n % 24 < 10 then s0 ++ decN (n % 24) else decN (n % 24))) ++ sZero := by
  unfold hourS
  rw [← two_digits, ← ba_assoc]
theorem div_i (n d : Nat) (h : n ≤ 4611686018427387904) : wrap64 (Int.tdiv (n : Int) (d : Int)) = ((n / d : Nat) : Int) := by
  rw [show Int.tdiv (n : Int) (d : Int) = ((n / d : Nat) : Int) from (Int.ofNat_tdiv n d).symm]
  have hd := Nat.div_le_self n d
  generalize n / d = q at hd ⊢
  unfold wrap64; omega
theorem mod_i (n d : Nat) : Int.tmod (n : Int) (d : Int) = ((n % d : Nat) : Int) := (Int.ofNat_tmod n d).symm
theorem add_i (n m : Nat) (h : n + m ≤ 4611686018427387904) : wrap64 ((n : Int) + (m : Int)) = ((n + m : Nat) : Int) := by unfold wrap64; omega
theorem sz4 : (⟨#[100, 97, 121, 32]⟩ : ByteArray).size = 4 := rfl
theorem sz2 : (⟨#[44, 32]⟩ : ByteArray).size = 2 := rfl
theorem sz3 : (⟨#[58, 48, 48]⟩ : ByteArray).size = 3 := rfl
theorem sz1 : (⟨#[48]⟩ : ByteArray).size = 1 := rfl
theorem implHour_f (n : Nat) (h : n ≤ 100000) : impl_hourText.f (n : Int) = some (hourS n) := by
  unfold impl_hourText.f
  have d1 := div_i n 24 (by omega)
  have m1 := mod_i n 24
  have d2 := div_i (n % 24) 10 (by omega)
  have m2 := mod_i (n % 24) 10
  have a1 := add_i (n / 24) 1 (by omega)
  simp only [Int.cast_ofNat_Int] at d1 m1 d2 m2 a1
  rw [d1, m1, d2, m2, a1, itoa_f _ (by omega) (by omega), itoa_f _ (by omega) (by omega), itoa_f _ (by omega) (by omega), decS_nat, decS_nat, decS_nat]
  have h1 := decN_size (n / 24 + 1) (by omega)
  have h2 := decN_size (n % 24 / 10) (by omega)
  have h3 := decN_size (n % 24 % 10) (by omega)
  rw [Option.bind_some, if_pos (by omega), if_pos (by simp only [ba_size_app, sz4]; omega), Option.bind_some, if_pos (by simp only [ba_size_app, sz4, sz2]; omega), Option.bind_some, if_pos (by simp only [ba_size_app, sz4, sz2]; omega), if_pos (by simp only [ba_size_app, sz4, sz2]; omega)]
  rfl
theorem ev_specHour (n : Nat) (h : n ≤ 100000) : Ev (fun k => spec_l16Hour.f k (n : Int)) (hourS n) := by
  unfold spec_l16Hour.f
  have d1 := div_i n 24 (by omega)
  have m1 := mod_i n 24
  have a1 := add_i (n / 24) 1 (by omega)
  simp only [Int.cast_ofNat_Int] at d1 m1 a1
  rw [d1, m1, a1]
  have h1 := decN_size (n / 24 + 1) (by omega)
  have h2 := decN_size (n % 24) (by omega)
  refine Ev.bind (f := fun k t => _) (ev_num (n % 24) (by omega)) ?_
  by_cases c : n % 24 < 10
  · have e := (decN_size_one (n % 24)).2 c
    refine Ev.congr (fun k => if_pos (by omega)) (Ev.congr (fun k => if_pos (by omega)) ?_)
    refine Ev.bind (f := fun k t => _) (ev_num (n / 24 + 1) (by omega)) ?_
    refine Ev.congr (fun k => if_pos (by omega)) (Ev.congr (fun k => if_pos (by simp only [ba_size_app, sz4]; omega)) (Ev.congr (fun k => if_pos (by simp only [ba_size_app, sz4, sz2, sz1]; omega)) (Ev.congr (fun k => if_pos (by simp only [ba_size_app, sz4, sz2, sz1]; omega)) ?_)))
    rw [hourS_eq, if_pos c]
    exact Ev.now _
  · have e : ¬ (decN (n % 24)).size = 1 := fun q => c ((decN_size_one _).1 q)
    refine Ev.congr (fun k => if_neg (by omega)) ?_
    refine Ev.bind (f := fun k t => _) (ev_num (n / 24 + 1) (by omega)) ?_
    refine Ev.congr (fun k => if_pos (by omega)) (Ev.congr (fun k => if_pos (by simp only [ba_size_app, sz4]; omega)) (Ev.congr (fun k => if_pos (by simp only [ba_size_app, sz4, sz2]; omega)) (Ev.congr (fun k => if_pos (by simp only [ba_size_app, sz4, sz2]; omega)) ?_)))
    rw [hourS_eq, if_neg c]
    exact Ev.now _
theorem hourS_size (n : Nat) (h : n ≤ 100000) : (hourS n).size ≤ 80 := by
  unfold hourS sDay sComma sZero
  simp only [ba_size_app, sz4, sz2, sz3]
  have h1 := decN_size (n / 24 + 1) (by omega)
  have h2 := decN_size (n % 24 / 10) (by omega)
  have h3 := decN_size (n % 24 % 10) (by omega)
  omega
def okB (a b c d e f : Int) : Bool := decide (1 ≤ a ∧ a ≤ 999 ∧ 1 ≤ b ∧ b ≤ 5 ∧ 1 ≤ c ∧ c ≤ 3 ∧ 1 ≤ d ∧ d ≤ 9 ∧ 0 ≤ e ∧ e < f ∧ f ≤ 240)
theorem l1In_fG (a b c : Int) : spec_l1In.f a b c = some (decide (b ≤ a ∧ a ≤ c)) := by
  unfold spec_l1In.f
  by_cases h1 : a ≥ b <;> by_cases h2 : a ≤ c <;> simp [h1, h2] <;> omega
theorem good_f (x0 x1 x2 x3 x4 x5 : Int) : spec_l14Good.f x0 x1 x2 x3 x4 x5 = some (okB x0 x1 x2 x3 x4 x5) := by
  unfold spec_l14Good.f okB
  simp only [l1In_fG, Option.bind_some, decide_eq_true_eq]
  repeat' split
  all_goals (congr 1; first | (apply decide_eq_decide.2; unfold wrap64; omega) | (symm; apply decide_eq_false; omega))
theorem valid_f (x0 x1 x2 x3 x4 x5 : Int) : impl_IsValidWarning.f x0 x1 x2 x3 x4 x5 = some (okB x0 x1 x2 x3 x4 x5) := by
  unfold impl_IsValidWarning.f okB
  simp only [within_f, Option.bind_some, decide_eq_true_eq]
  repeat' split
  all_goals (congr 1; first | (apply decide_eq_decide.2; omega) | (symm; apply decide_eq_false; omega))
theorem szW0 : (⟨#[32, 119, 97, 114, 110, 105, 110, 103, 32, 111, 102, 32]⟩ : ByteArray).size = 12 := rfl
theorem szW1 : (⟨#[32, 102, 111, 114, 32, 97, 114, 101, 97, 32]⟩ : ByteArray).size = 10 := rfl
theorem szW2 : (⟨#[32, 102, 114, 111, 109, 32]⟩ : ByteArray).size = 6 := rfl
theorem szW3 : (⟨#[32, 117, 110, 116, 105, 108, 32]⟩ : ByteArray).size = 7 := rfl
theorem szW4 : (⟨#[32, 40, 110, 111, 46, 32]⟩ : ByteArray).size = 6 := rfl
theorem szW5 : (⟨#[41, 46]⟩ : ByteArray).size = 2 := rfl
def LV : List ByteArray := [(⟨#[]⟩ : ByteArray), (⟨#[89, 101, 108, 108, 111, 119]⟩ : ByteArray), (⟨#[79, 114, 97, 110, 103, 101]⟩ : ByteArray), (⟨#[82, 101, 100]⟩ : ByteArray)]
def TV : List ByteArray := [(⟨#[]⟩ : ByteArray), (⟨#[119, 105, 110, 100]⟩ : ByteArray), (⟨#[114, 97, 105, 110]⟩ : ByteArray), (⟨#[115, 110, 111, 119]⟩ : ByteArray), (⟨#[104, 101, 97, 116]⟩ : ByteArray), (⟨#[115, 116, 111, 114, 109]⟩ : ByteArray)]
theorem rdLV (c : Int) (h : 1 ≤ c) (h2 : c ≤ 3) : rdOf ByteArray.empty LV c = wordS levelT c := by
  have : c = 1 ∨ c = 2 ∨ c = 3 := by omega
  rcases this with rfl | rfl | rfl <;> rfl
theorem rdTV (c : Int) (h : 1 ≤ c) (h2 : c ≤ 5) : rdOf ByteArray.empty TV c = wordS topicT c := by
  have : c = 1 ∨ c = 2 ∨ c = 3 ∨ c = 4 ∨ c = 5 := by omega
  rcases this with rfl | rfl | rfl | rfl | rfl <;> rfl
def catS (L O t1 t2 t3 t4 : ByteArray) : ByteArray := (((((((((((L ++ (⟨#[32, 119, 97, 114, 110, 105, 110, 103, 32, 111, 102, 32]⟩ : ByteArray)) ++ O) ++ (⟨#[32, 102, 111, 114, 32, 97, 114, 101, 97, 32]⟩ : ByteArray)) ++ t1) ++ (⟨#[32, 102, 114, 111, 109, 32]⟩ : ByteArray)) ++ t2) ++ (⟨#[32, 117, 110, 116, 105, 108, 32]⟩ : ByteArray)) ++ t3) ++ (⟨#[32, 40, 110, 111, 46, 32]⟩ : ByteArray)) ++ t4) ++ (⟨#[41, 46]⟩ : ByteArray))
def warnR (a b c d e f : Int) : ByteArray := catS (wordS levelT c) (wordS topicT b) (decN d.toNat) (hourS e.toNat) (hourS f.toNat) (decN a.toNat)
theorem implText_f (a b c d e f : Int) (o : okB a b c d e f = true) : impl_warningText.f a b c d e f = some (warnR a b c d e f) := by
  have hb := of_decide_eq_true o
  obtain ⟨na, rfl⟩ : ∃ n : Nat, a = (n : Int) := ⟨a.toNat, by omega⟩
  obtain ⟨nd, rfl⟩ : ∃ n : Nat, d = (n : Int) := ⟨d.toNat, by omega⟩
  obtain ⟨ne, rfl⟩ : ∃ n : Nat, e = (n : Int) := ⟨e.toNat, by omega⟩
  obtain ⟨nf, rfl⟩ : ∃ n : Nat, f = (n : Int) := ⟨f.toNat, by omega⟩
  have h1 := decN_size nd (by omega)
  have h2 := hourS_size ne (by omega)
  have h3 := hourS_size nf (by omega)
  have h4 := decN_size na (by omega)
  unfold impl_warningText.f warnR
  rw [if_pos (by omega), itoa_f _ (by omega) (by omega), itoa_f _ (by omega) (by omega), implHour_f ne (by omega), implHour_f nf (by omega), decS_nat, decS_nat, Option.bind_some, Option.bind_some, Option.bind_some, Option.bind_some, if_pos (by omega)]
  rfl
theorem ev_specText (a b c d e f : Int) (o : okB a b c d e f = true) : Ev (fun k => spec_l16Text.f k a b c d e f) (warnR a b c d e f) := by
  have hb := of_decide_eq_true o
  obtain ⟨na, rfl⟩ : ∃ n : Nat, a = (n : Int) := ⟨a.toNat, by omega⟩
  obtain ⟨nd, rfl⟩ : ∃ n : Nat, d = (n : Int) := ⟨d.toNat, by omega⟩
  obtain ⟨ne, rfl⟩ : ∃ n : Nat, e = (n : Int) := ⟨e.toNat, by omega⟩
  obtain ⟨nf, rfl⟩ : ∃ n : Nat, f = (n : Int) := ⟨f.toNat, by omega⟩
  have h1 := decN_size nd (by omega)
  have h2 := hourS_size ne (by omega)
  have h3 := hourS_size nf (by omega)
  have h4 := decN_size na (by omega)
  have hL := wordL_size c
  have hO := wordO_size b
  have l4 : (LV.length : Int) = 4 := rfl
  have l6 : (TV.length : Int) = 6 := rfl
  unfold spec_l16Text.f
  refine Ev.bind (f := fun k t => _) (Ev.eq_now fun k => (show spec_l16Levels.f = some LV from rfl)) ?_
  rw [rdLV c (by omega) (by omega)]
  refine Ev.congr (fun k => if_pos (by omega)) (Ev.congr (fun k => if_pos (by omega)) (Ev.congr (fun k => if_pos (by omega)) ?_))
  refine Ev.bind (f := fun k t => _) (Ev.eq_now fun k => (show spec_l16Topics.f = some TV from rfl)) ?_
  rw [rdTV b (by omega) (by omega)]
  refine Ev.congr (fun k => if_pos (by omega)) (Ev.congr (fun k => if_pos (by omega)) (Ev.congr (fun k => if_pos (by simp only [ba_size_app, szW0, szW1, szW2, szW3, szW4, szW5]; omega)) (Ev.congr (fun k => if_pos (by simp only [ba_size_app, szW0, szW1, szW2, szW3, szW4, szW5]; omega)) ?_)))
  refine Ev.bind (f := fun k t => _) (ev_num nd (by omega)) ?_
  refine Ev.congr (fun k => if_pos (by simp only [ba_size_app, szW0, szW1, szW2, szW3, szW4, szW5]; omega)) (Ev.congr (fun k => if_pos (by simp only [ba_size_app, szW0, szW1, szW2, szW3, szW4, szW5]; omega)) ?_)
  refine Ev.bind (f := fun k t => _) (ev_specHour ne (by omega)) ?_
  refine Ev.congr (fun k => if_pos (by simp only [ba_size_app, szW0, szW1, szW2, szW3, szW4, szW5]; omega)) (Ev.congr (fun k => if_pos (by simp only [ba_size_app, szW0, szW1, szW2, szW3, szW4, szW5]; omega)) ?_)
  refine Ev.bind (f := fun k t => _) (ev_specHour nf (by omega)) ?_
  refine Ev.congr (fun k => if_pos (by simp only [ba_size_app, szW0, szW1, szW2, szW3, szW4, szW5]; omega)) (Ev.congr (fun k => if_pos (by simp only [ba_size_app, szW0, szW1, szW2, szW3, szW4, szW5]; omega)) ?_)
  refine Ev.bind (f := fun k t => _) (ev_num na (by omega)) ?_
  refine Ev.congr (fun k => if_pos (by simp only [ba_size_app, szW0, szW1, szW2, szW3, szW4, szW5]; omega)) (Ev.congr (fun k => if_pos (by simp only [ba_size_app, szW0, szW1, szW2, szW3, szW4, szW5]; omega)) ?_)
  exact Ev.now _
set_option linter.unusedVariables false
set_option linter.unusedSimpArgs false
theorem ev_idxL (l : List ByteArray) (w : ByteArray) (hl : l.length ≤ 100) : ∀ d i : Nat, i + d = l.length → ∃ r, Ev (fun k => spec_l16Index.l0 k l w (i : Int)) r ∧ ∀ c : Nat, i ≤ c → c < l.length → (rdOf ByteArray.empty l (c : Int)).toList = w.toList → (∀ j : Nat, i ≤ j → j < c → (rdOf ByteArray.empty l (j : Int)).toList ≠ w.toList) → r = (c : Int) := by
  intro d
  induction d with
  | zero =>
    intro i hi
    refine ⟨0, Ev.unr ?_, fun c h1 h2 => by omega⟩
    simp only [spec_l16Index.l0]
    exact Ev.congr (fun k => if_neg (by omega)) (Ev.now _)
  | succ d ih =>
    intro i hi
    by_cases e : (rdOf ByteArray.empty l (i : Int)).toList = w.toList
    · refine ⟨(i : Int), Ev.unr ?_, fun c h1 h2 h3 h4 => ?_⟩
      · simp only [spec_l16Index.l0]
        exact Ev.congr (fun k => if_pos (by omega)) (Ev.congr (fun k => if_pos (by omega)) (Ev.congr (fun k => if_pos e) (Ev.now _)))
      · by_cases q : i = c
        · omega
        · exact absurd e (h4 i (Nat.le_refl _) (by omega))
    · obtain ⟨r, hr, hp⟩ := ih (i + 1) (by omega)
      refine ⟨r, Ev.unr ?_, fun c h1 h2 h3 h4 => ?_⟩
      · simp only [spec_l16Index.l0]
        refine Ev.congr (fun k => if_pos (by omega)) (Ev.congr (fun k => if_pos (by omega)) (Ev.congr (fun k => if_neg e) ?_))
        rw [wrapS i (by omega)]
        exact hr
      · by_cases q : i = c
        · subst q; exact absurd h3 e
        · exact hp c (by omega) h2 h3 (fun j h5 h6 => h4 j (by omega) h6)
theorem toL_ne {a b : ByteArray} (h : a ≠ b) : a.toList ≠ b.toList := by
  intro e
  rw [Lib.toList_data, Lib.toList_data] at e
  exact h (ba_ext e)
theorem LV_at (w : ByteArray) : ∃ r, Ev (fun k => spec_l16Index.f k LV w) r ∧ ∀ c : Int, 1 ≤ c → c ≤ 3 → w = wordS levelT c → r = c := by
  obtain ⟨r, hr, hp⟩ := ev_idxL LV w (by decide) 3 1 rfl
  refine ⟨r, hr, fun c h1 h2 e => ?_⟩
  obtain ⟨n, rfl⟩ : ∃ n : Nat, c = (n : Int) := ⟨c.toNat, by omega⟩
  refine hp n (by omega) (by show n < 4; omega) (by rw [e, rdLV _ h1 h2]) (fun j h3 h4 => ?_)
  rw [e, rdLV _ (by omega) (by omega)]
  refine toL_ne ?_
  have : (n = 2 ∧ j = 1) ∨ (n = 3 ∧ j = 1) ∨ (n = 3 ∧ j = 2) := by omega
  rcases this with ⟨rfl, rfl⟩ | ⟨rfl, rfl⟩ | ⟨rfl, rfl⟩ <;> decide +kernel
theorem TV_at (w : ByteArray) : ∃ r, Ev (fun k => spec_l16Index.f k TV w) r ∧ ∀ c : Int, 1 ≤ c → c ≤ 5 → w = wordS topicT c → r = c := by
  obtain ⟨r, hr, hp⟩ := ev_idxL TV w (by decide) 5 1 rfl
  refine ⟨r, hr, fun c h1 h2 e => ?_⟩
  obtain ⟨n, rfl⟩ : ∃ n : Nat, c = (n : Int) := ⟨c.toNat, by omega⟩
  refine hp n (by omega) (by show n < 6; omega) (by rw [e, rdTV _ h1 h2]) (fun j h3 h4 => ?_)
  rw [e, rdTV _ (by omega) (by omega)]
  refine toL_ne ?_
  have : (n = 2 ∧ j = 1) ∨ (n = 3 ∧ j = 1) ∨ (n = 3 ∧ j = 2) ∨ (n = 4 ∧ j = 1) ∨ (n = 4 ∧ j = 2) ∨ (n = 4 ∧ j = 3) ∨ (n = 5 ∧ j = 1) ∨ (n = 5 ∧ j = 2) ∨ (n = 5 ∧ j = 3) ∨ (n = 5 ∧ j = 4) := by omega
  rcases this with ⟨rfl, rfl⟩ | ⟨rfl, rfl⟩ | ⟨rfl, rfl⟩ | ⟨rfl, rfl⟩ | ⟨rfl, rfl⟩ | ⟨rfl, rfl⟩ | ⟨rfl, rfl⟩ | ⟨rfl, rfl⟩ | ⟨rfl, rfl⟩ | ⟨rfl, rfl⟩ <;> decide +kernel
theorem idxO (c : Int) (h1 : 1 ≤ c) (h2 : c ≤ 5) : Lib.idxOfS (wordsOf 0) (wordS topicT c) = c := by
  have : c = 1 ∨ c = 2 ∨ c = 3 ∨ c = 4 ∨ c = 5 := by omega
  rcases this with rfl | rfl | rfl | rfl | rfl <;> decide +kernel
theorem idxL (c : Int) (h1 : 1 ≤ c) (h2 : c ≤ 3) : Lib.idxOfS (wordsOf 1) (wordS levelT c) = c := by
  have : c = 1 ∨ c = 2 ∨ c = 3 := by omega
  rcases this with rfl | rfl | rfl <;> decide +kernel
set_option linter.unusedVariables false
set_option linter.unusedSimpArgs false
def hourOf (s : ByteArray) : Int × Bool := run (fun i (_ : Unit) => if decide ((hourS i).toList = s.toList) = true then .inl ((i : Int), true) else .inr ()) (fun _ => (0, false)) 241 0 ()
theorem ev_specParse (s : ByteArray) : Ev (fun k => spec_ParseHour.f k s) (hourOf s) := by
  unfold spec_ParseHour.f hourOf
  refine ev_run (fun k (_ : Unit) i => spec_ParseHour.l0 k s i) 241 _ (fun _ => (0, false)) (fun _ _ => True) ?_ ?_ ?_ 241 0 () (by omega) trivial
  · intro i _ b hi _ h
    obtain ⟨hh, rfl⟩ := inl_of h
    simp only [spec_ParseHour.l0]
    refine Ev.congr (fun k => if_pos (by omega)) ?_
    refine Ev.bind (f := fun k t => _) (ev_specHour i (by omega)) ?_
    exact Ev.congr (fun k => if_pos (of_decide_eq_true hh)) (Ev.now _)
  · intro i _ s' r hi _ h
    obtain ⟨hh, _⟩ := inr_of h
    refine ⟨trivial, fun he => ?_⟩
    simp only [spec_ParseHour.l0]
    refine Ev.congr (fun k => if_pos (by omega)) ?_
    refine Ev.bind (f := fun k t => _) (ev_specHour i (by omega)) ?_
    rw [wrapS i (by omega)]
    exact Ev.congr (fun k => if_neg (of_decide_eq_false hh)) he
  · intro _ _
    refine Ev.eq_now fun k => ?_
    simp only [spec_ParseHour.l0]
    rw [if_neg (by omega)]
theorem ev_implParse (s : ByteArray) : Ev (fun k => impl_ParseHour.f k s) (hourOf s) := by
  unfold impl_ParseHour.f hourOf
  refine ev_run (fun k (_ : Unit) i => impl_ParseHour.l0 k s i) 241 _ (fun _ => (0, false)) (fun _ _ => True) ?_ ?_ ?_ 241 0 () (by omega) trivial
  · intro i _ b hi _ h
    obtain ⟨hh, rfl⟩ := inl_of h
    simp only [impl_ParseHour.l0]
    refine Ev.congr (fun k => if_pos (by omega)) ?_
    refine Ev.bind (f := fun k t => _) (Ev.eq_now fun k => implHour_f i (by omega)) ?_
    exact Ev.congr (fun k => if_pos (of_decide_eq_true hh)) (Ev.now _)
  · intro i _ s' r hi _ h
    obtain ⟨hh, _⟩ := inr_of h
    refine ⟨trivial, fun he => ?_⟩
    simp only [impl_ParseHour.l0]
    refine Ev.congr (fun k => if_pos (by omega)) ?_
    refine Ev.bind (f := fun k t => _) (Ev.eq_now fun k => implHour_f i (by omega)) ?_
    rw [wrapS i (by omega)]
    exact Ev.congr (fun k => if_neg (of_decide_eq_false hh)) he
  · intro _ _
    refine Ev.eq_now fun k => ?_
    simp only [impl_ParseHour.l0]
    rw [if_neg (by omega)]
set_option linter.unusedVariables false
set_option linter.unusedSimpArgs false
theorem decN_inj (a b : Nat) (ha : a ≤ 999) (hb : b ≤ 999) (h : decN a = decN b) : a = b := by
  have h1 := intV_dec a ha
  rw [h, intV_dec b hb] at h1
  have := (Prod.mk.inj h1).1
  omega
theorem decN_size3 (n : Nat) (h : n ≤ 999) : (decN n).size ≤ 3 := by
  obtain ⟨ds, _, _, h3, h4, _⟩ := decN_digits n h
  rw [← ba_len, h4, List.length_map]
  exact h3
theorem dg_inj (a b : Nat) (ha : a < 10) (hb : b < 10) (h : dg a = dg b) : a = b := by
  have h1 := congrArg UInt8.toNat h
  rw [dg_toNat a ha, dg_toNat b hb] at h1
  omega
theorem hourS_list (n : Nat) (h : n ≤ 240) : (hourS n).data.toList = [100, 97, 121, 32] ++ ((decN (n / 24 + 1)).data.toList ++ [44, 32, dg (n % 24 / 10), dg (n % 24 % 10), 58, 48, 48]) := by
  unfold hourS
  rw [decN_small (n := n % 24 / 10) (by omega), decN_small (n := n % 24 % 10) (by omega)]
  simp only [ba_app, List.append_assoc]
  rfl
theorem hourS_inj (a b : Nat) (ha : a ≤ 240) (hb : b ≤ 240) (h : hourS a = hourS b) : a = b := by
  have h1 := hourS_list a ha
  rw [h, hourS_list b hb] at h1
  have h2 := List.append_cancel_left h1
  obtain ⟨h3, h4⟩ := List.append_inj' h2 rfl
  have e1 := decN_inj _ _ (by omega) (by omega) (ba_ext h3)
  simp only [List.cons.injEq, and_true, true_and] at h4
  have e2 := dg_inj _ _ (by omega) (by omega) h4.1
  have e3 := dg_inj _ _ (by omega) (by omega) h4.2
  omega
theorem hourS_size14 (n : Nat) (h : n ≤ 240) : (hourS n).size ≤ 14 := by
  have := decN_size3 (n / 24 + 1) (by omega)
  rw [← ba_len, hourS_list n h, List.length_append, List.length_append, ba_len]
  simp only [List.length_cons, List.length_nil]
  omega
theorem hourS_not (n : Nat) (h : n ≤ 240) (c : UInt8) (hc : c.toNat < 48 ∨ 57 < c.toNat) (h1 : c ∉ ([100, 97, 121, 32, 44, 58] : List UInt8)) : c ∉ (hourS n).data.toList := by
  rw [hourS_list n h]
  have d : ∀ q, q < 10 → c ≠ dg q := by
    intro q hq e
    rw [e, dg_toNat q hq] at hc
    omega
  have h0 : c ≠ 48 := by
    intro e
    rw [e] at hc
    revert hc
    decide
  have hd := decN_not (n / 24 + 1) c hc
  simp only [List.mem_cons, List.not_mem_nil, or_false, not_or] at h1
  simp only [List.mem_append, List.mem_cons, List.not_mem_nil, or_false, not_or]
  exact ⟨⟨h1.1, h1.2.1, h1.2.2.1, h1.2.2.2.1⟩, hd, h1.2.2.2.2.1, h1.2.2.2.1, d _ (by omega), d _ (by omega), h1.2.2.2.2.2, h0, h0⟩
theorem hourOf_at (h : Nat) (hh : h ≤ 240) : hourOf (hourS h) = ((h : Int), true) := by
  have key : ∀ d i, i + d = 241 → i ≤ h → run (fun i (_ : Unit) => if decide ((hourS i).toList = (hourS h).toList) = true then .inl ((i : Int), true) else .inr ()) (fun _ => ((0 : Int), false)) d i () = ((h : Int), true) := by
    intro d
    induction d with
    | zero => intro i hi hl; omega
    | succ d ih =>
      intro i hi hl
      by_cases e : i = h
      · subst e
        exact run_stop (by rw [if_pos (decide_eq_true rfl)])
      · have hn : ¬ (hourS i).toList = (hourS h).toList := by
          intro q
          rw [Lib.toList_data, Lib.toList_data] at q
          exact e (hourS_inj i h (by omega) hh (ba_ext q))
        rw [run_go (s' := ()) (by rw [if_neg (by simpa using hn)])]
        exact ih (i + 1) (by omega) (by omega)
  exact key 241 0 (by omega) (by omega)
set_option linter.unusedVariables false
set_option linter.unusedSimpArgs false
abbrev W0 : ByteArray := ⟨#[32, 119, 97, 114, 110, 105, 110, 103, 32, 111, 102, 32]⟩
abbrev W1 : ByteArray := ⟨#[32, 102, 111, 114, 32, 97, 114, 101, 97, 32]⟩
abbrev W2 : ByteArray := ⟨#[32, 102, 114, 111, 109, 32]⟩
abbrev W3 : ByteArray := ⟨#[32, 117, 110, 116, 105, 108, 32]⟩
abbrev W4 : ByteArray := ⟨#[32, 40, 110, 111, 46, 32]⟩
abbrev W5 : ByteArray := ⟨#[41, 46]⟩
abbrev WV := Int × Int × Int × Int × Int × Int × Bool
def PW (s : ByteArray) (X : WV) : Prop :=
  (∃ a b c d e f, X = (a, b, c, d, e, f, true) ∧ okB a b c d e f = true ∧ warnR a b c d e f = s) ∨ (X = (0, 0, 0, 0, 0, 0, false) ∧ ∀ a b c d e f, okB a b c d e f = true → warnR a b c d e f ≠ s)
theorem wordL_not (c : Int) (h1 : 1 ≤ c) (h2 : c ≤ 3) : (32 : UInt8) ∉ (wordS levelT c).data.toList := by
  have : c = 1 ∨ c = 2 ∨ c = 3 := by omega
  rcases this with rfl | rfl | rfl <;> decide +kernel
theorem wordO_not (c : Int) (h1 : 1 ≤ c) (h2 : c ≤ 5) : (32 : UInt8) ∉ (wordS topicT c).data.toList := by
  have : c = 1 ∨ c = 2 ∨ c = 3 ∨ c = 4 ∨ c = 5 := by omega
  rcases this with rfl | rfl | rfl | rfl | rfl <;> decide +kernel
theorem warnR_parts (a b c d e f : Int) : warnR a b c d e f = wordS levelT c ++ (W0 ++ (wordS topicT b ++ (W1 ++ (decN d.toNat ++ (W2 ++ (hourS e.toNat ++ (W3 ++ (hourS f.toNat ++ (W4 ++ (decN a.toNat ++ (W5 ++ ⟨#[]⟩))))))))))) := by
  have e0 : (W5 ++ ⟨#[]⟩ : ByteArray) = W5 := ba_ext (by rw [ba_app]; rfl)
  rw [e0]
  unfold warnR catS
  simp only [ba_assoc]
theorem pieces (s : ByteArray) (a b c d e f : Int) (o : okB a b c d e f = true) (h : warnR a b c d e f = s) :
    ∃ r1 r2 r3 r4 r5, cutV s W0 = (wordS levelT c, r1, true) ∧ cutV r1 W1 = (wordS topicT b, r2, true) ∧ cutV r2 W2 = (decN d.toNat, r3, true) ∧ cutV r3 W3 = (hourS e.toNat, r4, true) ∧ cutV r4 W4 = (hourS f.toNat, r5, true) ∧ cutV r5 W5 = (decN a.toNat, ⟨#[]⟩, true) := by
  have hb := of_decide_eq_true o
  rw [← h, warnR_parts]
  refine ⟨_, _, _, _, _, cutV_1 _ _ 32 _ W0 rfl (wordL_not c (by omega) (by omega)), cutV_1 _ _ 32 _ W1 rfl (wordO_not b (by omega) (by omega)), cutV_1 _ _ 32 _ W2 rfl (decN_not _ 32 (by decide)), cutV_2 _ _ 32 117 _ W3 rfl (hourS_not _ (by omega) 117 (by decide) (by decide)) (by decide), cutV_2 _ _ 32 40 _ W4 rfl (hourS_not _ (by omega) 40 (by decide) (by decide)) (by decide), cutV_1 _ _ 41 _ W5 rfl (decN_not _ 41 (by decide))⟩
theorem warnR_size (a b c d e f : Int) (o : okB a b c d e f = true) : (warnR a b c d e f).size ≤ 120 := by
  have hb := of_decide_eq_true o
  have h1 := decN_size3 d.toNat (by omega)
  have h2 := hourS_size14 e.toNat (by omega)
  have h3 := hourS_size14 f.toNat (by omega)
  have h4 := decN_size3 a.toNat (by omega)
  have hL := wordL_size c
  have hO := wordO_size b
  unfold warnR catS
  simp only [ba_size_app, szW0, szW1, szW2, szW3, szW4, szW5]
  omega
theorem warnR_inj (a b c d e f a' b' c' d' e' f' : Int) (o : okB a b c d e f = true) (o' : okB a' b' c' d' e' f' = true) (h : warnR a b c d e f = warnR a' b' c' d' e' f') : a = a' ∧ b = b' ∧ c = c' ∧ d = d' ∧ e = e' ∧ f = f' := by
  have hb := of_decide_eq_true o
  have hb' := of_decide_eq_true o'
  obtain ⟨r1, r2, r3, r4, r5, p1, p2, p3, p4, p5, p6⟩ := pieces _ a b c d e f o rfl
  obtain ⟨q1, q2, q3, q4, q5, m1, m2, m3, m4, m5, m6⟩ := pieces _ a' b' c' d' e' f' o' h.symm
  rw [p1] at m1
  obtain ⟨e1, e1', _⟩ := Prod.mk.inj m1 |>.imp id Prod.mk.inj
  subst e1'
  rw [p2] at m2
  obtain ⟨e2, e2', _⟩ := Prod.mk.inj m2 |>.imp id Prod.mk.inj
  subst e2'
  rw [p3] at m3
  obtain ⟨e3, e3', _⟩ := Prod.mk.inj m3 |>.imp id Prod.mk.inj
  subst e3'
  rw [p4] at m4
  obtain ⟨e4, e4', _⟩ := Prod.mk.inj m4 |>.imp id Prod.mk.inj
  subst e4'
  rw [p5] at m5
  obtain ⟨e5, e5', _⟩ := Prod.mk.inj m5 |>.imp id Prod.mk.inj
  subst e5'
  rw [p6] at m6
  have e6 := (Prod.mk.inj m6).1
  have k1 := idxL c (by omega) (by omega)
  rw [e1, idxL c' (by omega) (by omega)] at k1
  have k2 := idxO b (by omega) (by omega)
  rw [e2, idxO b' (by omega) (by omega)] at k2
  have k3 := decN_inj _ _ (by omega) (by omega) e3
  have k4 := hourS_inj _ _ (by omega) (by omega) e4
  have k5 := hourS_inj _ _ (by omega) (by omega) e5
  have k6 := decN_inj _ _ (by omega) (by omega) e6
  omega
theorem PW_uniq {s : ByteArray} {X Y : WV} (hx : PW s X) (hy : PW s Y) : X = Y := by
  rcases hx with ⟨a, b, c, d, e, f, rfl, o, h⟩ | ⟨rfl, h⟩
  · rcases hy with ⟨a', b', c', d', e', f', rfl, o', h'⟩ | ⟨rfl, h'⟩
    · obtain ⟨rfl, rfl, rfl, rfl, rfl, rfl⟩ := warnR_inj a b c d e f a' b' c' d' e' f' o o' (h.trans h'.symm)
      rfl
    · exact absurd h (h' _ _ _ _ _ _ o)
  · rcases hy with ⟨a', b', c', d', e', f', rfl, o', h'⟩ | ⟨rfl, h'⟩
    · exact absurd h' (h _ _ _ _ _ _ o')
    · rfl
theorem ev_specPW (s : ByteArray) (hs : s.size ≤ 1048576) : ∃ X : WV, Ev (fun k => spec_ParseWarning.f k s) X ∧ PW s X := by
  by_cases h200 : (s.size : Int) > 200
  · refine ⟨(0, 0, 0, 0, 0, 0, false), ?_, Or.inr ⟨rfl, fun a b c d e f o h => ?_⟩⟩
    · unfold spec_ParseWarning.f
      exact Ev.congr (fun k => if_pos h200) (Ev.now _)
    · have := warnR_size a b c d e f o
      rw [h] at this
      omega
  obtain ⟨x1, hx1⟩ : ∃ x, cutV s W0 = x := ⟨_, rfl⟩
  obtain ⟨x2, hx2⟩ : ∃ x, cutV x1.2.1 W1 = x := ⟨_, rfl⟩
  obtain ⟨x3, hx3⟩ : ∃ x, cutV x2.2.1 W2 = x := ⟨_, rfl⟩
  obtain ⟨x4, hx4⟩ : ∃ x, cutV x3.2.1 W3 = x := ⟨_, rfl⟩
  obtain ⟨x5, hx5⟩ : ∃ x, cutV x4.2.1 W4 = x := ⟨_, rfl⟩
  obtain ⟨x6, hx6⟩ : ∃ x, cutV x5.2.1 W5 = x := ⟨_, rfl⟩
  have s1 := cutV_size s W0
  have s2 := cutV_size x1.2.1 W1
  have s3 := cutV_size x2.2.1 W2
  have s4 := cutV_size x3.2.1 W3
  have s5 := cutV_size x4.2.1 W4
  have s6 := cutV_size x5.2.1 W5
  rw [hx1] at s1
  rw [hx2] at s2
  rw [hx3] at s3
  rw [hx4] at s4
  rw [hx5] at s5
  rw [hx6] at s6
  have v1 := ev_cut16 s W0 hs (by decide)
  have v2 := ev_cut16 x1.2.1 W1 (by omega) (by decide)
  have v3 := ev_cut16 x2.2.1 W2 (by omega) (by decide)
  have v4 := ev_cut16 x3.2.1 W3 (by omega) (by decide)
  have v5 := ev_cut16 x4.2.1 W4 (by omega) (by decide)
  have v6 := ev_cut16 x5.2.1 W5 (by omega) (by decide)
  rw [hx1] at v1
  rw [hx2] at v2
  rw [hx3] at v3
  rw [hx4] at v4
  rw [hx5] at v5
  rw [hx6] at v6
  obtain ⟨i1, vi1, pi1⟩ := LV_at x1.1
  obtain ⟨i2, vi2, pi2⟩ := TV_at x2.1
  obtain ⟨n3, vn3, pn3⟩ := ev_read x3.1
  obtain ⟨n6, vn6, pn6⟩ := ev_read x6.1
  have vh4 := ev_specParse x4.1
  have vh5 := ev_specParse x5.1
  have fit : ∀ a b c d e f, okB a b c d e f = true → warnR a b c d e f = s → n6.1 = a ∧ i2 = b ∧ i1 = c ∧ n3.1 = d ∧ (hourOf x4.1).1 = e ∧ (hourOf x5.1).1 = f := by
    intro a b c d e f o h
    have hb := of_decide_eq_true o
    obtain ⟨r1, r2, r3, r4, r5, p1, p2, p3, p4, p5, p6⟩ := pieces s a b c d e f o h
    rw [hx1] at p1
    subst p1
    rw [show cutV r1 W1 = x2 from hx2] at p2
    subst p2
    rw [show cutV r2 W2 = x3 from hx3] at p3
    subst p3
    rw [show cutV r3 W3 = x4 from hx4] at p4
    subst p4
    rw [show cutV r4 W4 = x5 from hx5] at p5
    subst p5
    rw [show cutV r5 W5 = x6 from hx6] at p6
    subst p6
    have e1 := pi1 c (by omega) (by omega) rfl
    have e2 := pi2 b (by omega) (by omega) rfl
    have e3 := pn3 d.toNat (by omega) rfl
    have e6 := pn6 a.toNat (by omega) rfl
    have e4 := hourOf_at e.toNat (by omega)
    have e5 := hourOf_at f.toNat (by omega)
    subst e1 e2 e3 e6
    dsimp only
    rw [e4, e5]
    dsimp only
    omega
  have start : ∀ X, Ev (fun k => (spec_l14Good.f n6.1 i2 i1 n3.1 (hourOf x4.1).1 (hourOf x5.1).1).bind fun t174 => (if t174 = true then ((spec_l16Text.f k n6.1 i2 i1 n3.1 (hourOf x4.1).1 (hourOf x5.1).1).bind fun t175 => (if t175.toList = s.toList then (some (n6.1, i2, i1, n3.1, (hourOf x4.1).1, (hourOf x5.1).1, true)) else (some (0, 0, 0, 0, 0, 0, false)))) else (some (0, 0, 0, 0, 0, 0, false)))) X → Ev (fun k => spec_ParseWarning.f k s) X := by
    intro X hX
    unfold spec_ParseWarning.f
    refine Ev.congr (fun k => if_neg h200) ?_
    refine Ev.bind (f := fun k t => _) v1 ?_
    refine Ev.bind (f := fun k t => _) v2 ?_
    refine Ev.bind (f := fun k t => _) v3 ?_
    refine Ev.bind (f := fun k t => _) v4 ?_
    refine Ev.bind (f := fun k t => _) v5 ?_
    refine Ev.bind (f := fun k t => _) v6 ?_
    refine Ev.bind (f := fun k t => _) (Ev.eq_now fun k => (show spec_l16Levels.f = some LV from rfl)) ?_
    refine Ev.bind (f := fun k t => _) vi1 ?_
    refine Ev.bind (f := fun k t => _) (Ev.eq_now fun k => (show spec_l16Topics.f = some TV from rfl)) ?_
    refine Ev.bind (f := fun k t => _) vi2 ?_
    refine Ev.bind (f := fun k t => _) vn3 ?_
    refine Ev.bind (f := fun k t => _) vn6 ?_
    refine Ev.bind (f := fun k t => _) vh4 ?_
    exact Ev.bind (f := fun k t => _) vh5 hX
  by_cases o : okB n6.1 i2 i1 n3.1 (hourOf x4.1).1 (hourOf x5.1).1 = true
  · by_cases e : warnR n6.1 i2 i1 n3.1 (hourOf x4.1).1 (hourOf x5.1).1 = s
    · refine ⟨_, start (n6.1, i2, i1, n3.1, (hourOf x4.1).1, (hourOf x5.1).1, true) ?_, Or.inl ⟨_, _, _, _, _, _, rfl, o, e⟩⟩
      refine Ev.bind (f := fun k t => _) (Ev.eq_now fun k => good_f _ _ _ _ _ _) ?_
      refine Ev.congr (fun k => if_pos o) ?_
      refine Ev.bind (f := fun k t => _) (ev_specText _ _ _ _ _ _ o) ?_
      exact Ev.congr (fun k => if_pos (by rw [e])) (Ev.now _)
    · refine ⟨_, start (0, 0, 0, 0, 0, 0, false) ?_, Or.inr ⟨rfl, fun a b c d e' f o' h => ?_⟩⟩
      · refine Ev.bind (f := fun k t => _) (Ev.eq_now fun k => good_f _ _ _ _ _ _) ?_
        refine Ev.congr (fun k => if_pos o) ?_
        refine Ev.bind (f := fun k t => _) (ev_specText _ _ _ _ _ _ o) ?_
        exact Ev.congr (fun k => if_neg (toL_ne e)) (Ev.now _)
      · obtain ⟨rfl, rfl, rfl, rfl, rfl, rfl⟩ := fit a b c d e' f o' h
        exact e h
  · refine ⟨_, start (0, 0, 0, 0, 0, 0, false) ?_, Or.inr ⟨rfl, fun a b c d e' f o' h => ?_⟩⟩
    · refine Ev.bind (f := fun k t => _) (Ev.eq_now fun k => good_f _ _ _ _ _ _) ?_
      exact Ev.congr (fun k => if_neg o) (Ev.now _)
    · obtain ⟨rfl, rfl, rfl, rfl, rfl, rfl⟩ := fit a b c d e' f o' h
      exact o o'
def read2 (x y : ByteArray) : List Int × Bool := if (intV x).2 = true then (if (intV y).2 = true then ([(intV x).1, (intV y).1], true) else ([], false)) else ([], false)
theorem ev_read2 (x y : ByteArray) (hx : x.size ≤ 1048576) (hy : y.size ≤ 1048576) : Ev (fun k => impl_readInts.f k [x, y]) (read2 x y) := by
  unfold impl_readInts.f read2
  refine Ev.congr (fun k => if_pos (by simp)) (Ev.congr (fun k => if_pos (by simp)) (Ev.unr ?_))
  show Ev (fun k => impl_readInts.l0 (k + 1) [0, 0] [x, y] 2 0) _
  simp only [impl_readInts.l0]
  refine Ev.congr (fun k => if_pos (by decide)) (Ev.congr (fun k => if_pos (by decide)) (Ev.congr (fun k => if_pos (by simp)) ?_))
  rw [show rdOf ByteArray.empty [x, y] 0 = x from rfl]
  refine Ev.bind (f := fun k t => _) (Ev.eq_now fun k => parseInt_f x hx) ?_
  by_cases c : (intV x).2 = true
  · rw [if_pos c]
    refine Ev.congr (fun k => if_pos c) (Ev.congr (fun k => if_pos (by simp)) (Ev.unr ?_))
    rw [show wrap64 (0 + 1) = 1 from by decide +kernel]
    show Ev (fun k => impl_readInts.l0 (k + 1) [(intV x).1, 0] [x, y] 2 1) _
    simp only [impl_readInts.l0]
    refine Ev.congr (fun k => if_pos (by decide)) (Ev.congr (fun k => if_pos (by decide)) (Ev.congr (fun k => if_pos (by simp)) ?_))
    rw [show rdOf ByteArray.empty [x, y] 1 = y from rfl]
    refine Ev.bind (f := fun k t => _) (Ev.eq_now fun k => parseInt_f y hy) ?_
    by_cases c2 : (intV y).2 = true
    · rw [if_pos c2]
      refine Ev.congr (fun k => if_pos c2) (Ev.congr (fun k => if_pos (by simp)) (Ev.unr ?_))
      rw [show wrap64 (1 + 1) = 2 from by decide +kernel]
      show Ev (fun k => impl_readInts.l0 (k + 1) [(intV x).1, (intV y).1] [x, y] 2 2) _
      simp only [impl_readInts.l0]
      exact Ev.congr (fun k => if_neg (by decide)) (Ev.now _)
    · rw [if_neg c2]
      exact Ev.congr (fun k => if_neg c2) (Ev.now _)
  · rw [if_neg c]
    exact Ev.congr (fun k => if_neg c) (Ev.now _)
theorem ev_implPW (s : ByteArray) (hs : s.size ≤ 1048576) : ∃ X : WV, Ev (fun k => impl_ParseWarning.f k s) X ∧ PW s X := by
  obtain ⟨x1, hx1⟩ : ∃ x, cutV s W0 = x := ⟨_, rfl⟩
  obtain ⟨x2, hx2⟩ : ∃ x, cutV x1.2.1 W1 = x := ⟨_, rfl⟩
  obtain ⟨x3, hx3⟩ : ∃ x, cutV x2.2.1 W2 = x := ⟨_, rfl⟩
  obtain ⟨x4, hx4⟩ : ∃ x, cutV x3.2.1 W3 = x := ⟨_, rfl⟩
  obtain ⟨x5, hx5⟩ : ∃ x, cutV x4.2.1 W4 = x := ⟨_, rfl⟩
  obtain ⟨x6, hx6⟩ : ∃ x, cutV x5.2.1 W5 = x := ⟨_, rfl⟩
  have s1 := cutV_size s W0
  have s2 := cutV_size x1.2.1 W1
  have s3 := cutV_size x2.2.1 W2
  have s4 := cutV_size x3.2.1 W3
  have s5 := cutV_size x4.2.1 W4
  have s6 := cutV_size x5.2.1 W5
  rw [hx1] at s1
  rw [hx2] at s2
  rw [hx3] at s3
  rw [hx4] at s4
  rw [hx5] at s5
  rw [hx6] at s6
  have v1 := implCut_f s W0 (by omega)
  have v2 := implCut_f x1.2.1 W1 (by omega)
  have v3 := implCut_f x2.2.1 W2 (by omega)
  have v4 := implCut_f x3.2.1 W3 (by omega)
  have v5 := implCut_f x4.2.1 W4 (by omega)
  have v6 := implCut_f x5.2.1 W5 (by omega)
  rw [hx1] at v1
  rw [hx2] at v2
  rw [hx3] at v3
  rw [hx4] at v4
  rw [hx5] at v5
  rw [hx6] at v6
  have vr := ev_read2 x3.1 x6.1 (by omega) (by omega)
  have vh4 := ev_implParse x4.1
  have vh5 := ev_implParse x5.1
  have fit : ∀ a b c d e f, okB a b c d e f = true → warnR a b c d e f = s → intV x6.1 = (a, true) ∧ Lib.idxOfS (wordsOf 0) x2.1 = b ∧ Lib.idxOfS (wordsOf 1) x1.1 = c ∧ intV x3.1 = (d, true) ∧ hourOf x4.1 = (e, true) ∧ hourOf x5.1 = (f, true) := by
    intro a b c d e f o h
    have hb := of_decide_eq_true o
    obtain ⟨r1, r2, r3, r4, r5, p1, p2, p3, p4, p5, p6⟩ := pieces s a b c d e f o h
    rw [hx1] at p1
    subst p1
    rw [show cutV r1 W1 = x2 from hx2] at p2
    subst p2
    rw [show cutV r2 W2 = x3 from hx3] at p3
    subst p3
    rw [show cutV r3 W3 = x4 from hx4] at p4
    subst p4
    rw [show cutV r4 W4 = x5 from hx5] at p5
    subst p5
    rw [show cutV r5 W5 = x6 from hx6] at p6
    subst p6
    dsimp only
    rw [intV_dec _ (by omega), intV_dec _ (by omega), hourOf_at _ (by omega), hourOf_at _ (by omega), idxO b (by omega) (by omega), idxL c (by omega) (by omega), show ((a.toNat : Nat) : Int) = a from by omega, show ((d.toNat : Nat) : Int) = d from by omega, show ((e.toNat : Nat) : Int) = e from by omega, show ((f.toNat : Nat) : Int) = f from by omega]
    exact ⟨rfl, rfl, rfl, rfl, rfl, rfl⟩
  have start : ∀ X, Ev (fun k => if (read2 x3.1 x6.1).2 = true then (if (hourOf x4.1).2 = true then (impl_ParseWarning.j0 k s x1.1 x2.1 (read2 x3.1 x6.1).1 (hourOf x4.1).1 (hourOf x5.1).1 (!(hourOf x5.1).2)) else (impl_ParseWarning.j0 k s x1.1 x2.1 (read2 x3.1 x6.1).1 (hourOf x4.1).1 (hourOf x5.1).1 true)) else (impl_ParseWarning.j0 k s x1.1 x2.1 (read2 x3.1 x6.1).1 (hourOf x4.1).1 (hourOf x5.1).1 true)) X → Ev (fun k => impl_ParseWarning.f k s) X := by
    intro X hX
    unfold impl_ParseWarning.f
    refine Ev.bind (f := fun k t => _) (Ev.eq_now fun k => v1) ?_
    refine Ev.bind (f := fun k t => _) (Ev.eq_now fun k => v2) ?_
    refine Ev.bind (f := fun k t => _) (Ev.eq_now fun k => v3) ?_
    refine Ev.bind (f := fun k t => _) (Ev.eq_now fun k => v4) ?_
    refine Ev.bind (f := fun k t => _) (Ev.eq_now fun k => v5) ?_
    refine Ev.bind (f := fun k t => _) (Ev.eq_now fun k => v6) ?_
    refine Ev.bind (f := fun k t => _) vr ?_
    refine Ev.bind (f := fun k t => _) vh4 ?_
    exact Ev.bind (f := fun k t => _) vh5 hX
  have none : ∀ l e f, Ev (fun k => impl_ParseWarning.j0 k s x1.1 x2.1 l e f true) (0, 0, 0, 0, 0, 0, false) := by
    intro l e f
    refine Ev.unr ?_
    simp only [impl_ParseWarning.j0]
    exact Ev.congr (fun k => if_pos trivial) (Ev.now _)
  by_cases g : (intV x3.1).2 = true ∧ (intV x6.1).2 = true ∧ (hourOf x4.1).2 = true ∧ (hourOf x5.1).2 = true
  · obtain ⟨g3, g6, g4, g5⟩ := g
    have er : read2 x3.1 x6.1 = ([(intV x3.1).1, (intV x6.1).1], true) := by
      unfold read2
      rw [if_pos g3, if_pos g6]
    have start2 : ∀ X, Ev (fun k => (impl_IsValidWarning.f (intV x6.1).1 (Lib.idxOfS (wordsOf 0) x2.1) (Lib.idxOfS (wordsOf 1) x1.1) (intV x3.1).1 (hourOf x4.1).1 (hourOf x5.1).1).bind fun t242 => (if t242 = true then ((impl_warningText.f (intV x6.1).1 (Lib.idxOfS (wordsOf 0) x2.1) (Lib.idxOfS (wordsOf 1) x1.1) (intV x3.1).1 (hourOf x4.1).1 (hourOf x5.1).1).bind fun t243 => (if t243.toList = s.toList then (some ((intV x6.1).1, (Lib.idxOfS (wordsOf 0) x2.1), (Lib.idxOfS (wordsOf 1) x1.1), (intV x3.1).1, (hourOf x4.1).1, (hourOf x5.1).1, true)) else (some (0, 0, 0, 0, 0, 0, false)))) else (some (0, 0, 0, 0, 0, 0, false)))) X → Ev (fun k => impl_ParseWarning.f k s) X := by
      intro X hX
      refine start X ?_
      rw [er, g4, g5]
      refine Ev.congr (fun k => if_pos rfl) (Ev.congr (fun k => if_pos rfl) (Ev.unr ?_))
      simp only [impl_ParseWarning.j0]
      refine Ev.congr (fun k => if_neg (by simp)) (Ev.congr (fun k => if_pos (by simp)) ?_)
      refine Ev.bind (f := fun k t => _) (Ev.eq_now fun k => (show slices_Index_h.f 0 x2.1 = some (Lib.idxOfS (wordsOf 0) x2.1) from rfl)) ?_
      refine Ev.bind (f := fun k t => _) (Ev.eq_now fun k => (show slices_Index_h.f 1 x1.1 = some (Lib.idxOfS (wordsOf 1) x1.1) from rfl)) ?_
      exact Ev.congr (fun k => if_pos (by simp)) hX
    by_cases o : okB (intV x6.1).1 (Lib.idxOfS (wordsOf 0) x2.1) (Lib.idxOfS (wordsOf 1) x1.1) (intV x3.1).1 (hourOf x4.1).1 (hourOf x5.1).1 = true
    · by_cases e : warnR (intV x6.1).1 (Lib.idxOfS (wordsOf 0) x2.1) (Lib.idxOfS (wordsOf 1) x1.1) (intV x3.1).1 (hourOf x4.1).1 (hourOf x5.1).1 = s
      · refine ⟨_, start2 (_, _, _, _, _, _, true) ?_, Or.inl ⟨_, _, _, _, _, _, rfl, o, e⟩⟩
        refine Ev.bind (f := fun k t => _) (Ev.eq_now fun k => valid_f _ _ _ _ _ _) ?_
        refine Ev.congr (fun k => if_pos o) ?_
        refine Ev.bind (f := fun k t => _) (Ev.eq_now fun k => implText_f _ _ _ _ _ _ o) ?_
        exact Ev.congr (fun k => if_pos (by rw [e])) (Ev.now _)
      · refine ⟨_, start2 (0, 0, 0, 0, 0, 0, false) ?_, Or.inr ⟨rfl, fun a b c d e' f o' h => ?_⟩⟩
        · refine Ev.bind (f := fun k t => _) (Ev.eq_now fun k => valid_f _ _ _ _ _ _) ?_
          refine Ev.congr (fun k => if_pos o) ?_
          refine Ev.bind (f := fun k t => _) (Ev.eq_now fun k => implText_f _ _ _ _ _ _ o) ?_
          exact Ev.congr (fun k => if_neg (toL_ne e)) (Ev.now _)
        · obtain ⟨f1, f2, f3, f4, f5, f6⟩ := fit a b c d e' f o' h
          rw [f1, f2, f3, f4, f5, f6] at e
          exact e h
    · refine ⟨_, start2 (0, 0, 0, 0, 0, 0, false) ?_, Or.inr ⟨rfl, fun a b c d e' f o' h => ?_⟩⟩
      · refine Ev.bind (f := fun k t => _) (Ev.eq_now fun k => valid_f _ _ _ _ _ _) ?_
        exact Ev.congr (fun k => if_neg o) (Ev.now _)
      · obtain ⟨f1, f2, f3, f4, f5, f6⟩ := fit a b c d e' f o' h
        rw [f1, f2, f3, f4, f5, f6] at o
        exact o o'
  · refine ⟨(0, 0, 0, 0, 0, 0, false), start _ ?_, Or.inr ⟨rfl, fun a b c d e' f o' h => ?_⟩⟩
    · by_cases g1 : (read2 x3.1 x6.1).2 = true
      · refine Ev.congr (fun k => if_pos g1) ?_
        by_cases g2 : (hourOf x4.1).2 = true
        · refine Ev.congr (fun k => if_pos g2) ?_
          have g3 : (hourOf x5.1).2 = false := by
            cases q : (hourOf x5.1).2 with
            | false => rfl
            | true =>
              exfalso
              refine g ⟨?_, ?_, g2, q⟩
              · unfold read2 at g1
                split at g1
                · rename_i z; exact z
                · cases g1
              · unfold read2 at g1
                split at g1
                · split at g1
                  · rename_i z; exact z
                  · cases g1
                · cases g1
          rw [g3]
          exact none _ _ _
        · exact Ev.congr (fun k => if_neg g2) (none _ _ _)
      · exact Ev.congr (fun k => if_neg g1) (none _ _ _)
    · obtain ⟨f1, f2, f3, f4, f5, f6⟩ := fit a b c d e' f o' h
      exact g ⟨by rw [f4], by rw [f1], by rw [f5], by rw [f6]⟩
end Go.Proofs.YtleadjbfcenofaaGreatDoor.Q
namespace Go.Proofs.YtleadjbfcenofaaGreatDoor.Q.Ov
open Go.Proofs.YtleadjbfcenofaaGreatDoor.Q Go.RowKit Go.Proofs.YtleadjbfcenofaaGreatDoorW.PrintWords Go.Proofs.YtleadjbfcenofaaGreatDoor.Gen Go.Proofs.YtleadjbfcenofaaGreatDoor.Tells
set_option linter.unusedVariables false
set_option linter.unusedSimpArgs false
def okW (x : S25) : Bool := okB x.f0 x.f1 x.f2 x.f3 x.f4 x.f5
theorem goodW_f (x : S25) : spec_l14Good.f x.f0 x.f1 x.f2 x.f3 x.f4 x.f5 = some (okW x) := good_f _ _ _ _ _ _
theorem validW_f (x : S25) : impl_IsValidWarning.f x.f0 x.f1 x.f2 x.f3 x.f4 x.f5 = some (okW x) := valid_f _ _ _ _ _ _
theorem rdW (l : List S25) (i : Nat) : rd_T25 l (i : Int) = l.getD i z25 := rfl
def stepB (l : List S25) (i : Nat) : Bool := okW (l.getD i z25) && (i == 0 || decide ((l.getD (i - 1) z25).f0 < (l.getD i z25).f0))
theorem areW_round (l : List S25) (hl : l.length ≤ 4611686018427387904) (i : Nat) (hi : i < l.length) (k : Nat) : impl_areWarnings.l0 (k + 1) l l (l.length : Int) (i : Int) = if stepB l i = true then impl_areWarnings.l0 k l l (l.length : Int) ((i + 1 : Nat) : Int) else some false := by
  simp only [impl_areWarnings.l0]
  rw [if_pos (by omega), if_pos (by omega), if_pos (by omega), rdW, validW_f, wrapS i (by omega)]
  simp only [Option.bind_some]
  unfold stepB
  cases hg : okW (l.getD i z25) with
  | false => rfl
  | true =>
    rw [if_pos rfl]
    by_cases h0 : i = 0
    · subst h0
      rw [if_neg (by omega)]
      rfl
    · rw [if_pos (by omega), wrapP i (by omega) (by omega), if_pos (by omega), if_pos (by omega), rdW]
      rw [show (i == 0) = false from by simpa using h0]
      by_cases hlt : (l.getD (i - 1) z25).f0 < (l.getD i z25).f0
      · rw [if_neg (by omega), decide_eq_true hlt]; rfl
      · rw [if_pos (by omega), decide_eq_false hlt]; rfl
theorem ev_areWarnings (l : List S25) (hb : l.length ≤ 4611686018427387904) : Ev (fun k => impl_areWarnings.f k l) (decide (l.length ≤ 12) && decide (∀ j, j < l.length → stepB l j = true)) := by
  unfold impl_areWarnings.f
  have key := ev_run (fun k (_ : Unit) i => impl_areWarnings.l0 k l l (l.length : Int) i) l.length (fun j _ => if stepB l j = true then .inr () else .inl false) (fun _ => decide (l.length ≤ 12)) (fun _ _ => True)
    (by
      intro i s b hi _ h
      refine Ev.eq_now fun k => ?_
      rw [areW_round l hb i hi]
      cases hs : stepB l i <;> simp [hs] at h ⊢
      exact h)
    (by
      intro i s s' r hi _ h
      refine ⟨trivial, fun he => Ev.congr (fun k => ?_) he⟩
      rw [areW_round l hb i hi]
      cases hs : stepB l i <;> simp [hs] at h ⊢)
    (by
      intro s _
      refine Ev.eq_now fun k => ?_
      simp only [impl_areWarnings.l0]
      rw [if_neg (by omega)]
      congr 1
      exact decide_eq_decide.2 (by omega))
    l.length 0 () (by omega) trivial
  rw [run_all (fun j => stepB l j) false (decide (l.length ≤ 12)) l.length l.length 0 (by omega)] at key
  by_cases hp : ∀ j, j < l.length → stepB l j = true
  · rw [decide_eq_true hp, Bool.and_true]
    rw [if_pos (fun j hj _ => hp j hj)] at key
    exact key
  · rw [decide_eq_false hp, Bool.and_false]
    rw [if_neg (fun h => hp (fun j hj => h j hj (Nat.zero_le _)))] at key
    exact key
def overB (l : List S25) : Bool := decide (l.length ≤ 12) && decide (∀ j, j < l.length → stepB l j = true)
theorem ev_isOverview (l : List S25) (hb : l.length ≤ 4611686018427387904) : Ev (fun k => impl_isOverview.f k l) (overB l) := by
  unfold impl_isOverview.f overB
  by_cases h : l.length ≤ 12
  · refine Ev.congr (fun k => if_pos (by omega)) ?_
    exact Ev.bind (f := fun k t => _) (ev_areWarnings l hb) (Ev.now _)
  · rw [decide_eq_false h]
    exact Ev.congr (fun k => if_neg (by omega)) (Ev.now _)
theorem over_round (l : List S25) (hl : l.length ≤ 4611686018427387904) (i : Nat) (hi : i < l.length) (k : Nat) : spec_l16Overview.l0 (k + 1) l (i : Int) = if stepB l i = true then spec_l16Overview.l0 k l ((i + 1 : Nat) : Int) else some false := by
  simp only [spec_l16Overview.l0]
  rw [if_pos (by omega), if_pos (by omega), rdW, goodW_f, wrapS i (by omega)]
  simp only [Option.bind_some]
  unfold stepB
  cases hg : okW (l.getD i z25) with
  | false => rfl
  | true =>
    rw [if_pos rfl]
    by_cases h0 : i = 0
    · subst h0
      rw [if_neg (by omega)]
      rfl
    · rw [if_pos (by omega), wrapP i (by omega) (by omega), if_pos (by omega), if_pos (by omega), rdW]
      rw [show (i == 0) = false from by simpa using h0]
      by_cases hlt : (l.getD (i - 1) z25).f0 < (l.getD i z25).f0
      · rw [if_neg (by omega), decide_eq_true hlt]; rfl
      · rw [if_pos (by omega), decide_eq_false hlt]; rfl
theorem ev_l16Over (l : List S25) (hb : l.length ≤ 4611686018427387904) : Ev (fun k => spec_l16Overview.f k l) (overB l) := by
  unfold spec_l16Overview.f overB
  have key := ev_run (fun k (_ : Unit) i => spec_l16Overview.l0 k l i) l.length (fun j _ => if stepB l j = true then .inr () else .inl false) (fun _ => decide (l.length ≤ 12)) (fun _ _ => True)
    (by
      intro i s b hi _ h
      refine Ev.eq_now fun k => ?_
      rw [over_round l hb i hi]
      cases hs : stepB l i <;> simp [hs] at h ⊢
      exact h)
    (by
      intro i s s' r hi _ h
      refine ⟨trivial, fun he => Ev.congr (fun k => ?_) he⟩
      rw [over_round l hb i hi]
      cases hs : stepB l i <;> simp [hs] at h ⊢)
    (by
      intro s _
      refine Ev.eq_now fun k => ?_
      simp only [spec_l16Overview.l0]
      rw [if_neg (by omega)]
      congr 1
      exact decide_eq_decide.2 (by omega))
    l.length 0 () (by omega) trivial
  rw [run_all (fun j => stepB l j) false (decide (l.length ≤ 12)) l.length l.length 0 (by omega)] at key
  by_cases hp : ∀ j, j < l.length → stepB l j = true
  · rw [decide_eq_true hp, Bool.and_true]
    rw [if_pos (fun j hj _ => hp j hj)] at key
    exact key
  · rw [decide_eq_false hp, Bool.and_false]
    rw [if_neg (fun h => hp (fun j hj => h j hj (Nat.zero_le _)))] at key
    exact key
theorem over_ok {l : List S25} (h : overB l = true) : l.length ≤ 12 ∧ ∀ j, j < l.length → okW (l.getD j z25) = true := by
  unfold overB at h
  rw [Bool.and_eq_true, decide_eq_true_eq, decide_eq_true_eq] at h
  refine ⟨h.1, fun j hj => ?_⟩
  have := h.2 j hj
  unfold stepB at this
  rw [Bool.and_eq_true] at this
  exact this.1
def wT (x : S25) : ByteArray := warnR x.f0 x.f1 x.f2 x.f3 x.f4 x.f5
theorem wT_size {x : S25} (o : okW x = true) : (wT x).size ≤ 1000 := by
  have hb := of_decide_eq_true o
  have h1 := decN_size x.f3.toNat (by omega)
  have h2 := hourS_size x.f4.toNat (by omega)
  have h3 := hourS_size x.f5.toNat (by omega)
  have h4 := decN_size x.f0.toNat (by omega)
  have hL := wordL_size x.f2
  have hO := wordO_size x.f1
  unfold wT warnR catS
  simp only [ba_size_app, szW0, szW1, szW2, szW3, szW4, szW5]
  omega
def nlB : ByteArray := (⟨#[10]⟩ : ByteArray)
theorem nlB_size : nlB.size = 1 := rfl
def ovT : List S25 → ByteArray → ByteArray
  | [], s => s
  | x :: r, s => ovT r (s ++ (wT x ++ nlB))
theorem ovL_f : ∀ (l : List S25) (s : ByteArray), (∀ x ∈ l, okW x = true) → s.size + 1001 * l.length ≤ 1000000 → ovL l s = some (ovT l s) := by
  intro l
  induction l with
  | nil => intro s _ _; rfl
  | cons x r ih =>
    intro s ho hs
    have hx := ho x List.mem_cons_self
    have hz := wT_size hx
    rw [List.length_cons] at hs
    unfold ovL ovT
    rw [implText_f _ _ _ _ _ _ hx, Option.bind_some]
    show (if s.size + ((wT x).size + 1) ≤ 1000000 then ovL r (s ++ (wT x ++ nlB)) else none) = _
    rw [if_pos (by omega)]
    exact ih _ (fun y hy => ho y (List.mem_cons_of_mem _ hy)) (by rw [ba_size_app, ba_size_app, nlB_size]; omega)
theorem ev_specOver_l0 (l : List S25) (hl : l.length ≤ 12) (ho : ∀ j, j < l.length → okW (l.getD j z25) = true) : ∀ d j, j + d = l.length → ∀ s : ByteArray, s.size ≤ 1001 * j → Ev (fun k => spec_OverviewText.l0 k l s (j : Int)) (ovT (l.drop j) s, true) := by
  intro d
  induction d with
  | zero =>
    intro j hj s hs
    obtain rfl : j = l.length := by omega
    rw [List.drop_length]
    refine Ev.unr ?_
    simp only [spec_OverviewText.l0]
    exact Ev.congr (fun k => if_neg (by omega)) (Ev.now _)
  | succ d ih =>
    intro j hj s hs
    have hlt : j < l.length := by omega
    have hx := ho j hlt
    have hz := wT_size hx
    rw [List.drop_eq_getElem_cons hlt, ← Gen.getD_lt l z25 j hlt]
    have key := ih (j + 1) (by omega) (s ++ (wT (l.getD j z25) ++ nlB)) (by rw [ba_size_app, ba_size_app, nlB_size]; omega)
    refine Ev.unr ?_
    simp only [spec_OverviewText.l0]
    refine Ev.congr (fun k => if_pos (by omega)) ?_
    refine Ev.congr (fun k => if_pos (by omega)) ?_
    rw [rdW, wrapS j (by omega)]
    refine Ev.bind (f := fun k t => _) (ev_specText _ _ _ _ _ _ hx) ?_
    refine Ev.congr (fun k => if_pos (by have : (warnR (l.getD j z25).f0 (l.getD j z25).f1 (l.getD j z25).f2 (l.getD j z25).f3 (l.getD j z25).f4 (l.getD j z25).f5).size ≤ 1000 := hz; omega)) ?_
    refine Ev.congr (fun k => if_pos (by have : (warnR (l.getD j z25).f0 (l.getD j z25).f1 (l.getD j z25).f2 (l.getD j z25).f3 (l.getD j z25).f4 (l.getD j z25).f5).size ≤ 1000 := hz; rw [ba_size_app]; omega)) ?_
    rw [ByteArray.append_assoc]
    exact key
def overR (l : List S25) : ByteArray × Bool := if overB l = true then (if l.length = 0 then ((⟨#[78, 111, 32, 119, 97, 114, 110, 105, 110, 103, 115, 46, 10]⟩ : ByteArray), true) else (ovT l (⟨#[]⟩ : ByteArray), true)) else ((⟨#[]⟩ : ByteArray), false)
theorem ev_specOver (l : List S25) (hb : l.length ≤ 4611686018427387904) : Ev (fun k => spec_OverviewText.f k l) (overR l) := by
  unfold spec_OverviewText.f overR
  refine Ev.bind (f := fun k t => _) (ev_l16Over l hb) ?_
  by_cases h : overB l = true
  · rw [if_pos h]
    refine Ev.congr (fun k => if_pos h) ?_
    by_cases hz : l.length = 0
    · rw [if_pos hz]
      exact Ev.congr (fun k => if_pos (by omega)) (Ev.now _)
    · rw [if_neg hz]
      refine Ev.congr (fun k => if_neg (by omega)) ?_
      obtain ⟨h1, h2⟩ := over_ok h
      exact ev_specOver_l0 l h1 h2 l.length 0 (by omega) (⟨#[]⟩ : ByteArray) (Nat.zero_le _)
  · rw [if_neg h]
    exact Ev.congr (fun k => if_neg h) (Ev.now _)
theorem ev_implOver (l : List S25) (hb : l.length ≤ 4611686018427387904) : Ev (fun k => impl_OverviewText.f k l) (overR l) := by
  unfold impl_OverviewText.f overR
  refine Ev.bind (f := fun k t => _) (ev_isOverview l hb) ?_
  by_cases h : overB l = true
  · refine Ev.congr (fun k => if_pos h) ?_
    rw [if_pos h]
    by_cases hz : l.length = 0
    · refine Ev.congr (fun k => if_pos hz) ?_
      rw [if_pos hz]
      exact Ev.now _
    · refine Ev.congr (fun k => if_neg hz) ?_
      rw [if_neg hz]
      obtain ⟨h1, h2⟩ := over_ok h
      have hm : ∀ x ∈ l, okW x = true := fun x hx => by
        obtain ⟨j, hj, rfl⟩ := List.getElem_of_mem hx
        have := h2 j hj
        rwa [Gen.getD_lt l z25 j hj] at this
      rw [ovL_f l (⟨#[]⟩ : ByteArray) hm (by show 0 + _ ≤ _; omega)]
      exact Ev.now _
  · refine Ev.congr (fun k => if_neg h) ?_
    rw [if_neg h]
    exact Ev.now _
end Go.Proofs.YtleadjbfcenofaaGreatDoor.Q.Ov
namespace Go.Proofs.YtleadjbfcenofaaGreatDoor.Q.Ov
open Go.Proofs.YtleadjbfcenofaaGreatDoor.Q Go.RowKit Go.Proofs.YtleadjbfcenofaaGreatDoorW.PrintWords Go.Proofs.YtleadjbfcenofaaGreatDoor.Gen Go.Proofs.YtleadjbfcenofaaGreatDoor.Tells
set_option linter.unusedVariables false
set_option linter.unusedSimpArgs false
def mkB (l : List UInt8) : ByteArray := ⟨l.toArray⟩
theorem mkB_list (l : List UInt8) : (mkB l).data.toList = l := rfl
theorem mkB_size (l : List UInt8) : (mkB l).size = l.length := by rw [← ba_len, mkB_list]
theorem mkB_eta (s : ByteArray) : mkB s.data.toList = s := by
  cases s
  rfl
theorem mkB_app (a b : List UInt8) : mkB a ++ mkB b = mkB (a ++ b) := by
  apply ba_ext
  rw [ba_app]
  rfl
theorem nl_split : ∀ (l : List UInt8), 10 ∉ l ∨ ∃ a r, 10 ∉ a ∧ l = a ++ 10 :: r
  | [] => .inl (by simp)
  | x :: l => by
    by_cases hx : x = 10
    · subst hx
      exact .inr ⟨[], l, by simp, rfl⟩
    · rcases nl_split l with h | ⟨a, r, ha, e⟩
      · exact .inl (by simp only [List.mem_cons, not_or]; exact ⟨fun q => hx q.symm, h⟩)
      · exact .inr ⟨x :: a, r, by simp only [List.mem_cons, not_or]; exact ⟨fun q => hx q.symm, ha⟩, by rw [e]; rfl⟩
theorem ixB_none : ∀ (l : List UInt8), 10 ∉ l → Lib.indexByte l 10 = -1
  | [], _ => rfl
  | x :: l, h => by
    have hx : (x == 10) = false := beq_eq_false_iff_ne.mpr fun q => h (by rw [q]; exact List.mem_cons_self ..)
    have hi := ixB_none l fun q => h (List.mem_cons_of_mem _ q)
    unfold Lib.indexByte
    rw [hx, hi]
    rfl
theorem ixB_at : ∀ (a r : List UInt8), 10 ∉ a → Lib.indexByte (a ++ 10 :: r) 10 = (a.length : Int)
  | [], _, _ => by
    rw [List.nil_append]
    unfold Lib.indexByte
    rfl
  | x :: a, r, h => by
    have hx : (x == 10) = false := beq_eq_false_iff_ne.mpr fun q => h (by rw [q]; exact List.mem_cons_self ..)
    have hi := ixB_at a r fun q => h (List.mem_cons_of_mem _ q)
    rw [List.cons_append]
    unfold Lib.indexByte
    rw [hx, hi, if_neg (by simp), if_neg (by simp), List.length_cons]
    omega
def joinN : List (List UInt8) → List UInt8
  | [] => []
  | q :: r => q ++ 10 :: joinN r
theorem joinN_snoc : ∀ (qs : List (List UInt8)) (q : List UInt8), joinN (qs ++ [q]) = joinN qs ++ (q ++ [10])
  | [], q => by simp [joinN]
  | x :: r, q => by rw [List.cons_append, joinN, joinN, joinN_snoc r q]; simp
theorem joinN_len : ∀ (qs : List (List UInt8)), qs.length ≤ (joinN qs).length
  | [] => Nat.le_refl _
  | x :: r => by
    have := joinN_len r
    simp only [joinN, List.length_append, List.length_cons]
    omega
theorem joinN_le (n : Nat) : ∀ (qs : List (List UInt8)), (∀ q ∈ qs, q.length ≤ n) → (joinN qs).length ≤ (n + 1) * qs.length
  | [], _ => Nat.zero_le _
  | x :: r, h => by
    have h1 := joinN_le n r fun q hq => h q (List.mem_cons_of_mem _ hq)
    have h2 := h x (List.mem_cons_self ..)
    simp only [joinN, List.length_append, List.length_cons, Nat.mul_add]
    omega
theorem nl_parts : ∀ (n : Nat) (l : List UInt8), l.length ≤ n → ∃ (qs : List (List UInt8)) (e : List UInt8), 10 ∉ e ∧ (∀ q ∈ qs, 10 ∉ q) ∧ l = joinN qs ++ e
  | 0, l, h => ⟨[], [], by simp, by simp, by simpa [joinN] using List.length_eq_zero_iff.1 (Nat.le_zero.1 h)⟩
  | n + 1, l, h => by
    rcases nl_split l with hl | ⟨a, r, ha, rfl⟩
    · exact ⟨[], l, hl, by simp, rfl⟩
    · obtain ⟨qs, e, he, hq, hr⟩ := nl_parts n r (by simp only [List.length_append, List.length_cons] at h; omega)
      refine ⟨a :: qs, e, he, ?_, by rw [hr, joinN, List.append_assoc, List.cons_append]⟩
      intro q hqm
      rcases List.mem_cons.1 hqm with rfl | hqm
      · exact ha
      · exact hq q hqm
theorem spl_parts : ∀ (qs : List (List UInt8)) (e : List UInt8), 10 ∉ e → (∀ q ∈ qs, 10 ∉ q) → spl 10 [] (joinN qs ++ e) = qs.map mkB ++ [mkB e]
  | [], e, he, _ => by
    rw [joinN, List.nil_append, spl_last 10 e [] he]
    rfl
  | a :: qs, e, he, hq => by
    rw [joinN, List.append_assoc, List.cons_append, spl_one 10 _ a [] (hq a (List.mem_cons_self ..)), spl_parts qs e he fun q h => hq q (List.mem_cons_of_mem _ h)]
    rfl
theorem lines_parts : ∀ (qs : List (List UInt8)) (e : List UInt8), 10 ∉ e → (∀ q ∈ qs, 10 ∉ q) → ∀ k, (joinN qs ++ e).length ≤ k → linesF k (mkB (joinN qs ++ e)) = qs.map (fun q => mkB (q ++ [10])) ++ (if e = [] then [] else [mkB e])
  | [], e, he, _, k, hk => by
    rw [joinN, List.nil_append, List.map_nil, List.nil_append]
    by_cases h0 : e = []
    · subst h0
      rw [if_pos rfl]
      exact linesF_nil k
    · rw [if_neg h0]
      have hp : 0 < e.length := List.length_pos_iff.2 h0
      obtain ⟨k, rfl⟩ : ∃ k', k = k' + 1 := ⟨k - 1, by simp only [joinN, List.nil_append] at hk; omega⟩
      unfold linesF
      rw [if_neg (by rw [mkB_size]; omega), mkB_list, ixB_none e he, if_neg (by omega)]
  | a :: qs, e, he, hq, k, hk => by
    have ha := hq a (List.mem_cons_self ..)
    rw [joinN, List.append_assoc, List.cons_append] at hk ⊢
    obtain ⟨k, rfl⟩ : ∃ k', k = k' + 1 := ⟨k - 1, by simp only [List.length_append, List.length_cons] at hk; omega⟩
    unfold linesF
    have hsz : (mkB (a ++ 10 :: (joinN qs ++ e))).size = a.length + 1 + (joinN qs ++ e).length := by rw [mkB_size, List.length_append, List.length_cons]; omega
    have x1 : (mkB (a ++ 10 :: (joinN qs ++ e))).extract 0 (a.length + 1) = mkB (a ++ [10]) := by
      have := ext_mid (mkB (a ++ 10 :: (joinN qs ++ e))) [] (a ++ [10]) (joinN qs ++ e) (by rw [mkB_list]; simp)
      rw [List.length_nil, Nat.zero_add, List.length_append, List.length_singleton] at this
      exact this
    have x2 : (mkB (a ++ 10 :: (joinN qs ++ e))).extract (a.length + 1) (mkB (a ++ 10 :: (joinN qs ++ e))).size = mkB (joinN qs ++ e) := by
      have := ext_mid (mkB (a ++ 10 :: (joinN qs ++ e))) (a ++ [10]) (joinN qs ++ e) [] (by rw [mkB_list]; simp)
      rw [List.length_append, List.length_singleton, ← hsz] at this
      exact this
    rw [if_neg (by omega), mkB_list, ixB_at a _ ha, if_pos (by omega), show ((a.length : Int) + 1).toNat = a.length + 1 from by omega, x1, x2,
      lines_parts qs e he (fun q h => hq q (List.mem_cons_of_mem _ h)) k (by simp only [List.length_append, List.length_cons] at hk ⊢; omega), List.map_cons, List.cons_append]
theorem ends_last (l : List UInt8) (x : UInt8) (hs : l.length ≤ 1048576) : stringslite_HasSuffix.f (mkB (l ++ [x])) ⟨#[10]⟩ = some (decide (x = 10)) := by
  unfold stringslite_HasSuffix.f
  have hsz : (mkB (l ++ [x])).size = l.length + 1 := by rw [mkB_size, List.length_append, List.length_singleton]
  have h1 : ((⟨#[10]⟩ : ByteArray).size : Int) = 1 := rfl
  rw [hsz, h1, if_pos (by omega), show wrap64 (((l.length + 1 : Nat) : Int) - 1) = (l.length : Int) from by unfold wrap64; omega, if_pos (by omega), if_pos (by omega), Int.toNat_natCast]
  have hx := ext_mid (mkB (l ++ [x])) l [x] [] (by rw [mkB_list]; simp)
  rw [List.length_singleton] at hx
  rw [hx]
  congr 1
  rw [Lib.toList_data, Lib.toList_data]
  by_cases h : x = 10
  · subst h
    rfl
  · rw [decide_eq_false h]
    simpa using h
theorem ends_nil : stringslite_HasSuffix.f (mkB []) ⟨#[10]⟩ = some false := rfl
theorem hasS (l : List UInt8) (b : Bool) (h : stringslite_HasSuffix.f (mkB l) ⟨#[10]⟩ = some b) : strings_HasSuffix.f (mkB l) ⟨#[10]⟩ = some b := by
  unfold strings_HasSuffix.f
  rw [h]
  rfl
theorem trimS (q : List UInt8) (hs : q.length ≤ 1048576) : strings_TrimSuffix.f (mkB (q ++ [10])) ⟨#[10]⟩ = some (mkB q) := by
  unfold strings_TrimSuffix.f stringslite_TrimSuffix.f
  rw [ends_last q 10 hs]
  have hsz : (mkB (q ++ [10])).size = q.length + 1 := by rw [mkB_size, List.length_append, List.length_singleton]
  have h1 : ((⟨#[10]⟩ : ByteArray).size : Int) = 1 := rfl
  rw [Option.bind_some, decide_eq_true rfl, if_pos rfl, hsz, h1, show wrap64 (((q.length + 1 : Nat) : Int) - 1) = (q.length : Int) from by unfold wrap64; omega, if_pos (by omega), if_pos (by omega), Int.toNat_natCast]
  have hx := ext_mid (mkB (q ++ [10])) [] q [10] (by rw [mkB_list]; simp)
  rw [List.length_nil, Nat.zero_add] at hx
  rw [hx]
  rfl
noncomputable def pwV (x : ByteArray) : WV := if h : x.size ≤ 1048576 then Classical.choose (ev_specPW x h) else (0, 0, 0, 0, 0, 0, false)
theorem pwV_spec (x : ByteArray) (h : x.size ≤ 1048576) : Ev (fun k => spec_ParseWarning.f k x) (pwV x) ∧ PW x (pwV x) := by
  unfold pwV
  rw [dif_pos h]
  exact Classical.choose_spec (ev_specPW x h)
theorem pwV_impl (x : ByteArray) (h : x.size ≤ 1048576) : Ev (fun k => impl_ParseWarning.f k x) (pwV x) := by
  obtain ⟨Y, hY, pY⟩ := ev_implPW x h
  rw [PW_uniq (pwV_spec x h).2 pY]
  exact hY
def wOf (X : WV) : S25 := ⟨X.1, X.2.1, X.2.2.1, X.2.2.2.1, X.2.2.2.2.1, X.2.2.2.2.2.1⟩
theorem pwV_true (x : ByteArray) (h : x.size ≤ 1048576) (ht : (pwV x).2.2.2.2.2.2 = true) : okW (wOf (pwV x)) = true ∧ wT (wOf (pwV x)) = x := by
  rcases (pwV_spec x h).2 with ⟨a, b, c, d, e, f, hX, o, hw⟩ | ⟨hX, _⟩
  · rw [hX]
    exact ⟨o, hw⟩
  · rw [hX] at ht
    cases ht
noncomputable def parV : List ByteArray → List S25 → Option (List S25)
  | [], acc => some acc
  | x :: r, acc => if (pwV x).2.2.2.2.2.2 = true then parV r (acc ++ [wOf (pwV x)]) else none
theorem ev_poL : ∀ (qs : List (List UInt8)) (acc : List S25), (∀ q ∈ qs, q.length ≤ 1048576) → acc.length + qs.length ≤ 1000000 → Ev (fun k => poL k (qs.map fun q => mkB (q ++ [10])) acc) (parV (qs.map mkB) acc)
  | [], acc, _, _ => Ev.now _
  | q :: qs, acc, hs, hl => by
    have hq := hs q (List.mem_cons_self ..)
    rw [List.length_cons] at hl
    simp only [List.map_cons, poL, parV]
    refine Ev.bind (f := fun k t => _) (Ev.eq_now fun k => trimS q hq) ?_
    refine Ev.bind (f := fun k t => _) (pwV_impl (mkB q) (by rw [mkB_size]; exact hq)) ?_
    by_cases ht : (pwV (mkB q)).2.2.2.2.2.2 = true
    · rw [if_pos ht]
      refine Ev.congr (fun k => if_pos ht) (Ev.congr (fun k => if_pos (by omega)) ?_)
      exact ev_poL qs _ (fun x hx => hs x (List.mem_cons_of_mem _ hx)) (by rw [List.length_append, List.length_singleton]; omega)
    · rw [if_neg ht]
      exact Ev.congr (fun k => if_neg ht) (Ev.now _)
theorem parV_some : ∀ (qs : List (List UInt8)) (acc out : List S25), (∀ q ∈ qs, q.length ≤ 1048576) → parV (qs.map mkB) acc = some out →
    ∃ ws, out = acc ++ ws ∧ ws.length = qs.length ∧ (∀ w ∈ ws, okW w = true) ∧ (∀ s : ByteArray, ovT ws s = s ++ mkB (joinN qs)) ∧ ∀ q ∈ qs, q.length ≤ 120
  | [], acc, out, _, h => by
    injection h with h
    subst h
    refine ⟨[], by rw [List.append_nil], rfl, by simp, fun s => ?_, by simp⟩
    rw [ovT, joinN, show mkB [] = ByteArray.empty from rfl, ByteArray.append_empty]
  | q :: qs, acc, out, hs, h => by
    rw [List.map_cons, parV] at h
    split at h
    · rename_i ht
      have hq := hs q (List.mem_cons_self ..)
      obtain ⟨o, hw⟩ := pwV_true (mkB q) (by rw [mkB_size]; exact hq) ht
      obtain ⟨ws, e, hl, ho, ht2, hb⟩ := parV_some qs _ out (fun x hx => hs x (List.mem_cons_of_mem _ hx)) h
      refine ⟨wOf (pwV (mkB q)) :: ws, by rw [e, List.append_assoc]; rfl, by rw [List.length_cons, List.length_cons, hl], ?_, fun s => ?_, ?_⟩
      · intro w hm
        rcases List.mem_cons.1 hm with rfl | hm
        · exact o
        · exact ho w hm
      · rw [ovT, ht2, hw, show nlB = mkB [10] from rfl, mkB_app, ByteArray.append_assoc, mkB_app, joinN]
        simp
      · intro x hx
        rcases List.mem_cons.1 hx with rfl | hx
        · have h1 := warnR_size _ _ _ _ _ _ o
          have h2 : wT (wOf (pwV (mkB x))) = mkB x := hw
          unfold wT at h2
          rw [h2, mkB_size] at h1
          exact h1
        · exact hb x hx
    · cases h
noncomputable def finI : Option (List S25) → List S25 × Bool
  | none => ([], false)
  | some l => if overB l = true then (l, true) else ([], false)
noncomputable def finS (s : ByteArray) : Option (List S25) → List S25 × Bool
  | none => ([], false)
  | some l => if (overR l).2 = true then (if (overR l).1.toList = s.toList then (l, true) else ([], false)) else ([], false)
theorem ev_poE (o : Option (List S25)) (ho : ∀ l, o = some l → l.length ≤ 4611686018427387904) : Ev (fun k => poE k o) (finI o) := by
  cases o with
  | none => exact Ev.now _
  | some l =>
    unfold finI
    simp only [poE]
    refine Ev.bind (f := fun k t => _) (ev_isOverview l (ho l rfl)) ?_
    by_cases h : overB l = true
    · refine Ev.congr (fun k => if_pos h) ?_
      rw [if_pos h]
      exact Ev.now _
    · refine Ev.congr (fun k => if_neg h) ?_
      rw [if_neg h]
      exact Ev.now _
theorem ev_poS (s : ByteArray) (ps : List ByteArray) (e : ByteArray) (hps : ps.length ≤ 1048576) (hsz : ∀ x ∈ ps, x.size ≤ 1048576) : ∀ (rest pre : List ByteArray) (acc : List S25), ps = pre ++ rest → acc.length ≤ pre.length →
    Ev (fun k => spec_ParseOverview.l0 k s acc (ps ++ [e]) (pre.length : Int)) (finS s (parV rest acc)) := by
  intro rest
  induction rest with
  | nil =>
    intro pre acc hp hl
    rw [List.append_nil] at hp
    subst hp
    refine Ev.unr ?_
    simp only [spec_ParseOverview.l0, parV, finS]
    have hw : wrap64 (((ps ++ [e]).length : Int) - 1) = (ps.length : Int) := by rw [List.length_append, List.length_singleton]; unfold wrap64; omega
    rw [hw]
    refine Ev.congr (fun k => if_neg (by omega)) ?_
    refine Ev.bind (f := fun k t => _) (ev_specOver acc (by omega)) ?_
    by_cases h1 : (overR acc).2 = true
    · refine Ev.congr (fun k => if_pos h1) ?_
      by_cases h2 : (overR acc).1.toList = s.toList
      · refine Ev.congr (fun k => if_pos h2) ?_
        rw [if_pos h1, if_pos h2]
        exact Ev.now _
      · refine Ev.congr (fun k => if_neg h2) ?_
        rw [if_pos h1, if_neg h2]
        exact Ev.now _
    · refine Ev.congr (fun k => if_neg h1) ?_
      rw [if_neg h1]
      exact Ev.now _
  | cons x rest ih =>
    intro pre acc hp hl
    have hlen : ps.length = pre.length + (rest.length + 1) := by rw [hp, List.length_append, List.length_cons]
    have hw : wrap64 (((ps ++ [e]).length : Int) - 1) = (ps.length : Int) := by rw [List.length_append, List.length_singleton]; unfold wrap64; omega
    have hx : rdOf ByteArray.empty (ps ++ [e]) (pre.length : Int) = x := by
      unfold rdOf
      rw [Int.toNat_natCast, hp, List.append_assoc, List.getD_eq_getElem?_getD, List.getElem?_append_right (Nat.le_refl _), Nat.sub_self]
      rfl
    have hxs := hsz x (by rw [hp]; simp)
    refine Ev.unr ?_
    simp only [spec_ParseOverview.l0, parV]
    rw [hw, hx]
    refine Ev.congr (fun k => if_pos (by omega)) (Ev.congr (fun k => if_pos (by omega)) (Ev.congr (fun k => if_pos (by rw [List.length_append, List.length_singleton]; omega)) ?_))
    refine Ev.bind (f := fun k t => _) (pwV_spec x hxs).1 ?_
    by_cases ht : (pwV x).2.2.2.2.2.2 = true
    · rw [if_pos ht]
      refine Ev.congr (fun k => if_pos ht) (Ev.congr (fun k => if_pos (by omega)) ?_)
      rw [wrapS _ (by omega)]
      have hi := ih (pre ++ [x]) (acc ++ [wOf (pwV x)]) (by rw [hp, List.append_assoc]; rfl) (by rw [List.length_append, List.length_append, List.length_singleton, List.length_singleton]; omega)
      rw [List.length_append, List.length_singleton] at hi
      exact hi
    · rw [if_neg ht]
      exact Ev.congr (fun k => if_neg ht) (Ev.now _)
def NW : List UInt8 := [78, 111, 32, 119, 97, 114, 110, 105, 110, 103, 115, 46, 10]
theorem mkB_inj {a b : List UInt8} (h : mkB a = mkB b) : a = b := by
  have := congrArg (fun x : ByteArray => x.data.toList) h
  exact this
def Reads (s : ByteArray) (Y : List S25 × Bool) : Prop := ∀ qs : List (List UInt8), (∀ q ∈ qs, 10 ∉ q) → qs ≠ [] → s.toList ≠ NW → s.data.toList = joinN qs → Y = finI (parV (qs.map mkB) [])
theorem ev_po (s : ByteArray) (hs : s.size ≤ 1048576) : ∃ Y : List S25 × Bool, Ev (fun k => spec_ParseOverview.f k s) Y ∧ Ev (fun k => impl_ParseOverview.f k s) Y ∧ Y.1.length ≤ 1048576 ∧ Reads s Y := by
  by_cases hn : s.toList = NW
  · refine ⟨([], true), ?_, ?_, Nat.zero_le _, fun _ _ _ h => absurd hn h⟩
    · unfold spec_ParseOverview.f
      simp only [Option.bind_some]
      exact Ev.congr (fun k => if_pos hn) (Ev.now _)
    · unfold impl_ParseOverview.f
      exact Ev.congr (fun k => if_pos (beq_iff_eq.2 hn)) (Ev.now _)
  · obtain ⟨qs, e, he, hq, hl⟩ := nl_parts _ s.data.toList (Nat.le_refl _)
    have hse : mkB (joinN qs ++ e) = s := by rw [← hl, mkB_eta]
    have hlen : (joinN qs ++ e).length = s.size := by rw [← hl, ba_len]
    rw [List.length_append] at hlen
    have hjl := joinN_len qs
    have hql : ∀ q ∈ qs, q.length ≤ 1048576 := by
      intro q hm
      obtain ⟨a, b, rfl⟩ := List.append_of_mem hm
      have : ∀ a : List (List UInt8), q.length ≤ (joinN (a ++ q :: b)).length := by
        intro a
        induction a with
        | nil => simp only [List.nil_append, joinN, List.length_append]; omega
        | cons y a ih => simp only [List.cons_append, joinN, List.length_append, List.length_cons]; omega
      have := this a
      omega
    have hsp : spl 10 [] s.data.toList = qs.map mkB ++ [mkB e] := by rw [hl]; exact spl_parts qs e he hq
    have hli : linesF s.size s = qs.map (fun q => mkB (q ++ [10])) ++ (if e = [] then [] else [mkB e]) := by
      have := lines_parts qs e he hq s.size (by rw [List.length_append]; omega)
      rw [hse] at this
      exact this
    have hS0 := ev_split s hs 10
    rw [hsp] at hS0
    have hpl : ∀ x ∈ qs.map mkB, x.size ≤ 1048576 := by
      intro x hx
      obtain ⟨q, hm, rfl⟩ := List.mem_map.1 hx
      rw [mkB_size]
      exact hql q hm
    have hlp : (qs.map mkB ++ [mkB e]).length = qs.length + 1 := by rw [List.length_append, List.length_map, List.length_singleton]
    have huq : ∀ qs' : List (List UInt8), (∀ q ∈ qs', 10 ∉ q) → s.data.toList = joinN qs' → e = [] ∧ qs'.map mkB = qs.map mkB := by
      intro qs' hq' hl'
      have h1 : spl 10 [] s.data.toList = qs'.map mkB ++ [mkB []] := by
        have := spl_parts qs' [] (by simp) hq'
        rw [List.append_nil, ← hl'] at this
        exact this
      rw [hsp] at h1
      have h2 := List.append_inj_right' h1 rfl
      injection h2 with h3 _
      exact ⟨mkB_inj h3, (List.append_inj_left' h1 rfl).symm⟩
    have hspec : Ev (fun k => spec_ParseOverview.f k s) (if s.size > 2000 ∨ qs = [] then ([], false) else finS s (parV (qs.map mkB) [])) := by
      unfold spec_ParseOverview.f
      simp only [Option.bind_some]
      refine Ev.congr (fun k => if_neg hn) ?_
      refine Ev.bind (f := fun k t => _) hS0 ?_
      by_cases h2 : s.size > 2000
      · rw [if_pos (.inl h2)]
        refine Ev.congr (fun k => if_pos (by omega)) (Ev.unr ?_)
        simp only [spec_ParseOverview.j0, if_true]
        exact Ev.now _
      · refine Ev.congr (fun k => if_neg (by omega)) (Ev.unr ?_)
        simp only [spec_ParseOverview.j0]
        by_cases h3 : qs = []
        · rw [if_pos (.inr h3)]
          exact Ev.congr (fun k => if_pos (decide_eq_true (by rw [hlp, h3]; simp))) (Ev.now _)
        · rw [if_neg (by simp [h2, h3])]
          have hp := List.length_pos_iff.2 h3
          refine Ev.congr (fun k => if_neg (by rw [decide_eq_true_iff, hlp]; omega)) ?_
          exact ev_poS s (qs.map mkB) (mkB e) (by rw [List.length_map]; omega) hpl (qs.map mkB) [] [] rfl (Nat.le_refl _)
    have hb : (s.toList == [78, 111, 32, 119, 97, 114, 110, 105, 110, 103, 115, 46, 10]) = false := beq_eq_false_iff_ne.2 hn
    by_cases he0 : e = []
    · subst he0
      rw [if_pos rfl, List.append_nil] at hli
      rw [List.append_nil] at hse
      simp only [List.length_nil, Nat.add_zero] at hlen
      by_cases h3 : qs = []
      · subst h3
        refine ⟨([], false), by simpa using hspec, ?_, Nat.zero_le _, fun qs' hq' hne _ hl' => absurd (List.map_eq_nil_iff.1 (huq qs' hq' hl').2) hne⟩
        unfold impl_ParseOverview.f
        refine Ev.congr (fun k => if_neg (by rw [hb]; simp)) ?_
        have h0 : s.size = 0 := by simpa [joinN] using hlen.symm
        refine Ev.congr (fun k => if_pos (by omega)) ?_
        refine Ev.bind (f := fun k t => _) (Ev.eq_now fun k => show strings_HasSuffix.f s ⟨#[10]⟩ = some false from by rw [← hse]; exact hasS [] false ends_nil) ?_
        exact Ev.congr (fun k => if_neg (by simp)) (Ev.now _)
      · have hends : strings_HasSuffix.f s ⟨#[10]⟩ = some true := by
          obtain ⟨qs', q, hqq⟩ : ∃ qs' q, qs = qs' ++ [q] := ⟨qs.dropLast, qs.getLast h3, (List.dropLast_concat_getLast h3).symm⟩
          rw [← hse, hqq, joinN_snoc, ← List.append_assoc]
          refine hasS _ true ?_
          have := ends_last (joinN qs' ++ q) 10 (by
            have h4 : (joinN qs).length = (joinN qs' ++ q).length + 1 := by rw [hqq, joinN_snoc]; simp only [List.length_append, List.length_singleton]; omega
            omega)
          simpa using this
        have himpl : s.size ≤ 4000 → Ev (fun k => impl_ParseOverview.f k s) (finI (parV (qs.map mkB) [])) := by
          intro h4
          unfold impl_ParseOverview.f
          refine Ev.congr (fun k => if_neg (by rw [hb]; simp)) (Ev.congr (fun k => if_pos h4) ?_)
          refine Ev.bind (f := fun k t => _) (Ev.eq_now fun k => hends) (Ev.congr (fun k => if_pos rfl) ?_)
          rw [hli]
          refine Ev.bind (f := fun k t => _) (ev_poL qs [] hql (by simp only [List.length_nil]; omega)) ?_
          refine ev_poE _ fun l hl => ?_
          obtain ⟨ws, e1, e2, _⟩ := parV_some qs [] l hql hl
          rw [List.nil_append] at e1
          rw [e1, e2]
          omega
        cases hp : parV (qs.map mkB) [] with
        | none =>
          rw [hp] at hspec himpl
          refine ⟨([], false), by simpa [finS] using hspec, ?_, Nat.zero_le _, fun qs' hq' hne _ hl' => by rw [(huq qs' hq' hl').2, hp]; rfl⟩
          by_cases h4 : s.size ≤ 4000
          · exact himpl h4
          · unfold impl_ParseOverview.f
            exact Ev.congr (fun k => if_neg (by rw [hb]; simp)) (Ev.congr (fun k => if_neg h4) (Ev.now _))
        | some out =>
          rw [hp] at hspec himpl
          obtain ⟨ws, e1, e2, e3, e4, e5⟩ := parV_some qs [] out hql hp
          rw [List.nil_append] at e1
          subst e1
          have hpos := List.length_pos_iff.2 h3
          have hov : (overR out).1.toList = s.toList ∨ overB out = false := by
            cases ho : overB out with
            | false => exact .inr rfl
            | true =>
              refine .inl ?_
              unfold overR
              rw [if_pos ho, if_neg (by omega), e4, hse]
              show (ByteArray.empty ++ s).toList = s.toList
              rw [ByteArray.empty_append]
          have hfs : finS s (some out) = finI (some out) := by
            simp only [finS, finI]
            cases ho : overB out with
            | false =>
              rw [show (overR out).2 = false from by unfold overR; rw [if_neg (by rw [ho]; simp)]]
              rfl
            | true =>
              rw [show (overR out).2 = true from by unfold overR; rw [if_pos ho, if_neg (by omega)], if_pos rfl, if_pos rfl]
              rcases hov with h | h
              · rw [if_pos h]
              · rw [ho] at h; cases h
          have hbig : s.size > 2000 → finI (some out) = ([], false) := by
            intro h2
            simp only [finI]
            cases ho : overB out with
            | false => rfl
            | true =>
              have h12 := (over_ok ho).1
              have := joinN_le 120 qs e5
              have : (120 + 1) * qs.length ≤ 1452 := by omega
              omega
          rw [hfs] at hspec
          refine ⟨finI (some out), ?_, ?_, ?_, fun qs' hq' hne _ hl' => by rw [(huq qs' hq' hl').2, hp]⟩
          · by_cases h2 : s.size > 2000
            · rw [if_pos (.inl h2)] at hspec
              rw [hbig h2]
              exact hspec
            · rw [if_neg (by simp [h2, h3])] at hspec
              exact hspec
          · by_cases h4 : s.size ≤ 4000
            · exact himpl h4
            · rw [hbig (by omega)]
              unfold impl_ParseOverview.f
              exact Ev.congr (fun k => if_neg (by rw [hb]; simp)) (Ev.congr (fun k => if_neg h4) (Ev.now _))
          · simp only [finI]
            split
            · show out.length ≤ 1048576
              omega
            · exact Nat.zero_le _
    ·
      have hends : strings_HasSuffix.f s ⟨#[10]⟩ = some false := by
        obtain ⟨e', x, hex⟩ : ∃ e' x, e = e' ++ [x] := ⟨e.dropLast, e.getLast he0, (List.dropLast_concat_getLast he0).symm⟩
        have hx : x ≠ 10 := fun h => he (by rw [hex, h]; simp)
        rw [← hse, hex, ← List.append_assoc]
        refine hasS _ false ?_
        have := ends_last (joinN qs ++ e') x (by rw [List.length_append]; rw [hex, List.length_append] at hlen; omega)
        rw [decide_eq_false hx] at this
        exact this
      have himpl : Ev (fun k => impl_ParseOverview.f k s) (([] : List S25), false) := by
        unfold impl_ParseOverview.f
        refine Ev.congr (fun k => if_neg (by rw [hb]; simp)) ?_
        by_cases h4 : s.size ≤ 4000
        · refine Ev.congr (fun k => if_pos h4) ?_
          exact Ev.bind (f := fun k t => _) (Ev.eq_now fun k => hends) (Ev.congr (fun k => if_neg (by simp)) (Ev.now _))
        · exact Ev.congr (fun k => if_neg h4) (Ev.now _)
      refine ⟨([], false), ?_, himpl, Nat.zero_le _, fun qs' hq' hne _ hl' => absurd (huq qs' hq' hl').1 he0⟩
      split at hspec
      · exact hspec
      · rename_i hc
        cases hp : parV (qs.map mkB) [] with
        | none =>
          rw [hp] at hspec
          exact hspec
        | some out =>
          rw [hp] at hspec
          obtain ⟨ws, e1, e2, e3, e4, e5⟩ := parV_some qs [] out hql hp
          rw [List.nil_append] at e1
          subst e1
          have h3 : qs ≠ [] := fun h => hc (.inr h)
          have hpos := List.length_pos_iff.2 h3
          have : finS s (some out) = ([], false) := by
            simp only [finS]
            cases ho : overB out with
            | false =>
              rw [show (overR out).2 = false from by unfold overR; rw [if_neg (by rw [ho]; simp)]]
              rfl
            | true =>
              rw [show overR out = (ovT out (⟨#[]⟩ : ByteArray), true) from by unfold overR; rw [if_pos ho, if_neg (by omega)], if_pos rfl, if_neg]
              rw [e4, ← hse]
              intro h
              rw [Lib.toList_data, Lib.toList_data, ba_app] at h
              have h5 := congrArg List.length h
              rw [mkB_list, mkB_list, List.length_append, List.length_append] at h5
              have h6 : 0 < e.length := List.length_pos_iff.2 he0
              have h7 : (⟨#[]⟩ : ByteArray).data.toList.length = 0 := rfl
              omega
          rw [this] at hspec
          exact hspec
theorem wordL_nl (c : Int) (h1 : 1 ≤ c) (h2 : c ≤ 3) : (10 : UInt8) ∉ (wordS levelT c).data.toList := by
  have : c = 1 ∨ c = 2 ∨ c = 3 := by omega
  rcases this with rfl | rfl | rfl <;> decide +kernel
theorem wordO_nl (c : Int) (h1 : 1 ≤ c) (h2 : c ≤ 5) : (10 : UInt8) ∉ (wordS topicT c).data.toList := by
  have : c = 1 ∨ c = 2 ∨ c = 3 ∨ c = 4 ∨ c = 5 := by omega
  rcases this with rfl | rfl | rfl | rfl | rfl <;> decide +kernel
theorem wT_nl (x : S25) (o : okW x = true) : (10 : UInt8) ∉ (wT x).data.toList := by
  have hb := of_decide_eq_true o
  unfold wT
  rw [warnR_parts]
  have l0 : (10 : UInt8) ∉ W0.data.toList := by decide +kernel
  have l1 : (10 : UInt8) ∉ W1.data.toList := by decide +kernel
  have l2 : (10 : UInt8) ∉ W2.data.toList := by decide +kernel
  have l3 : (10 : UInt8) ∉ W3.data.toList := by decide +kernel
  have l4 : (10 : UInt8) ∉ W4.data.toList := by decide +kernel
  have l5 : (10 : UInt8) ∉ W5.data.toList := by decide +kernel
  have l6 : (10 : UInt8) ∉ (⟨#[]⟩ : ByteArray).data.toList := by decide +kernel
  have d : ∀ n : Nat, (10 : UInt8) ∉ (decN n).data.toList := fun n => decN_not n 10 (.inl (by decide))
  have hh : ∀ n : Nat, n ≤ 240 → (10 : UInt8) ∉ (hourS n).data.toList := fun n hn => hourS_not n hn 10 (.inl (by decide)) (by decide)
  simp only [ba_app, List.mem_append, not_or]
  exact ⟨wordL_nl _ (by omega) (by omega), l0, wordO_nl _ (by omega) (by omega), l1, d _, l2, hh _ (by omega), l3, hh _ (by omega), l4, d _, l5, l6⟩
theorem wT_big (x : S25) : 43 ≤ (wT x).size := by
  unfold wT warnR catS
  simp only [ba_size_app, szW0, szW1, szW2, szW3, szW4, szW5]
  omega
theorem pw_of (x : S25) (o : okW x = true) : pwV (wT x) = (x.f0, x.f1, x.f2, x.f3, x.f4, x.f5, true) := by
  have hz := wT_size o
  exact PW_uniq (pwV_spec (wT x) (by omega)).2 (.inl ⟨_, _, _, _, _, _, rfl, o, rfl⟩)
theorem parV_all : ∀ (L acc : List S25), (∀ w ∈ L, okW w = true) → parV (L.map wT) acc = some (acc ++ L)
  | [], acc, _ => by rw [List.append_nil]; rfl
  | x :: L, acc, h => by
    rw [List.map_cons, parV, pw_of x (h x (List.mem_cons_self ..)), if_pos rfl, parV_all L _ fun w hw => h w (List.mem_cons_of_mem _ hw), List.append_assoc]
    rfl
theorem ovT_join : ∀ (L : List S25) (s : ByteArray), (ovT L s).data.toList = s.data.toList ++ joinN (L.map fun w => (wT w).data.toList)
  | [], s => by rw [List.map_nil, joinN, List.append_nil]; rfl
  | x :: L, s => by
    rw [ovT, ovT_join L, ba_app, ba_app, List.map_cons, joinN, List.append_assoc, List.append_assoc]
    rfl
theorem over_mem {L : List S25} (h : overB L = true) : ∀ w ∈ L, okW w = true := by
  intro w hw
  obtain ⟨i, hi, rfl⟩ := List.mem_iff_getElem.1 hw
  have := (over_ok h).2 i hi
  rw [Gen.getD_lt L z25 i hi] at this
  exact this
theorem reads_back (L : List S25) (h : overB L = true) (Y : List S25 × Bool) (hY : Reads (overR L).1 Y) (h0 : (overR L).1.toList = NW → Y = ([], true)) : Y = (L, true) := by
  by_cases hz : L.length = 0
  · have e : L = [] := List.length_eq_zero_iff.1 hz
    subst e
    refine h0 ?_
    unfold overR
    rw [if_pos h, if_pos hz, Lib.toList_data]
    rfl
  · have e1 : (overR L).1 = ovT L ⟨#[]⟩ := by
      unfold overR
      rw [if_pos h, if_neg hz]
    rw [e1] at hY
    have hne : L ≠ [] := fun e => hz (by rw [e]; rfl)
    have hok := over_mem h
    have hj := ovT_join L ⟨#[]⟩
    rw [show (⟨#[]⟩ : ByteArray).data.toList = [] from rfl, List.nil_append] at hj
    have hm : (L.map fun w => (wT w).data.toList).map mkB = L.map wT := by
      rw [List.map_map]
      exact List.map_congr_left fun w _ => mkB_eta (wT w)
    have key := hY (L.map fun w => (wT w).data.toList) (by
      intro q hq
      obtain ⟨w, hw, rfl⟩ := List.mem_map.1 hq
      exact wT_nl w (hok w hw)) (by simpa using hne) (by
      intro hn
      rw [Lib.toList_data, hj] at hn
      obtain ⟨x, L', rfl⟩ := List.exists_cons_of_ne_nil hne
      have h1 := congrArg List.length hn
      have h2 := wT_big x
      rw [List.map_cons, joinN, List.length_append, ba_len] at h1
      have h3 : NW.length = 13 := rfl
      omega) hj
    rw [hm, parV_all L [] hok] at key
    rw [key]
    simp only [finI, List.nil_append]
    rw [if_pos h]
end Go.Proofs.YtleadjbfcenofaaGreatDoor.Q.Ov
namespace Go.Proofs.YtleadjbfcenofaaGreatDoor.Q
open Go.RowKit Go.Proofs.YtleadjbfcenofaaGreatDoorW.PrintWords Go.Proofs.YtleadjbfcenofaaGreatDoor.Gen
set_option linter.unusedVariables false
set_option linter.unusedSimpArgs false
def Cod (l : List Int) : Prop := l.length ≤ 1000000 ∧ ∀ x ∈ l, 0 ≤ x ∧ x ≤ 255
theorem and_u64 (X : Int) : 0 ≤ Go.bits .and .u64 ((IntKind.u64.wrap X) / 1099511627776) 255 ∧ Go.bits .and .u64 ((IntKind.u64.wrap X) / 1099511627776) 255 ≤ 255 := by
  have hw : IntKind.u64.wrap X = X % 18446744073709551616 := by simp [IntKind.wrap, IntKind.bits, IntKind.signed]
  have h1 : 0 ≤ X % 18446744073709551616 := by omega
  have h2 : X % 18446744073709551616 < 18446744073709551616 := by omega
  rw [hw]
  generalize X % 18446744073709551616 = Y at h1 h2
  have key := bits_mask .u64 32 (by decide) (fun n h0 h1 => by
    have e : IntKind.u64.wrap n = n % 18446744073709551616 := by simp [IntKind.wrap, IntKind.bits, IntKind.signed]
    rw [e]; omega) 8 (by decide) (Y / 1099511627776) (by omega) (by omega)
  rw [show (2 : Int) ^ 8 - 1 = 255 from rfl] at key
  rw [key]
  omega
theorem next_ok {l : List Int} (h : Cod l) (s q : Int) (h0 : 0 ≤ s) (h1 : s ≤ 1000000000) : ∃ b q', spec_l1Cur_next.f l s q = some (b, s + 1, q') ∧ 0 ≤ b ∧ b ≤ 255 := by
  unfold spec_l1Cur_next.f
  rw [show wrap64 (s + 1) = s + 1 from by unfold wrap64; omega]
  by_cases c : s < (l.length : Int)
  · rw [if_pos c, if_pos h0, if_pos (by omega)]
    have hb : 0 ≤ rd l s ∧ rd l s ≤ 255 := by
      show 0 ≤ l.getD s.toNat 0 ∧ l.getD s.toNat 0 ≤ 255
      rw [getD_lt l 0 s.toNat (by omega)]
      exact h.2 _ (List.getElem_mem _)
    exact ⟨_, _, rfl, by unfold wrap64; omega, by unfold wrap64; omega⟩
  · rw [if_neg c, if_neg (by omega)]
    refine ⟨_, _, rfl, ?_⟩
    have := and_u64 ((IntKind.u64.wrap ((IntKind.u64.wrap (q * 6364136223846793005)) + 0)) + 889889)
    generalize Go.bits .and .u64 ((IntKind.u64.wrap ((IntKind.u64.wrap ((IntKind.u64.wrap (q * 6364136223846793005)) + 0)) + 889889)) / 1099511627776) 255 = z at this ⊢
    unfold wrap64; omega
theorem pick_ok {l : List Int} (h : Cod l) (s q : Int) (h0 : 0 ≤ s) (h1 : s ≤ 999999998) (n : Int) : ∃ x s' q', spec_l1Cur_pick.f l s q n = some (x, s', q') ∧ 0 ≤ x ∧ (x < n ∨ x = 0) ∧ s ≤ s' ∧ s' ≤ s + 2 := by
  unfold spec_l1Cur_pick.f
  by_cases c : n ≤ 1
  · rw [if_pos c]
    exact ⟨0, s, q, rfl, by omega, .inr rfl, by omega, by omega⟩
  · rw [if_neg c]
    obtain ⟨b, q1, e1, b0, b1⟩ := next_ok h s q h0 (by omega)
    rw [e1, Option.bind_some]
    dsimp only
    by_cases c2 : n > 200
    · rw [if_pos c2]
      obtain ⟨d, q2, e2, d0, d1⟩ := next_ok h (s + 1) q1 (by omega) (by omega)
      rw [e2, Option.bind_some]
      dsimp only
      rw [if_neg (by omega), show wrap64 (wrap64 (b * 256) + d) = b * 256 + d from by unfold wrap64; omega]
      exact ⟨_, _, _, rfl, Int.tmod_nonneg _ (by omega), .inl (Int.tmod_lt_of_pos _ (by omega)), by omega, by omega⟩
    · rw [if_neg c2, if_neg (by omega)]
      exact ⟨_, _, _, rfl, Int.tmod_nonneg _ b0, .inl (Int.tmod_lt_of_pos _ (by omega)), by omega, by omega⟩
theorem among_ok {l : List Int} (h : Cod l) (s q : Int) (h0 : 0 ≤ s) (h1 : s ≤ 999999998) (L : List Int) (hL : 0 < L.length) : ∃ x s' q', spec_l1Cur_among.f l s q L = some (x, s', q') ∧ x ∈ L ∧ s ≤ s' ∧ s' ≤ s + 2 := by
  unfold spec_l1Cur_among.f
  obtain ⟨x, s1, q1, e1, x0, x1, s0, s2⟩ := pick_ok h s q h0 h1 (L.length : Int)
  rw [e1, Option.bind_some]
  dsimp only
  rw [if_pos x0, if_pos (by omega)]
  refine ⟨_, _, _, rfl, ?_, s0, s2⟩
  show L.getD x.toNat 0 ∈ L
  rw [getD_lt L 0 x.toNat (by omega)]
  exact List.getElem_mem _
theorem one_ok {l : List Int} (h : Cod l) (s q : Int) (h0 : 0 ≤ s) (h1 : s ≤ 999999998) (n : Int) : ∃ b s' q', spec_l1Cur_one.f l s q n = some (b, s', q') ∧ s ≤ s' ∧ s' ≤ s + 2 := by
  unfold spec_l1Cur_one.f
  obtain ⟨x, s1, q1, e1, _, _, s0, s2⟩ := pick_ok h s q h0 h1 n
  rw [e1, Option.bind_some]
  exact ⟨_, _, _, rfl, s0, s2⟩
end Go.Proofs.YtleadjbfcenofaaGreatDoor.Q
namespace Go.Proofs.YtleadjbfcenofaaGreatDoor.Q
open Go.RowKit Go.Proofs.YtleadjbfcenofaaGreatDoorW.PrintWords Go.Proofs.YtleadjbfcenofaaGreatDoor.Gen Go.Proofs.YtleadjbfcenofaaGreatDoor.Tells
set_option linter.unusedVariables false
set_option linter.unusedSimpArgs false
def okW (x : S25) : Bool := decide (1 ≤ x.f0 ∧ x.f0 ≤ 999 ∧ 1 ≤ x.f1 ∧ x.f1 ≤ 5 ∧ 1 ≤ x.f2 ∧ x.f2 ≤ 3 ∧ 1 ≤ x.f3 ∧ x.f3 ≤ 9 ∧ 0 ≤ x.f4 ∧ x.f4 < x.f5 ∧ x.f5 ≤ 240)
theorem l1In_f (a b c : Int) : spec_l1In.f a b c = some (decide (b ≤ a ∧ a ≤ c)) := by
  unfold spec_l1In.f
  by_cases h1 : a ≥ b <;> by_cases h2 : a ≤ c <;> simp [h1, h2] <;> omega
theorem l14Good_f (x : S25) : spec_l14Good.f x.f0 x.f1 x.f2 x.f3 x.f4 x.f5 = some (okW x) := by
  unfold spec_l14Good.f okW
  simp only [l1In_f, Option.bind_some, decide_eq_true_eq]
  repeat' split
  all_goals (congr 1; first | (apply decide_eq_decide.2; unfold wrap64; omega) | (symm; apply decide_eq_false; omega))
def meetB (a b : S25) : Bool := decide (a.f1 = b.f1) && (decide (a.f3 = b.f3) && (decide (a.f4 < b.f5) && decide (b.f4 < a.f5)))
theorem l14Meet_f (a b : S25) : spec_l14Meet.f a.f0 a.f1 a.f2 a.f3 a.f4 a.f5 b.f0 b.f1 b.f2 b.f3 b.f4 b.f5 = some (meetB a b) := by
  unfold spec_l14Meet.f meetB
  by_cases h1 : a.f1 = b.f1 <;> by_cases h2 : a.f3 = b.f3 <;> by_cases h3 : a.f4 < b.f5 <;> simp [h1, h2, h3]
theorem meetB_comm (a b : S25) : meetB a b = meetB b a := by
  unfold meetB
  rw [Bool.eq_iff_iff]
  simp only [Bool.and_eq_true, decide_eq_true_eq]
  constructor <;> (rintro ⟨h1, h2, h3, h4⟩; exact ⟨h1.symm, h2.symm, h4, h3⟩)
theorem rdW (l : List S25) (i : Nat) : rd_T25 l (i : Int) = l.getD i z25 := rfl
def stepB (l : List S25) (i : Nat) : Bool := okW (l.getD i z25) && (i == 0 || decide ((l.getD (i - 1) z25).f0 < (l.getD i z25).f0))
def clearB (l : List S25) (i : Nat) : Bool := !((l.take i).any fun o => meetB (l.getD i z25) o)
def consB (l : List S25) : Bool := decide (l.length ≤ 12) && decide (∀ j, j < l.length → (stepB l j && clearB l j) = true)
theorem any_take (l : List S25) (q : S25 → Bool) (i : Nat) (hi : i ≤ l.length) : (l.take i).any q = decide (∃ j, j < i ∧ q (l.getD j z25) = true) := by
  rw [Bool.eq_iff_iff, List.any_eq_true, decide_eq_true_eq]
  constructor
  · rintro ⟨x, hx, hq⟩
    obtain ⟨j, hj, rfl⟩ := List.getElem_of_mem hx
    have hj' : j < i := by rw [List.length_take] at hj; omega
    refine ⟨j, hj', ?_⟩
    rw [getD_lt l _ j (by omega)]
    simpa using hq
  · rintro ⟨j, hj, hq⟩
    refine ⟨l.getD j z25, ?_, hq⟩
    rw [getD_lt l _ j (by omega)]
    exact List.mem_take_iff_getElem.2 ⟨j, by omega, rfl⟩
theorem ev_l14_l1 (l : List S25) (hl : l.length ≤ 12) (i : Nat) (hi : i < l.length) (r : Bool) (hr : Ev (fun k => spec_l14List.l0 k l ((i + 1 : Nat) : Int)) r) :
    Ev (fun k => spec_l14List.l1 k l (i : Int) 0) (if clearB l i = true then r else false) := by
  have key := ev_run (fun k (_ : Unit) j => spec_l14List.l1 k l (i : Int) j) i (fun j _ => if (!(meetB (l.getD j z25) (l.getD i z25))) = true then .inr () else .inl false) (fun _ => r) (fun _ _ => True)
    (by
      intro j s b hj _ h
      have hm : meetB (l.getD j z25) (l.getD i z25) = true := by
        cases hm : meetB (l.getD j z25) (l.getD i z25)
        · rw [hm] at h; simp at h
        · rfl
      have hb : b = false := by rw [hm] at h; simp at h; exact h
      subst hb
      refine Ev.eq_now fun k => ?_
      simp only [spec_l14List.l1]
      rw [if_pos (by omega), if_pos (by omega), if_pos (by omega), if_pos (by omega), if_pos (by omega), rdW, rdW, l14Meet_f, hm]
      rfl)
    (by
      intro j s s' r' hj _ h
      have hm : meetB (l.getD j z25) (l.getD i z25) = false := by
        cases hm : meetB (l.getD j z25) (l.getD i z25)
        · rfl
        · rw [hm] at h; simp at h
      refine ⟨trivial, fun he => ?_⟩
      refine Ev.congr (fun k => ?_) he
      simp only [spec_l14List.l1]
      rw [if_pos (by omega), if_pos (by omega), if_pos (by omega), if_pos (by omega), if_pos (by omega), rdW, rdW, l14Meet_f, hm, wrapS j (by omega)]
      rfl)
    (by
      intro s _
      refine Ev.congr (fun k => ?_) hr
      simp only [spec_l14List.l1]
      rw [if_neg (by omega), wrapS i (by omega)])
    i 0 () (by omega) trivial
  rw [run_all (fun j => !(meetB (l.getD j z25) (l.getD i z25))) false r i i 0 (by omega)] at key
  have e : (∀ j, j < i → 0 ≤ j → (!(meetB (l.getD j z25) (l.getD i z25))) = true) ↔ clearB l i = true := by
    unfold clearB
    rw [any_take l _ i (by omega)]
    simp only [Bool.not_eq_true', decide_eq_false_iff_not, not_exists, not_and, Bool.not_eq_true]
    constructor
    · intro h j hj; rw [meetB_comm]; exact h j hj (Nat.zero_le _)
    · intro h j hj _; rw [meetB_comm]; exact h j hj
  by_cases hc : clearB l i = true
  · rw [if_pos hc]; rw [if_pos (e.2 hc)] at key; exact key
  · rw [if_neg hc]; rw [if_neg (fun h => hc (e.1 h))] at key; exact key
theorem l14_round (l : List S25) (hl : l.length ≤ 12) (i : Nat) (hi : i < l.length) (k : Nat) : spec_l14List.l0 (k + 1) l (i : Int) = spec_l14List.j1 k l (i : Int) (!stepB l i) := by
  simp only [spec_l14List.l0]
  rw [if_pos (by omega), if_pos (by omega), rdW, l14Good_f]
  simp only [Option.bind_some]
  unfold stepB
  cases hg : okW (l.getD i z25) with
  | false => rfl
  | true =>
    rw [if_pos rfl]
    by_cases h0 : i = 0
    · subst h0
      rw [if_neg (by omega)]
      rfl
    · rw [if_pos (by omega), wrapP i (by omega) (by omega), if_pos (by omega), if_pos (by omega), rdW]
      congr 1
      rw [show (i == 0) = false from by simpa using h0]
      by_cases hlt : (l.getD (i - 1) z25).f0 < (l.getD i z25).f0
      · rw [decide_eq_false (by omega), decide_eq_true hlt]; rfl
      · rw [decide_eq_true (by omega), decide_eq_false hlt]; rfl
theorem ev_l14List (l : List S25) : Ev (fun k => spec_l14List.f k l) (consB l) := by
  unfold spec_l14List.f consB
  by_cases hl : l.length ≤ 12
  · refine Ev.congr (f := fun k => spec_l14List.l0 k l ((0 : Nat) : Int)) (fun k => by rw [if_neg (by omega)]; rfl) ?_
    have key := ev_run (fun k (_ : Unit) i => spec_l14List.l0 k l i) l.length (fun j _ => if (stepB l j && clearB l j) = true then .inr () else .inl false) (fun _ => true) (fun _ _ => True)
      (by
        intro i s b hi _ h
        have hm : (stepB l i && clearB l i) = false := by
          cases hm : (stepB l i && clearB l i)
          · rfl
          · rw [hm] at h; simp at h
        have hb : b = false := by rw [hm] at h; simp at h; exact h
        subst hb
        refine Ev.congr (l14_round l hl i hi) (Ev.unr ?_)
        cases hs : stepB l i with
        | false => exact Ev.eq_now fun k => by simp only [spec_l14List.j1]; rfl
        | true =>
          refine Ev.congr (f := fun k => spec_l14List.l1 k l (i : Int) 0) (fun k => by simp only [spec_l14List.j1]; rfl) ?_
          have hc : clearB l i = false := by rw [hs] at hm; simpa using hm
          obtain ⟨K, hK⟩ : ∃ K : Nat, True := ⟨0, trivial⟩
          have key := ev_run (fun k (_ : Unit) j => spec_l14List.l1 k l (i : Int) j) i (fun j _ => if (!(meetB (l.getD j z25) (l.getD i z25))) = true then .inr () else .inl false) (fun _ => false) (fun j _ => ∃ q, j ≤ q ∧ q < i ∧ meetB (l.getD q z25) (l.getD i z25) = true)
            (by
              intro j s b hj _ h
              have hm : meetB (l.getD j z25) (l.getD i z25) = true := by
                cases hm : meetB (l.getD j z25) (l.getD i z25)
                · rw [hm] at h; simp at h
                · rfl
              have hb : b = false := by rw [hm] at h; simp at h; exact h
              subst hb
              refine Ev.eq_now fun k => ?_
              simp only [spec_l14List.l1]
              rw [if_pos (by omega), if_pos (by omega), if_pos (by omega), if_pos (by omega), if_pos (by omega), rdW, rdW, l14Meet_f, hm]
              rfl)
            (by
              intro j s s' r' hj hI h
              have hm : meetB (l.getD j z25) (l.getD i z25) = false := by
                cases hm : meetB (l.getD j z25) (l.getD i z25)
                · rfl
                · rw [hm] at h; simp at h
              obtain ⟨q, h1, h2, h3⟩ := hI
              refine ⟨⟨q, ?_, h2, h3⟩, fun he => ?_⟩
              · have : q ≠ j := by rintro rfl; rw [hm] at h3; cases h3
                omega
              refine Ev.congr (fun k => ?_) he
              simp only [spec_l14List.l1]
              rw [if_pos (by omega), if_pos (by omega), if_pos (by omega), if_pos (by omega), if_pos (by omega), rdW, rdW, l14Meet_f, hm, wrapS j (by omega)]
              rfl)
            (by
              rintro s ⟨q, h1, h2, _⟩
              omega)
            i 0 () (by omega) (by
              unfold clearB at hc
              rw [any_take l _ i (by omega)] at hc
              simp only [Bool.not_eq_false', decide_eq_true_eq] at hc
              obtain ⟨q, h1, h2⟩ := hc
              exact ⟨q, Nat.zero_le _, h1, by rw [meetB_comm]; exact h2⟩)
          have hv : run (fun j (_ : Unit) => if (!(meetB (l.getD j z25) (l.getD i z25))) = true then .inr () else .inl false) (fun _ => false) i 0 () = false :=
            run_inv (n := i) (fun _ _ => True) (fun b => b = false) (fun j s b _ _ h => by
              split at h
              · cases h
              · exact (Sum.inl.inj h).symm) (fun _ _ _ _ _ _ => trivial) (fun _ _ => rfl) i 0 () (by omega) trivial
          rw [hv] at key
          exact key)
      (by
        intro i s s' r hi _ h
        have hm : stepB l i = true ∧ clearB l i = true := by
          cases h1 : stepB l i <;> cases h2 : clearB l i <;> simp [h1, h2] at h <;> simp
        refine ⟨trivial, fun he => Ev.congr (l14_round l hl i hi) (Ev.unr ?_)⟩
        rw [hm.1]
        refine Ev.congr (f := fun k => spec_l14List.l1 k l (i : Int) 0) (fun k => by simp only [spec_l14List.j1]; rfl) ?_
        have key := ev_l14_l1 l hl i hi r he
        rw [if_pos hm.2] at key
        exact key)
      (by
        intro s _
        refine Ev.eq_now fun k => ?_
        simp only [spec_l14List.l0]
        rw [if_neg (by omega)])
      l.length 0 () (by omega) trivial
    rw [run_all (fun j => stepB l j && clearB l j) false true l.length l.length 0 (by omega)] at key
    rw [decide_eq_true hl, Bool.true_and]
    by_cases hp : ∀ j, j < l.length → (stepB l j && clearB l j) = true
    · rw [decide_eq_true hp]
      rw [if_pos (fun j hj _ => hp j hj)] at key
      exact key
    · rw [decide_eq_false hp]
      rw [if_neg (fun h => hp (fun j hj => h j hj (Nat.zero_le _)))] at key
      exact key
  · refine Ev.eq_now fun k => ?_
    rw [if_pos (by omega), decide_eq_false hl]
    rfl
end Go.Proofs.YtleadjbfcenofaaGreatDoor.Q
