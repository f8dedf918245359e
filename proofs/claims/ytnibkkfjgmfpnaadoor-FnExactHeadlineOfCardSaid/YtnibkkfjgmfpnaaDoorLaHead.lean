/- The headline of a list of warnings: what both programs make of it. -/
import Derived.Test.YtnibkkfjgmfpnaaDoorQf7
import Derived.Test.YtnibkkfjgmfpnaaDoorQf9
import Derived.Test.YtnibkkfjgmfpnaaDoorLaOver
namespace Go.Proofs.YtnibkkfjgmfpnaaDoor.Q
open Go.RowKit Go.Proofs.YtnibkkfjgmfpnaaDoorW.PrintWords Go.Proofs.YtnibkkfjgmfpnaaDoor.Gen Go.Proofs.YtnibkkfjgmfpnaaDoor.Tells
set_option linter.unusedVariables false
set_option linter.unusedSimpArgs false

theorem tlL (b : ByteArray) : ∀ (n i : Nat) (r : List UInt8), b.size - i = n → ByteArray.toList.loop b i r = r.reverse ++ b.data.toList.drop i := by
  intro n
  induction n with
  | zero =>
    intro i r h
    unfold ByteArray.toList.loop
    rw [if_neg (by omega), List.drop_eq_nil_of_le (by rw [Array.length_toList]; exact (by omega : b.size ≤ i)), List.append_nil]
  | succ n ih =>
    intro i r h
    unfold ByteArray.toList.loop
    rw [if_pos (by omega), ih (i + 1) _ (by omega)]
    have hl : i < b.data.toList.length := by rw [Array.length_toList]; exact (by omega : i < b.size)
    rw [List.drop_eq_getElem_cons hl, List.reverse_cons, List.append_assoc, List.singleton_append]
    congr 2
    show b.get! i = _
    rw [Array.getElem_toList]
    simp [ByteArray.get!]
    exact getElem!_pos b.data i (by exact (by omega : i < b.size))
theorem tlD (b : ByteArray) : b.toList = b.data.toList := by
  unfold ByteArray.toList
  rw [tlL b _ 0 [] rfl]
  rfl
def sepB : ByteArray := (⟨#[44, 32]⟩ : ByteArray)
theorem sepB_size : sepB.size = 2 := rfl
theorem joinS_one (w s : ByteArray) : joinS [w] s = (⟨#[]⟩ : ByteArray) ++ w := by
  apply ba_ext
  show Lib.join [w.data.toList] s.data.toList = _
  rw [Lib.join_cons, ba_app]
  simp [Lib.joinTail]
theorem joinS_snoc (x : ByteArray) (r : List ByteArray) (w s : ByteArray) : joinS ((x :: r) ++ [w]) s = (joinS (x :: r) s ++ s) ++ w := by
  apply ba_ext
  show Lib.join (((x :: r) ++ [w]).map (·.data.toList)) s.data.toList = _
  rw [ba_app, ba_app]
  show _ = (Lib.join ((x :: r).map (·.data.toList)) s.data.toList ++ s.data.toList) ++ w.data.toList
  rw [List.cons_append, List.map_cons, List.map_cons, Lib.join_cons, Lib.join_cons]
  simp [Lib.joinTail, List.append_assoc]
theorem wordO_pos (t : Int) (h : 1 ≤ t) (h2 : t ≤ 5) : 1 ≤ (wordS topicT t).size := by
  have : t = 1 ∨ t = 2 ∨ t = 3 ∨ t = 4 ∨ t = 5 := by omega
  rcases this with rfl | rfl | rfl | rfl | rfl <;> decide
theorem wordsN_pos (l : List S42) (m : Int) : ∀ n, n ≤ 5 → ∀ w ∈ wordsN l m n, 1 ≤ w.size
  | 0, _ => fun w hw => by cases hw
  | n + 1, hn => fun w hw => by
    unfold wordsN at hw
    split at hw
    · rcases List.mem_append.1 hw with h | h
      · exact wordsN_pos l m n (by omega) w h
      · obtain rfl := List.mem_singleton.1 h
        exact wordO_pos _ (by omega) (by omega)
    · exact wordsN_pos l m n (by omega) w hw
def txt (l : List S42) (m : Int) (n : Nat) : ByteArray := joinS (wordsN l m n) sepB
theorem txt_nil {l : List S42} {m : Int} {n : Nat} (hn : n ≤ 5) : ((txt l m n).toList = []) ↔ wordsN l m n = [] := by
  have hp := wordsN_pos l m n hn
  unfold txt
  rw [tlD]
  cases h : wordsN l m n with
  | nil => exact ⟨fun _ => rfl, fun _ => rfl⟩
  | cons x r =>
    constructor
    · intro e
      have hx := hp x (by rw [h]; exact List.mem_cons_self)
      have e2 : Lib.join ((x :: r).map (·.data.toList)) sepB.data.toList = [] := e
      rw [List.map_cons, Lib.join_cons] at e2
      have e3 := (List.append_eq_nil_iff.1 e2).1
      have e4 : x.data.toList.length = x.size := by rw [Array.length_toList]; rfl
      rw [e3] at e4
      simp at e4
      omega
    · intro e; cases e
theorem txt_hit {l : List S42} {m : Int} {n : Nat} (hn : n ≤ 5) (h : l.any (hitT m ((n + 1 : Nat) : Int)) = true) :
    txt l m (n + 1) = if (txt l m n).toList = [] then txt l m n ++ wordS topicT ((n + 1 : Nat) : Int) else (txt l m n ++ sepB) ++ wordS topicT ((n + 1 : Nat) : Int) := by
  have e : wordsN l m (n + 1) = wordsN l m n ++ [wordS topicT ((n + 1 : Nat) : Int)] := if_pos h
  by_cases c : (txt l m n).toList = []
  · rw [if_pos c]
    have c2 := (txt_nil hn).1 c
    unfold txt
    rw [e, c2, List.nil_append, joinS_one]
    rfl
  · rw [if_neg c]
    unfold txt
    rw [e]
    cases hw : wordsN l m n with
    | nil => exact absurd ((txt_nil hn).2 hw) c
    | cons x r => exact joinS_snoc x r _ _
theorem txt_miss {l : List S42} {m : Int} {n : Nat} (h : ¬ l.any (hitT m ((n + 1 : Nat) : Int)) = true) : txt l m (n + 1) = txt l m n := by
  have e : wordsN l m (n + 1) = wordsN l m n := if_neg h
  unfold txt
  rw [e]
theorem txt_size (l : List S42) (m : Int) : ∀ n, n ≤ 5 → (txt l m n).size ≤ 12 * n
  | 0, _ => Nat.le_refl _
  | n + 1, hn => by
    have ih := txt_size l m n (by omega)
    by_cases h : l.any (hitT m ((n + 1 : Nat) : Int)) = true
    · rw [txt_hit (by omega) h]
      have hw := wordO_size ((n + 1 : Nat) : Int)
      split
      · rw [ba_size_app]; omega
      · rw [ba_size_app, ba_size_app, sepB_size]; omega
    · rw [txt_miss h]; omega
theorem join_txt (l : List S42) (m : Int) : strings_Join.f (wordsN l m 5) (⟨#[44, 32]⟩ : ByteArray) = some (txt l m 5) := by
  have hs := txt_size l m 5 (Nat.le_refl _)
  have hl := wordsN_len l m 5
  unfold strings_Join.f
  have e : (Lib.join ((wordsN l m 5).map (·.data.toList)) (⟨#[44, 32]⟩ : ByteArray).data.toList).length = (txt l m 5).size := rfl
  rw [if_pos ⟨by omega, by rw [e]; omega⟩]
  rfl
theorem most_lv (a b : Int) : spec_l1Most.f a b = some (if a < b then b else a) := by
  unfold spec_l1Most.f
  by_cases h : a > b
  · rw [if_pos h, if_neg (by omega)]
  · rw [if_neg h]
    by_cases h2 : a < b
    · rw [if_pos h2]
    · rw [if_neg h2]; congr 1; omega
theorem lvN_le {l : List S42} (ho : ∀ j, j < l.length → okW (l.getD j z42) = true) : ∀ n, n ≤ l.length → 0 ≤ lvN l n ∧ lvN l n ≤ 3 ∧ (1 ≤ n → 1 ≤ lvN l n)
  | 0, _ => ⟨Int.le_refl _, by show (0 : Int) ≤ 3; omega, fun h => by omega⟩
  | n + 1, hn => by
    have ih := lvN_le ho n (by omega)
    have hx := of_decide_eq_true (ho n (by omega))
    unfold lvN
    split <;> refine ⟨by omega, by omega, fun _ => by omega⟩
theorem any_succ (l : List S42) (p : S42 → Bool) (j : Nat) (hj : j < l.length) : (l.take (j + 1)).any p = ((l.take j).any p || p (l.getD j z42)) := by
  rw [List.take_add_one, List.getElem?_eq_getElem hj, List.any_append, Gen.getD_lt l z42 j hj]
  simp
theorem ev_head_l2 (l : List S42) (hl : l.length ≤ 12) (m t : Int) (s : ByteArray) (r : ByteArray × Bool) (hr : Ev (fun k => spec_HeadlineOf.l2 k l m s t (l.any (hitT m t)) (l.length : Int)) r) :
    ∀ d j, j + d = l.length → Ev (fun k => spec_HeadlineOf.l2 k l m s t ((l.take j).any (hitT m t)) (j : Int)) r := by
  intro d
  induction d with
  | zero =>
    intro j hj
    obtain rfl : j = l.length := by omega
    rw [List.take_length]
    exact hr
  | succ d ih =>
    intro j hj
    have key := ih (j + 1) (by omega)
    rw [any_succ l _ j (by omega)] at key
    refine Ev.unr ?_
    simp only [spec_HeadlineOf.l2]
    refine Ev.congr (fun k => if_pos (by omega)) ?_
    rw [wrapS j (by omega), rdW]
    cases hb : (l.take j).any (hitT m t) with
    | true =>
      rw [hb, Bool.true_or] at key
      exact Ev.congr (fun k => if_pos rfl) key
    | false =>
      rw [hb, Bool.false_or] at key
      unfold hitT at key
      refine Ev.congr (fun k => if_neg (by simp)) ?_
      refine Ev.congr (fun k => if_pos (by omega)) ?_
      by_cases c : (l.getD j z42).f2 = m
      · rw [decide_eq_true c, Bool.true_and] at key
        exact Ev.congr (fun k => if_pos c) key
      · rw [decide_eq_false c, Bool.false_and] at key
        exact Ev.congr (fun k => if_neg c) key
def headB : ByteArray := (⟨#[32, 119, 97, 114, 110, 105, 110, 103, 115, 58, 32]⟩ : ByteArray)
theorem headB_size : headB.size = 11 := rfl
theorem ev_head_l1 (l : List S42) (hl : l.length ≤ 12) (m : Int) (hm : 1 ≤ m ∧ m ≤ 3) : ∀ d n, n + d = 5 → Ev (fun k => spec_HeadlineOf.l1 k l m (txt l m n) ((n : Int) + 1)) (((wordS levelT m) ++ headB) ++ txt l m 5, true) := by
  have l4 : (LV.length : Int) = 4 := rfl
  have l6 : (TV.length : Int) = 6 := rfl
  intro d
  induction d with
  | zero =>
    intro n hn
    obtain rfl : n = 5 := by omega
    have hs := txt_size l m 5 (Nat.le_refl _)
    have hw := wordL_size m
    refine Ev.unr ?_
    simp only [spec_HeadlineOf.l1]
    refine Ev.congr (fun k => if_neg (by omega)) ?_
    refine Ev.bind (f := fun k t => _) (Ev.eq_now fun k => (show spec_l16Levels.f = some LV from rfl)) ?_
    rw [rdLV m hm.1 hm.2]
    refine Ev.congr (fun k => if_pos (by omega)) (Ev.congr (fun k => if_pos (by omega)) (Ev.congr (fun k => if_pos (by omega)) ?_))
    refine Ev.congr (fun k => if_pos ?_) (Ev.now _)
    rw [ba_size_app]
    show (wordS levelT m).size + 11 + _ ≤ _
    omega
  | succ d ih =>
    intro n hn
    have key := ih (n + 1) (by omega)
    have hs := txt_size l m n (by omega)
    have hw := wordO_size ((n : Int) + 1)
    refine Ev.unr ?_
    simp only [spec_HeadlineOf.l1]
    refine Ev.congr (fun k => if_pos (by omega)) ?_
    refine ev_head_l2 l hl m ((n : Int) + 1) (txt l m n) _ ?_ l.length 0 (by omega)
    refine Ev.unr ?_
    simp only [spec_HeadlineOf.l2]
    refine Ev.congr (fun k => if_neg (by omega)) ?_
    rw [wrapS' ((n : Int) + 1) (by omega) (by omega)]
    have ec : ((n + 1 : Nat) : Int) = (n : Int) + 1 := by omega
    rw [ec] at key
    by_cases h : l.any (hitT m ((n : Int) + 1)) = true
    · rw [txt_hit (by omega) (by rw [ec]; exact h), ec] at key
      refine Ev.congr (fun k => if_pos h) ?_
      by_cases c : (txt l m n).toList = []
      · rw [if_pos c] at key
        refine Ev.congr (fun k => if_pos c) ?_
        refine Ev.bind (f := fun k t => _) (Ev.eq_now fun k => (show spec_l16Topics.f = some TV from rfl)) ?_
        rw [rdTV ((n : Int) + 1) (by omega) (by omega)]
        exact Ev.congr (fun k => if_pos (by omega)) (Ev.congr (fun k => if_pos (by omega)) (Ev.congr (fun k => if_pos (by omega)) key))
      · rw [if_neg c] at key
        refine Ev.congr (fun k => if_neg c) ?_
        refine Ev.congr (fun k => if_pos (by omega)) ?_
        refine Ev.bind (f := fun k t => _) (Ev.eq_now fun k => (show spec_l16Topics.f = some TV from rfl)) ?_
        rw [rdTV ((n : Int) + 1) (by omega) (by omega)]
        refine Ev.congr (fun k => if_pos (by omega)) (Ev.congr (fun k => if_pos (by omega)) (Ev.congr (fun k => if_pos ?_) key))
        rw [ba_size_app]
        show _ + 2 + _ ≤ _
        omega
    · rw [txt_miss (by rw [ec]; exact h)] at key
      exact Ev.congr (fun k => if_neg h) key
theorem ev_head_l0 (l : List S42) (hl : l.length ≤ 12) (r : ByteArray × Bool) (hr : Ev (fun k => spec_HeadlineOf.l1 k l (lvN l l.length) (⟨#[]⟩ : ByteArray) 1) r) :
    ∀ d j, j + d = l.length → Ev (fun k => spec_HeadlineOf.l0 k l (lvN l j) (j : Int)) r := by
  intro d
  induction d with
  | zero =>
    intro j hj
    obtain rfl : j = l.length := by omega
    refine Ev.unr ?_
    simp only [spec_HeadlineOf.l0]
    exact Ev.congr (fun k => if_neg (by omega)) hr
  | succ d ih =>
    intro j hj
    have key := ih (j + 1) (by omega)
    refine Ev.unr ?_
    simp only [spec_HeadlineOf.l0]
    refine Ev.congr (fun k => if_pos (by omega)) ?_
    refine Ev.congr (fun k => if_pos (by omega)) ?_
    rw [wrapS j (by omega), rdW]
    exact Ev.bind (f := fun k t => _) (Ev.eq_now fun k => most_lv _ _) key
def headR (l : List S42) : ByteArray × Bool := if overB l = true then (if l.length = 0 then ((⟨#[78, 111, 32, 119, 97, 114, 110, 105, 110, 103, 115]⟩ : ByteArray), true) else (((wordS levelT (lvN l l.length)) ++ headB) ++ txt l (lvN l l.length) 5, true)) else ((⟨#[]⟩ : ByteArray), false)
theorem ev_specHead (l : List S42) (hb : l.length ≤ 4611686018427387904) : Ev (fun k => spec_HeadlineOf.f k l) (headR l) := by
  unfold spec_HeadlineOf.f headR
  refine Ev.bind (f := fun k t => _) (ev_l16Over l hb) ?_
  by_cases h : overB l = true
  · refine Ev.congr (fun k => if_pos h) ?_
    rw [if_pos h]
    by_cases hz : l.length = 0
    · refine Ev.congr (fun k => if_pos (by omega)) ?_
      rw [if_pos hz]
      exact Ev.now _
    · refine Ev.congr (fun k => if_neg (by omega)) ?_
      rw [if_neg hz]
      obtain ⟨h1, h2⟩ := over_ok h
      have hm := lvN_le h2 l.length (Nat.le_refl _)
      exact ev_head_l0 l h1 _ (ev_head_l1 l h1 (lvN l l.length) ⟨hm.2.2 (by omega), hm.2.1⟩ 5 0 (by omega)) l.length 0 (by omega)
  · refine Ev.congr (fun k => if_neg h) ?_
    rw [if_neg h]
    exact Ev.now _
theorem ev_implHead (l : List S42) (hb : l.length ≤ 4611686018427387904) : Ev (fun k => impl_HeadlineOf.f k l) (headR l) := by
  unfold impl_HeadlineOf.f headR
  refine Ev.bind (f := fun k t => _) (ev_isOverview l hb) ?_
  by_cases h : overB l = true
  · refine Ev.congr (fun k => if_pos h) ?_
    rw [if_pos h]
    by_cases hz : l.length = 0
    · refine Ev.congr (fun k => if_pos hz) ?_
      rw [if_pos hz]
      exact Ev.now _
    · refine Ev.congr (fun k => if_neg hz) ?_
      rw [if_neg hz]
      obtain ⟨h1, h2⟩ := over_ok h
      have hm := lvN_le h2 l.length (Nat.le_refl _)
      have hs := txt_size l (lvN l l.length) 5 (Nat.le_refl _)
      refine Ev.congr (fun k => if_pos ⟨hm.1, by omega⟩) ?_
      refine Ev.bind (f := fun k t => _) (Ev.eq_now fun k => join_txt l (lvN l l.length)) ?_
      exact Ev.congr (fun k => if_pos (by omega)) (Ev.now _)
  · refine Ev.congr (fun k => if_neg h) ?_
    rw [if_neg h]
    exact Ev.now _
end Go.Proofs.YtnibkkfjgmfpnaaDoor.Q
