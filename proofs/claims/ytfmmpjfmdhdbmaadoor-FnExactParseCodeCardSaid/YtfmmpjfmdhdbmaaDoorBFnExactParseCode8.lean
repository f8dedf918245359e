/- Texts of this seat, put together: LaParseC, PureFnExactParseCode. -/
import Derived.Test.YtfmmpjfmdhdbmaaDoorBFnExactParseCode0
import Derived.Test.YtfmmpjfmdhdbmaaDoorBFnExactParseCode3
import Derived.Test.YtfmmpjfmdhdbmaaDoorBFnExactParseCode6
import Derived.Test.YtfmmpjfmdhdbmaaDoorBFnExactParseCode7
/- A warning read back from its code: what both programs find. -/
set_option linter.unusedVariables false
set_option linter.unusedSimpArgs false
namespace Go.Proofs.YtfmmpjfmdhdbmaaDoor.Q
open Go.RowKit Go.Proofs.YtfmmpjfmdhdbmaaDoorW.PrintWords Go.Proofs.YtfmmpjfmdhdbmaaDoor.Gen
abbrev WVc := Int × Int × Int × Int × Int × Int × Bool
abbrev dotB : ByteArray := ⟨#[46]⟩
/-- The warning whose code s is, or none. -/
def PC (s : ByteArray) (X : WVc) : Prop :=
  (∃ a b c d e f, X = (a, b, c, d, e, f, true) ∧ okB a b c d e f = true ∧ codeS a b c d e f = s) ∨ (X = (0, 0, 0, 0, 0, 0, false) ∧ ∀ a b c d e f, okB a b c d e f = true → codeS a b c d e f ≠ s)
def ltL (c : Int) : UInt8 := ([89, 79, 82] : List UInt8).getD (c - 1).toNat 0
def ltT (b : Int) : UInt8 := ([87, 82, 83, 72, 84] : List UInt8).getD (b - 1).toNat 0
theorem preL_list (c : Int) (h1 : 1 ≤ c) (h2 : c ≤ 3) : (preL c).data.toList = [ltL c] := by
  have : c = 1 ∨ c = 2 ∨ c = 3 := by omega
  rcases this with rfl | rfl | rfl <;> decide +kernel
theorem preT_list (b : Int) (h1 : 1 ≤ b) (h2 : b ≤ 5) : (preT b).data.toList = [ltT b] := by
  have : b = 1 ∨ b = 2 ∨ b = 3 ∨ b = 4 ∨ b = 5 := by omega
  rcases this with rfl | rfl | rfl | rfl | rfl <;> decide +kernel
theorem lt_not (b c : Int) (h1 : 1 ≤ c) (h2 : c ≤ 3) (h3 : 1 ≤ b) (h4 : b ≤ 5) : (46 : UInt8) ∉ [ltL c, ltT b] := by
  have hc : c = 1 ∨ c = 2 ∨ c = 3 := by omega
  have hb : b = 1 ∨ b = 2 ∨ b = 3 ∨ b = 4 ∨ b = 5 := by omega
  rcases hc with rfl | rfl | rfl <;> rcases hb with rfl | rfl | rfl | rfl | rfl <;> decide +kernel
theorem codeS_parts (a b c d e f : Int) : codeS a b c d e f = ((preL c ++ preT b) ++ decN d.toNat) ++ (dotB ++ (decN e.toNat ++ (dotB ++ (decN f.toNat ++ (dotB ++ decN a.toNat))))) := by
  unfold codeS
  simp only [ba_assoc]
theorem codeS_list (a b c d e f : Int) (o : okB a b c d e f = true) : (codeS a b c d e f).data.toList = ltL c :: ltT b :: ((decN d.toNat).data.toList ++ 46 :: ((decN e.toNat).data.toList ++ 46 :: ((decN f.toNat).data.toList ++ 46 :: (decN a.toNat).data.toList))) := by
  have hb := of_decide_eq_true o
  rw [codeS_parts]
  simp only [ba_app]
  rw [preL_list c (by omega) (by omega), preT_list b (by omega) (by omega)]
  simp
theorem codeS_size (a b c d e f : Int) (o : okB a b c d e f = true) : 9 ≤ (codeS a b c d e f).size ∧ (codeS a b c d e f).size ≤ 20 := by
  have hb := of_decide_eq_true o
  have h1 := decN_size3 d.toNat (by omega)
  have h2 := decN_size3 e.toNat (by omega)
  have h3 := decN_size3 f.toNat (by omega)
  have h4 := decN_size3 a.toNat (by omega)
  have k1 := decN_size_pos d.toNat
  have k2 := decN_size_pos e.toNat
  have k3 := decN_size_pos f.toNat
  have k4 := decN_size_pos a.toNat
  have := congrArg List.length (codeS_list a b c d e f o)
  simp only [List.length_cons, List.length_append, ba_len] at this
  omega
/-- The pieces of a code, behind its letters. -/
theorem spl_code (a b c d e f : Int) (o : okB a b c d e f = true) (s : ByteArray) (h : codeS a b c d e f = s) : spl 46 [] (s.extract 2 s.size).data.toList = [decN d.toNat, decN e.toNat, decN f.toNat, decN a.toNat] := by
  have n1 := decN_not d.toNat 46 (by decide)
  have n2 := decN_not e.toNat 46 (by decide)
  have n3 := decN_not f.toNat 46 (by decide)
  have n4 := decN_not a.toNat 46 (by decide)
  have hz := ba_len s
  have hL := codeS_list a b c d e f o
  rw [h] at hL
  rw [← Lib.toList_data, ext_list, List.take_of_length_le (by rw [List.length_drop]; omega), hL]
  show spl 46 [] ((decN d.toNat).data.toList ++ 46 :: _) = _
  rw [spl_one _ _ _ _ n1, spl_one _ _ _ _ n2, spl_one _ _ _ _ n3, spl_last _ _ _ n4]
  rfl
theorem codeS_inj (a b c d e f a' b' c' d' e' f' : Int) (o : okB a b c d e f = true) (o' : okB a' b' c' d' e' f' = true) (h : codeS a b c d e f = codeS a' b' c' d' e' f') : a = a' ∧ b = b' ∧ c = c' ∧ d = d' ∧ e = e' ∧ f = f' := by
  have hb := of_decide_eq_true o
  have hb' := of_decide_eq_true o'
  have e1 := spl_code a b c d e f o _ rfl
  rw [spl_code a' b' c' d' e' f' o' _ h.symm] at e1
  simp only [List.cons.injEq, and_true] at e1
  obtain ⟨q1, q2, q3, q4⟩ := e1
  have k1 := decN_inj _ _ (by omega) (by omega) q1
  have k2 := decN_inj _ _ (by omega) (by omega) q2
  have k3 := decN_inj _ _ (by omega) (by omega) q3
  have k4 := decN_inj _ _ (by omega) (by omega) q4
  have hl := codeS_list a b c d e f o
  rw [h, codeS_list a' b' c' d' e' f' o'] at hl
  have l1 : ltL c' = ltL c := (List.cons.inj hl).1
  have l2 : ltT b' = ltT b := (List.cons.inj (List.cons.inj hl).2).1
  have hc : c = c' := by
    have h1 : c = 1 ∨ c = 2 ∨ c = 3 := by omega
    have h2 : c' = 1 ∨ c' = 2 ∨ c' = 3 := by omega
    rcases h1 with rfl | rfl | rfl <;> rcases h2 with rfl | rfl | rfl <;> first | rfl | exact absurd l1 (by decide +kernel)
  have ht : b = b' := by
    have h1 : b = 1 ∨ b = 2 ∨ b = 3 ∨ b = 4 ∨ b = 5 := by omega
    have h2 : b' = 1 ∨ b' = 2 ∨ b' = 3 ∨ b' = 4 ∨ b' = 5 := by omega
    rcases h1 with rfl | rfl | rfl | rfl | rfl <;> rcases h2 with rfl | rfl | rfl | rfl | rfl <;> first | rfl | exact absurd l2 (by decide +kernel)
  omega
theorem PC_uniq {s : ByteArray} {X Y : WVc} (hx : PC s X) (hy : PC s Y) : X = Y := by
  rcases hx with ⟨a, b, c, d, e, f, rfl, o, h⟩ | ⟨rfl, h⟩
  · rcases hy with ⟨a', b', c', d', e', f', rfl, o', h'⟩ | ⟨rfl, h'⟩
    · obtain ⟨rfl, rfl, rfl, rfl, rfl, rfl⟩ := codeS_inj a b c d e f a' b' c' d' e' f' o o' (h.trans h'.symm)
      rfl
    · exact absurd h (h' _ _ _ _ _ _ o)
  · rcases hy with ⟨a', b', c', d', e', f', rfl, o', h'⟩ | ⟨rfl, h'⟩
    · exact absurd h' (h _ _ _ _ _ _ o')
    · rfl
theorem ex_place (t : ByteArray) (b : Int) (hl : t.size ≤ 100) : ∀ d i : Nat, i + d = t.size → ∃ r, Ev (fun k => spec_l17Place.l0 k t b (i : Int)) r ∧ ∀ c : Nat, i ≤ c → c < t.size → bt t (c : Int) = b → (∀ j : Nat, i ≤ j → j < c → bt t (j : Int) ≠ b) → r = ((c + 1 : Nat) : Int) := by
  intro d
  induction d with
  | zero =>
    intro i hi
    refine ⟨0, Ev.unr ?_, fun c h1 h2 => by omega⟩
    simp only [spec_l17Place.l0]
    exact Ev.congr (fun k => if_neg (by omega)) (Ev.now _)
  | succ d ih =>
    intro i hi
    by_cases e : bt t (i : Int) = b
    · refine ⟨((i + 1 : Nat) : Int), Ev.unr ?_, fun c h1 h2 h3 h4 => ?_⟩
      · simp only [spec_l17Place.l0]
        rw [wrapS i (by omega)]
        exact Ev.congr (fun k => if_pos (by omega)) (Ev.congr (fun k => if_pos (by omega)) (Ev.congr (fun k => if_pos e) (Ev.now _)))
      · by_cases q : i = c
        · omega
        · exact absurd e (h4 i (Nat.le_refl _) (by omega))
    · obtain ⟨r, hr, hp⟩ := ih (i + 1) (by omega)
      refine ⟨r, Ev.unr ?_, fun c h1 h2 h3 h4 => ?_⟩
      · simp only [spec_l17Place.l0]
        refine Ev.congr (fun k => if_pos (by omega)) (Ev.congr (fun k => if_pos (by omega)) (Ev.congr (fun k => if_neg e) ?_))
        rw [wrapS i (by omega)]
        exact hr
      · by_cases q : i = c
        · subst q; exact absurd h3 e
        · exact hp c (by omega) h2 h3 (fun j h5 h6 => h4 j (by omega) h6)
theorem place_L (b : Int) : ∃ r, Ev (fun k => spec_l17Place.f k (⟨#[89, 79, 82]⟩ : ByteArray) b) r ∧ ∀ c : Int, 1 ≤ c → c ≤ 3 → b = ((ltL c).toNat : Int) → r = c := by
  obtain ⟨r, hr, hp⟩ := ex_place (⟨#[89, 79, 82]⟩ : ByteArray) b (by decide) 3 0 rfl
  refine ⟨r, hr, fun c h1 h2 e => ?_⟩
  have : c = 1 ∨ c = 2 ∨ c = 3 := by omega
  subst e
  rcases this with rfl | rfl | rfl
  · exact hp 0 (by omega) (by decide) (by decide +kernel) (fun j h3 h4 => by omega)
  · exact hp 1 (by omega) (by decide) (by decide +kernel) (fun j h3 h4 => by obtain rfl : j = 0 := (by omega); decide +kernel)
  · exact hp 2 (by omega) (by decide) (by decide +kernel) (fun j h3 h4 => by have : j = 0 ∨ j = 1 := (by omega); rcases this with rfl | rfl <;> decide +kernel)
theorem place_T (b : Int) : ∃ r, Ev (fun k => spec_l17Place.f k (⟨#[87, 82, 83, 72, 84]⟩ : ByteArray) b) r ∧ ∀ c : Int, 1 ≤ c → c ≤ 5 → b = ((ltT c).toNat : Int) → r = c := by
  obtain ⟨r, hr, hp⟩ := ex_place (⟨#[87, 82, 83, 72, 84]⟩ : ByteArray) b (by decide) 5 0 rfl
  refine ⟨r, hr, fun c h1 h2 e => ?_⟩
  have : c = 1 ∨ c = 2 ∨ c = 3 ∨ c = 4 ∨ c = 5 := by omega
  subst e
  rcases this with rfl | rfl | rfl | rfl | rfl
  · exact hp 0 (by omega) (by decide) (by decide +kernel) (fun j h3 h4 => by omega)
  · exact hp 1 (by omega) (by decide) (by decide +kernel) (fun j h3 h4 => by obtain rfl : j = 0 := (by omega); decide +kernel)
  · exact hp 2 (by omega) (by decide) (by decide +kernel) (fun j h3 h4 => by have : j = 0 ∨ j = 1 := (by omega); rcases this with rfl | rfl <;> decide +kernel)
  · exact hp 3 (by omega) (by decide) (by decide +kernel) (fun j h3 h4 => by have : j = 0 ∨ j = 1 ∨ j = 2 := (by omega); rcases this with rfl | rfl | rfl <;> decide +kernel)
  · exact hp 4 (by omega) (by decide) (by decide +kernel) (fun j h3 h4 => by have : j = 0 ∨ j = 1 ∨ j = 2 ∨ j = 3 := (by omega); rcases this with rfl | rfl | rfl | rfl <;> decide +kernel)
theorem bt_first (s : ByteArray) (x y : UInt8) (r : List UInt8) (h : s.data.toList = x :: y :: r) : bt s 0 = (x.toNat : Int) ∧ bt s 1 = (y.toNat : Int) := by
  have hl : s.data.toList.length = r.length + 2 := by rw [h]; rfl
  constructor
  · have := bt_list s 0 (by omega)
    simp only [h] at this
    exact this
  · have := bt_list s 1 (by omega)
    simp only [h] at this
    exact this
theorem bneT (s t : ByteArray) : ((s.toList != t.toList) = true) ↔ s ≠ t := by
  rw [bne_iff_ne]
  constructor
  · intro h e; exact h (by rw [e])
  · intro h e; rw [Lib.toList_data, Lib.toList_data] at e; exact h (ba_ext e)
theorem ev_specPC (s : ByteArray) (hs : s.size ≤ 1048576) : ∃ X : WVc, Ev (fun k => spec_ParseCode.f k s) X ∧ PC s X := by
  have zero : (∀ a b c d e f, okB a b c d e f = true → codeS a b c d e f ≠ s) → Ev (fun k => spec_ParseCode.f k s) (0, 0, 0, 0, 0, 0, false) → ∃ X : WVc, Ev (fun k => spec_ParseCode.f k s) X ∧ PC s X := fun h1 h2 => ⟨_, h2, Or.inr ⟨rfl, h1⟩⟩
  by_cases h0 : (9 : Int) ≤ (s.size : Int) ∧ (s.size : Int) ≤ 20
  rotate_left
  · refine zero (fun a b c d e f o h => ?_) ?_
    · have := codeS_size a b c d e f o
      rw [h] at this
      omega
    · unfold spec_ParseCode.f
      refine Ev.bind (f := fun k t => _) (Ev.eq_now fun k => l1In_fR (s.size : Int) 9 20) ?_
      exact Ev.congr (fun k => if_neg (by simpa using h0)) (Ev.now _)
  obtain ⟨L, hL⟩ : ∃ L, spl 46 [] (s.extract 2 s.size).data.toList = L := ⟨_, rfl⟩
  have vL := ev_split (s.extract 2 s.size) (by rw [ByteArray.size_extract]; omega) 46
  rw [hL, show (((46 : UInt8).toNat : Nat) : Int) = 46 from rfl] at vL
  by_cases h4 : L.length = 4
  rotate_left
  · refine zero (fun a b c d e f o h => ?_) ?_
    · have := spl_code a b c d e f o s h
      rw [hL] at this
      rw [this] at h4
      exact h4 rfl
    · unfold spec_ParseCode.f
      refine Ev.bind (f := fun k t => _) (Ev.eq_now fun k => l1In_fR (s.size : Int) 9 20) ?_
      refine Ev.congr (fun k => if_pos (decide_eq_true h0)) (Ev.congr (fun k => if_pos (by omega)) ?_)
      refine Ev.bind (f := fun k t => _) vL ?_
      exact Ev.congr (fun k => if_neg (by omega)) (Ev.now _)
  match L, h4 with
  | [x1, x2, x3, x4], _ =>
  obtain ⟨n1, vn1, pn1⟩ := ev_read x1
  obtain ⟨n2, vn2, pn2⟩ := ev_read x2
  obtain ⟨n3, vn3, pn3⟩ := ev_read x3
  obtain ⟨n4, vn4, pn4⟩ := ev_read x4
  obtain ⟨i1, vi1, pi1⟩ := place_L (bt s 0)
  obtain ⟨i2, vi2, pi2⟩ := place_T (bt s 1)
  have fit : ∀ a b c d e f, okB a b c d e f = true → codeS a b c d e f = s → n4 = (a, true) ∧ i2 = b ∧ i1 = c ∧ n1 = (d, true) ∧ n2 = (e, true) ∧ n3 = (f, true) := by
    intro a b c d e f o h
    have hb := of_decide_eq_true o
    have hp := spl_code a b c d e f o s h
    rw [hL] at hp
    simp only [List.cons.injEq, and_true] at hp
    obtain ⟨e1, e2, e3, e4⟩ := hp
    have hl := codeS_list a b c d e f o
    rw [h] at hl
    obtain ⟨b0, b1⟩ := bt_first s _ _ _ hl
    rw [pn1 _ (by omega) e1, pn2 _ (by omega) e2, pn3 _ (by omega) e3, pn4 _ (by omega) e4, pi1 c (by omega) (by omega) b0, pi2 b (by omega) (by omega) b1, show ((a.toNat : Nat) : Int) = a from by omega, show ((d.toNat : Nat) : Int) = d from by omega, show ((e.toNat : Nat) : Int) = e from by omega, show ((f.toNat : Nat) : Int) = f from by omega]
    exact ⟨rfl, rfl, rfl, rfl, rfl, rfl⟩
  have j_t : ∀ y1 y2 y3 y4 y5 y6, Ev (fun k => spec_ParseCode.j0 k true 0 0 0 0 0 0 y1 y2 y3 y4 y5 y6) (0, 0, 0, 0, 0, 0, false) := by
    intro y1 y2 y3 y4 y5 y6
    refine Ev.unr ?_
    simp only [spec_ParseCode.j0]
    exact Ev.congr (fun k => if_pos trivial) (Ev.now _)
  have start : ∀ X, Ev (fun k => (if n1.2 = true then (if n2.2 = true then (if n3.2 = true then (if n4.2 = true then ((spec_l14Good.f n4.1 i2 i1 n1.1 n2.1 n3.1).bind fun t298 => (if t298 = true then ((spec_l17Code.f k n4.1 i2 i1 n1.1 n2.1 n3.1).bind fun t299 => (spec_ParseCode.j0 k (t299.toList != s.toList) 0 0 0 0 0 0 n4.1 i2 i1 n1.1 n2.1 n3.1)) else (spec_ParseCode.j0 k true 0 0 0 0 0 0 n4.1 i2 i1 n1.1 n2.1 n3.1))) else (spec_ParseCode.j0 k true 0 0 0 0 0 0 n4.1 i2 i1 n1.1 n2.1 n3.1)) else (spec_ParseCode.j0 k true 0 0 0 0 0 0 n4.1 i2 i1 n1.1 n2.1 n3.1)) else (spec_ParseCode.j0 k true 0 0 0 0 0 0 n4.1 i2 i1 n1.1 n2.1 n3.1)) else (spec_ParseCode.j0 k true 0 0 0 0 0 0 n4.1 i2 i1 n1.1 n2.1 n3.1))) X → Ev (fun k => spec_ParseCode.f k s) X := by
    intro X hX
    unfold spec_ParseCode.f
    refine Ev.bind (f := fun k t => _) (Ev.eq_now fun k => l1In_fR (s.size : Int) 9 20) ?_
    refine Ev.congr (fun k => if_pos (decide_eq_true h0)) (Ev.congr (fun k => if_pos (by omega)) ?_)
    refine Ev.bind (f := fun k t => _) vL ?_
    refine Ev.congr (fun k => if_pos rfl) (Ev.congr (fun k => if_pos (by simp)) ?_)
    refine Ev.bind (f := fun k t => _) vn1 ?_
    refine Ev.congr (fun k => if_pos (by simp)) ?_
    refine Ev.bind (f := fun k t => _) vn2 ?_
    refine Ev.congr (fun k => if_pos (by simp)) ?_
    refine Ev.bind (f := fun k t => _) vn3 ?_
    refine Ev.congr (fun k => if_pos (by simp)) ?_
    refine Ev.bind (f := fun k t => _) vn4 ?_
    refine Ev.congr (fun k => if_pos (by omega)) ?_
    refine Ev.bind (f := fun k t => _) vi2 ?_
    refine Ev.congr (fun k => if_pos (by omega)) ?_
    exact Ev.bind (f := fun k t => _) vi1 hX
  by_cases g1 : n1.2 = true
  rotate_left
  · exact zero (fun a b c d e f o h => g1 (by rw [(fit a b c d e f o h).2.2.2.1])) (start _ (Ev.congr (fun k => if_neg g1) (j_t _ _ _ _ _ _)))
  by_cases g2 : n2.2 = true
  rotate_left
  · exact zero (fun a b c d e f o h => g2 (by rw [(fit a b c d e f o h).2.2.2.2.1])) (start _ (Ev.congr (fun k => if_pos g1) (Ev.congr (fun k => if_neg g2) (j_t _ _ _ _ _ _))))
  by_cases g3 : n3.2 = true
  rotate_left
  · exact zero (fun a b c d e f o h => g3 (by rw [(fit a b c d e f o h).2.2.2.2.2])) (start _ (Ev.congr (fun k => if_pos g1) (Ev.congr (fun k => if_pos g2) (Ev.congr (fun k => if_neg g3) (j_t _ _ _ _ _ _)))))
  by_cases g4 : n4.2 = true
  rotate_left
  · exact zero (fun a b c d e f o h => g4 (by rw [(fit a b c d e f o h).1])) (start _ (Ev.congr (fun k => if_pos g1) (Ev.congr (fun k => if_pos g2) (Ev.congr (fun k => if_pos g3) (Ev.congr (fun k => if_neg g4) (j_t _ _ _ _ _ _))))))
  have start2 : ∀ X, Ev (fun k => (spec_l14Good.f n4.1 i2 i1 n1.1 n2.1 n3.1).bind fun t298 => (if t298 = true then ((spec_l17Code.f k n4.1 i2 i1 n1.1 n2.1 n3.1).bind fun t299 => (spec_ParseCode.j0 k (t299.toList != s.toList) 0 0 0 0 0 0 n4.1 i2 i1 n1.1 n2.1 n3.1)) else (spec_ParseCode.j0 k true 0 0 0 0 0 0 n4.1 i2 i1 n1.1 n2.1 n3.1))) X → Ev (fun k => spec_ParseCode.f k s) X :=
    fun X hX => start X (Ev.congr (fun k => if_pos g1) (Ev.congr (fun k => if_pos g2) (Ev.congr (fun k => if_pos g3) (Ev.congr (fun k => if_pos g4) hX))))
  by_cases o : okB n4.1 i2 i1 n1.1 n2.1 n3.1 = true
  · by_cases e : codeS n4.1 i2 i1 n1.1 n2.1 n3.1 = s
    · refine ⟨_, start2 (n4.1, i2, i1, n1.1, n2.1, n3.1, true) ?_, Or.inl ⟨_, _, _, _, _, _, rfl, o, e⟩⟩
      refine Ev.bind (f := fun k t => _) (Ev.eq_now fun k => good_f _ _ _ _ _ _) ?_
      refine Ev.congr (fun k => if_pos o) ?_
      refine Ev.bind (f := fun k t => _) (ev_specCode _ _ _ _ _ _ o) ?_
      rw [show ((codeS n4.1 i2 i1 n1.1 n2.1 n3.1).toList != s.toList) = false from by rw [e]; simp]
      refine Ev.unr ?_
      simp only [spec_ParseCode.j0]
      exact Ev.congr (fun k => if_neg (by simp)) (Ev.now _)
    · refine zero (fun a b c d e' f o' h => ?_) (start2 _ ?_)
      · obtain ⟨f1, f2, f3, f4, f5, f6⟩ := fit a b c d e' f o' h
        rw [f1, f2, f3, f4, f5, f6] at e
        exact e h
      · refine Ev.bind (f := fun k t => _) (Ev.eq_now fun k => good_f _ _ _ _ _ _) ?_
        refine Ev.congr (fun k => if_pos o) ?_
        refine Ev.bind (f := fun k t => _) (ev_specCode _ _ _ _ _ _ o) ?_
        rw [(bneT _ _).2 e]
        exact j_t _ _ _ _ _ _
  · refine zero (fun a b c d e' f o' h => ?_) (start2 _ ?_)
    · obtain ⟨f1, f2, f3, f4, f5, f6⟩ := fit a b c d e' f o' h
      rw [f1, f2, f3, f4, f5, f6] at o
      exact o o'
    · refine Ev.bind (f := fun k t => _) (Ev.eq_now fun k => good_f _ _ _ _ _ _) ?_
      exact Ev.congr (fun k => if_neg o) (j_t _ _ _ _ _ _)
theorem ixL (c : Int) (h1 : 1 ≤ c) (h2 : c ≤ 3) : Lib.indexByte (⟨#[32, 89, 79, 82]⟩ : ByteArray).data.toList ((((ltL c).toNat : Int)).toNat.toUInt8) = c := by
  have : c = 1 ∨ c = 2 ∨ c = 3 := by omega
  rcases this with rfl | rfl | rfl <;> decide +kernel
theorem ixT (c : Int) (h1 : 1 ≤ c) (h2 : c ≤ 5) : Lib.indexByte (⟨#[32, 87, 82, 83, 72, 84]⟩ : ByteArray).data.toList ((((ltT c).toNat : Int)).toNat.toUInt8) = c := by
  have : c = 1 ∨ c = 2 ∨ c = 3 ∨ c = 4 ∨ c = 5 := by omega
  rcases this with rfl | rfl | rfl | rfl | rfl <;> decide +kernel
theorem ba_tail2 (a : ByteArray) (x y : UInt8) (r : ByteArray) (h : a.data.toList = x :: y :: r.data.toList) : a.extract 2 a.size = r := by
  apply ba_ext
  have hz := ba_len a
  rw [← Lib.toList_data, ext_list, List.take_of_length_le (by rw [List.length_drop]; omega), h]
  rfl
theorem splitV_code (a b c d e f : Int) (o : okB a b c d e f = true) (s : ByteArray) (h : codeS a b c d e f = s) : splitV s dotB = [(preL c ++ preT b) ++ decN d.toNat, decN e.toNat, decN f.toNat, decN a.toNat] := by
  have hb := of_decide_eq_true o
  have n0 : (46 : UInt8) ∉ ((preL c ++ preT b) ++ decN d.toNat).data.toList := by
    rw [ba_app, ba_app, preL_list c (by omega) (by omega), preT_list b (by omega) (by omega)]
    intro q
    rcases List.mem_append.1 q with q | q
    · exact lt_not b c (by omega) (by omega) (by omega) (by omega) q
    · exact decN_not d.toNat 46 (by decide) q
  rw [← h, codeS_parts, split_one _ _ _ n0, split_one _ _ _ (decN_not e.toNat 46 (by decide)), split_one _ _ _ (decN_not f.toNat 46 (by decide)), split_last _ _ (decN_not a.toNat 46 (by decide))]
theorem ev_implPC (s : ByteArray) (hs : s.size ≤ 1048576) : ∃ X : WVc, Ev (fun k => impl_ParseCode.f k s) X ∧ PC s X := by
  have zero : (∀ a b c d e f, okB a b c d e f = true → codeS a b c d e f ≠ s) → Ev (fun k => impl_ParseCode.f k s) (0, 0, 0, 0, 0, 0, false) → ∃ X : WVc, Ev (fun k => impl_ParseCode.f k s) X ∧ PC s X := fun h1 h2 => ⟨_, h2, Or.inr ⟨rfl, h1⟩⟩
  have vS := implSplit_f s dotB hs (by decide)
  have j_t : ∀ l, Ev (fun k => impl_ParseCode.j0 k s l true) (0, 0, 0, 0, 0, 0, false) := by
    intro l
    refine Ev.unr ?_
    simp only [impl_ParseCode.j0]
    exact Ev.congr (fun k => if_pos trivial) (Ev.now _)
  obtain ⟨L, hL⟩ : ∃ L, splitV s dotB = L := ⟨_, rfl⟩
  have hsz : ∀ x ∈ L, x.size ≤ s.size := fun x hx => splitV_size s dotB x (by rw [hL]; exact hx)
  rw [hL] at vS
  by_cases h4 : L.length = 4
  rotate_left
  · refine zero (fun a b c d e f o h => ?_) ?_
    · have := splitV_code a b c d e f o s h
      rw [hL] at this
      rw [this] at h4
      exact h4 rfl
    · unfold impl_ParseCode.f
      refine Ev.bind (f := fun k t => _) (Ev.eq_now fun k => vS) ?_
      exact Ev.congr (fun k => if_neg (by omega)) (j_t _)
  match L, h4 with
  | [x1, x2, x3, x4], _ =>
  have s1 := hsz x1 (by simp)
  have s2 := hsz x2 (by simp)
  have s3 := hsz x3 (by simp)
  have s4 := hsz x4 (by simp)
  by_cases h3 : (x1.size : Int) < 3
  · refine zero (fun a b c d e f o h => ?_) ?_
    · have hb := of_decide_eq_true o
      have hp := splitV_code a b c d e f o s h
      rw [hL] at hp
      have e1 := (List.cons.inj hp).1
      have k1 := decN_size_pos d.toNat
      have : x1.size = 2 + (decN d.toNat).size := by
        rw [e1, ba_size_app, ba_size_app, ← ba_len (preL c), ← ba_len (preT b), preL_list c (by omega) (by omega), preT_list b (by omega) (by omega)]
        rfl
      omega
    · unfold impl_ParseCode.f
      refine Ev.bind (f := fun k t => _) (Ev.eq_now fun k => vS) ?_
      refine Ev.congr (fun k => if_pos rfl) (Ev.congr (fun k => if_pos (by simp)) ?_)
      rw [show rdOf ByteArray.empty [x1, x2, x3, x4] 0 = x1 from rfl, decide_eq_true h3]
      exact j_t _
  have hw : ∀ x ∈ [x1.extract 2 x1.size, x2, x3, x4], x.size ≤ 1048576 := by
    intro x hx
    simp only [List.mem_cons, List.not_mem_nil, or_false] at hx
    rcases hx with rfl | rfl | rfl | rfl
    · rw [ByteArray.size_extract]; omega
    · omega
    · omega
    · omega
  have vr := ev_readInts [x1.extract 2 x1.size, x2, x3, x4] (by simp) hw
  obtain ⟨R, hR⟩ : ∃ R, readL [x1.extract 2 x1.size, x2, x3, x4] = R := ⟨_, rfl⟩
  rw [hR] at vr
  have fit : ∀ a b c d e f, okB a b c d e f = true → codeS a b c d e f = s → Lib.indexByte (⟨#[32, 87, 82, 83, 72, 84]⟩ : ByteArray).data.toList ((bt s 1).toNat.toUInt8) = b ∧ Lib.indexByte (⟨#[32, 89, 79, 82]⟩ : ByteArray).data.toList ((bt s 0).toNat.toUInt8) = c ∧ R = ([d, e, f, a], true) := by
    intro a b c d e f o h
    have hb := of_decide_eq_true o
    have hp := splitV_code a b c d e f o s h
    rw [hL] at hp
    simp only [List.cons.injEq, and_true] at hp
    obtain ⟨e1, e2, e3, e4⟩ := hp
    have hl := codeS_list a b c d e f o
    rw [h] at hl
    obtain ⟨b0, b1⟩ := bt_first s _ _ _ hl
    have ex : x1.extract 2 x1.size = decN d.toNat := ba_tail2 x1 (ltL c) (ltT b) _ (by rw [e1, ba_app, ba_app, preL_list c (by omega) (by omega), preT_list b (by omega) (by omega)]; rfl)
    rw [b0, b1, ixL c (by omega) (by omega), ixT b (by omega) (by omega), ← hR, ex, e2, e3, e4]
    refine ⟨rfl, rfl, ?_⟩
    unfold readL
    simp only [List.all_cons, List.all_nil, List.map_cons, List.map_nil, intV_dec d.toNat (by omega), intV_dec e.toNat (by omega), intV_dec f.toNat (by omega), intV_dec a.toNat (by omega)]
    rw [show ((a.toNat : Nat) : Int) = a from by omega, show ((d.toNat : Nat) : Int) = d from by omega, show ((e.toNat : Nat) : Int) = e from by omega, show ((f.toNat : Nat) : Int) = f from by omega]
    rfl
  have hsz0 : 3 ≤ s.size := by omega
  generalize hi1 : Lib.indexByte (⟨#[32, 89, 79, 82]⟩ : ByteArray).data.toList ((bt s 0).toNat.toUInt8) = i1 at fit
  generalize hi2 : Lib.indexByte (⟨#[32, 87, 82, 83, 72, 84]⟩ : ByteArray).data.toList ((bt s 1).toNat.toUInt8) = i2 at fit
  have start : ∀ X, Ev (fun k => (if R.2 = true then (if 3 < (R.1.length : Int) then (if 0 < (R.1.length : Int) then (if 1 < (R.1.length : Int) then (if 2 < (R.1.length : Int) then ((impl_IsValidWarning.f (rd R.1 3) i2 i1 (rd R.1 0) (rd R.1 1) (rd R.1 2)).bind fun t333 => (if t333 = true then ((impl_warningCode.f k (rd R.1 3) i2 i1 (rd R.1 0) (rd R.1 1) (rd R.1 2)).bind fun t334 => (if t334.toList = s.toList then (some (rd R.1 3, i2, i1, rd R.1 0, rd R.1 1, rd R.1 2, true)) else (some (0, 0, 0, 0, 0, 0, false)))) else (some (0, 0, 0, 0, 0, 0, false)))) else (none)) else (none)) else (none)) else (none)) else (some (0, 0, 0, 0, 0, 0, false)))) X → Ev (fun k => impl_ParseCode.f k s) X := by
    intro X hX
    unfold impl_ParseCode.f
    refine Ev.bind (f := fun k t => _) (Ev.eq_now fun k => vS) ?_
    refine Ev.congr (fun k => if_pos rfl) (Ev.congr (fun k => if_pos (by simp)) ?_)
    rw [show rdOf ByteArray.empty [x1, x2, x3, x4] 0 = x1 from rfl, decide_eq_false h3]
    refine Ev.unr ?_
    simp only [impl_ParseCode.j0]
    refine Ev.congr (fun k => if_neg (by simp)) (Ev.congr (fun k => if_pos (by omega)) ?_)
    refine Ev.bind (f := fun k t => _) (Ev.eq_now fun k => (show strings_IndexByte.f (⟨#[32, 89, 79, 82]⟩ : ByteArray) (bt s 0) = some i1 from by unfold strings_IndexByte.f; rw [hi1])) ?_
    refine Ev.congr (fun k => if_pos (by omega)) ?_
    refine Ev.bind (f := fun k t => _) (Ev.eq_now fun k => (show strings_IndexByte.f (⟨#[32, 87, 82, 83, 72, 84]⟩ : ByteArray) (bt s 1) = some i2 from by unfold strings_IndexByte.f; rw [hi2])) ?_
    refine Ev.congr (fun k => if_pos (by simp)) ?_
    rw [show rdOf ByteArray.empty [x1, x2, x3, x4] 0 = x1 from rfl]
    refine Ev.congr (fun k => if_pos (by omega)) ?_
    exact Ev.bind (f := fun k t => _) vr hX
  by_cases g : R.2 = true
  rotate_left
  · exact zero (fun a b c d e f o h => g (by rw [(fit a b c d e f o h).2.2])) (start _ (Ev.congr (fun k => if_neg g) (Ev.now _)))
  have er : R = ([(intV (x1.extract 2 x1.size)).1, (intV x2).1, (intV x3).1, (intV x4).1], true) := by
    rw [← hR] at g ⊢
    unfold readL at g ⊢
    split at g
    · rename_i q
      rw [if_pos q]
      rfl
    · cases g
  generalize (intV (x1.extract 2 x1.size)).1 = m1 at er
  generalize (intV x2).1 = m2 at er
  generalize (intV x3).1 = m3 at er
  generalize (intV x4).1 = m4 at er
  subst er
  have start2 : ∀ X, Ev (fun k => ((impl_IsValidWarning.f m4 i2 i1 m1 m2 m3).bind fun t333 => (if t333 = true then ((impl_warningCode.f k m4 i2 i1 m1 m2 m3).bind fun t334 => (if t334.toList = s.toList then (some (m4, i2, i1, m1, m2, m3, true)) else (some (0, 0, 0, 0, 0, 0, false)))) else (some (0, 0, 0, 0, 0, 0, false))))) X → Ev (fun k => impl_ParseCode.f k s) X :=
    fun X hX => start X (Ev.congr (fun k => if_pos rfl) (Ev.congr (fun k => if_pos (by simp)) (Ev.congr (fun k => if_pos (by simp)) (Ev.congr (fun k => if_pos (by simp)) (Ev.congr (fun k => if_pos (by simp)) hX)))))
  have fit2 : ∀ a b c d e f, okB a b c d e f = true → codeS a b c d e f = s → i2 = b ∧ i1 = c ∧ m1 = d ∧ m2 = e ∧ m3 = f ∧ m4 = a := by
    intro a b c d e f o h
    obtain ⟨f1, f2, f3⟩ := fit a b c d e f o h
    simp only [Prod.mk.injEq, List.cons.injEq, and_true] at f3
    exact ⟨f1, f2, f3.1, f3.2.1, f3.2.2.1, f3.2.2.2⟩
  by_cases o : okB m4 i2 i1 m1 m2 m3 = true
  · by_cases e : codeS m4 i2 i1 m1 m2 m3 = s
    · refine ⟨_, start2 (m4, i2, i1, m1, m2, m3, true) ?_, Or.inl ⟨_, _, _, _, _, _, rfl, o, e⟩⟩
      refine Ev.bind (f := fun k t => _) (Ev.eq_now fun k => valid_f _ _ _ _ _ _) ?_
      refine Ev.congr (fun k => if_pos o) ?_
      refine Ev.bind (f := fun k t => _) (ev_implCode _ _ _ _ _ _ o) ?_
      exact Ev.congr (fun k => if_pos (by rw [e])) (Ev.now _)
    · refine zero (fun a b c d e' f o' h => ?_) (start2 _ ?_)
      · obtain ⟨rfl, rfl, rfl, rfl, rfl, rfl⟩ := fit2 a b c d e' f o' h
        exact e h
      · refine Ev.bind (f := fun k t => _) (Ev.eq_now fun k => valid_f _ _ _ _ _ _) ?_
        refine Ev.congr (fun k => if_pos o) ?_
        refine Ev.bind (f := fun k t => _) (ev_implCode _ _ _ _ _ _ o) ?_
        exact Ev.congr (fun k => if_neg (fun q => e (by rw [Lib.toList_data, Lib.toList_data] at q; exact ba_ext q))) (Ev.now _)
  · refine zero (fun a b c d e' f o' h => ?_) (start2 _ ?_)
    · obtain ⟨rfl, rfl, rfl, rfl, rfl, rfl⟩ := fit2 a b c d e' f o' h
      exact o o'
    · refine Ev.bind (f := fun k t => _) (Ev.eq_now fun k => valid_f _ _ _ _ _ _) ?_
      exact Ev.congr (fun k => if_neg o) (Ev.now _)
end Go.Proofs.YtfmmpjfmdhdbmaaDoor.Q
/- The two programs read the same warning of a code: for every text. -/
set_option linter.unusedVariables false
set_option linter.unusedSimpArgs false
namespace Go.Proofs.YtfmmpjfmdhdbmaaDoor.Pure
open Go.RowKit Go.Proofs.YtfmmpjfmdhdbmaaDoorW.PrintWords Go.Proofs.YtfmmpjfmdhdbmaaDoor.Tells Go.Proofs.YtfmmpjfmdhdbmaaDoor.Q Go.Proofs.YtfmmpjfmdhdbmaaDoor.Gen
theorem FnExactParseCode : ∀ (a0 : ByteArray), a0.size ≤ maxLen → ∃ k, laws_FnExactParseCode.f k a0 = some true := by
  intro s _
  refine Ev.rounds ?_
  unfold laws_FnExactParseCode.f
  by_cases h : (s.size : Int) > 1048576
  · exact Ev.congr (fun k => if_pos h) (Ev.now _)
  · refine Ev.congr (fun k => if_neg h) ?_
    obtain ⟨X, hX, pX⟩ := ev_specPC s (by omega)
    obtain ⟨Y, hY, pY⟩ := ev_implPC s (by omega)
    obtain rfl := PC_uniq pX pY
    refine Ev.bind (f := fun k t => _) hX ?_
    refine Ev.bind (f := fun k t => _) hY ?_
    refine Ev.bind (f := fun k t => _) (Ev.eq_now fun k => (show laws_eqWarning.f X.1 X.2.1 X.2.2.1 X.2.2.2.1 X.2.2.2.2.1 X.2.2.2.2.2.1 X.1 X.2.1 X.2.2.1 X.2.2.2.1 X.2.2.2.2.1 X.2.2.2.2.2.1 = some true from by unfold laws_eqWarning.f; simp)) ?_
    exact Ev.congr (fun k => if_pos rfl) (Ev.congr (fun k => if_neg (by simp)) (Ev.now _))
end Go.Proofs.YtfmmpjfmdhdbmaaDoor.Pure
