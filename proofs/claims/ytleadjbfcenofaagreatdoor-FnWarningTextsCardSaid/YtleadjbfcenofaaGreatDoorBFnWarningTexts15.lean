/- Texts of this claim, put together: walks of the program's functions, and plain facts. -/
import Derived.Test.YtleadjbfcenofaaGreatDoorZFnWarningTexts
import Derived.Test.YtleadjbfcenofaaGreatDoorBFnWarningTexts0
import Derived.Test.YtleadjbfcenofaaGreatDoorBFnWarningTexts1
import Derived.Test.YtleadjbfcenofaaGreatDoorBFnWarningTexts8
import Derived.Test.YtleadjbfcenofaaGreatDoorBFnWarningTexts13
import Derived.Test.YtleadjbfcenofaaGreatDoorBFnWarningTexts14
namespace Go.Proofs.YtleadjbfcenofaaGreatDoor.Q
open Go.RowKit Go.Proofs.YtleadjbfcenofaaGreatDoorW.PrintWords Go.Proofs.YtleadjbfcenofaaGreatDoor.Gen
set_option linter.unusedVariables false
set_option linter.unusedSimpArgs false
theorem warning_j0 {l : List Int} (h : Cod l) (s q : Int) (h0 : 0 ≤ s) (h1 : s ≤ 999999100) (x7 a b c d e f : Int) : ∃ a' b' c' d' e' f' s' q', Ev (fun k => spec_l1Cur_warning.j0 k x7 l s q a b c d e f) (a', b', c', d', e', f', s', q') ∧ s ≤ s' ∧ s' ≤ s + 2 := by
  by_cases c0 : x7 = 0
  · obtain ⟨y, s8, q8, e8, _, u8, v8⟩ := among_ok h s q (by omega) (by omega) [0, 999, 1000] (by simp)
    refine ⟨y, b, c, d, e, f, s8, q8, Ev.unr (Ev.eq_now fun k => ?_), u8, v8⟩
    simp only [spec_l1Cur_warning.j0, e8, Option.bind_some]
    rw [if_pos c0]
  · by_cases c1 : x7 = 1
    · obtain ⟨y, s8, q8, e8, _, u8, v8⟩ := among_ok h s q (by omega) (by omega) [0, 5, 6] (by simp)
      refine ⟨a, y, c, d, e, f, s8, q8, Ev.unr (Ev.eq_now fun k => ?_), u8, v8⟩
      simp only [spec_l1Cur_warning.j0, e8, Option.bind_some]
      rw [if_neg c0, if_pos c1]
    · by_cases c2 : x7 = 2
      · obtain ⟨y, s8, q8, e8, _, u8, v8⟩ := among_ok h s q (by omega) (by omega) [0, 4] (by simp)
        refine ⟨a, b, y, d, e, f, s8, q8, Ev.unr (Ev.eq_now fun k => ?_), u8, v8⟩
        simp only [spec_l1Cur_warning.j0, e8, Option.bind_some]
        rw [if_neg c0, if_neg c1, if_pos c2]
      · by_cases c3 : x7 = 3
        · obtain ⟨y, s8, q8, e8, _, u8, v8⟩ := among_ok h s q (by omega) (by omega) [0, 9, 10] (by simp)
          refine ⟨a, b, c, y, e, f, s8, q8, Ev.unr (Ev.eq_now fun k => ?_), u8, v8⟩
          simp only [spec_l1Cur_warning.j0, e8, Option.bind_some]
          rw [if_neg c0, if_neg c1, if_neg c2, if_pos c3]
        · by_cases c4 : x7 = 4
          · obtain ⟨y, s8, q8, e8, _, u8, v8⟩ := among_ok h s q (by omega) (by omega) [e, 240, 241] (by simp)
            refine ⟨a, b, c, d, e, y, s8, q8, Ev.unr (Ev.eq_now fun k => ?_), u8, v8⟩
            simp only [spec_l1Cur_warning.j0, e8, Option.bind_some]
            rw [if_neg c0, if_neg c1, if_neg c2, if_neg c3, if_pos c4]
          · refine ⟨a, b, c, d, e, f, s, q, Ev.unr (Ev.eq_now fun k => ?_), by omega, by omega⟩
            simp only [spec_l1Cur_warning.j0]
            rw [if_neg c0, if_neg c1, if_neg c2, if_neg c3, if_neg c4]
theorem warning_ok {l : List Int} (h : Cod l) (s q : Int) (h0 : 0 ≤ s) (h1 : s ≤ 999999000) : ∃ a b c d e f s' q', Ev (fun k => spec_l1Cur_warning.f k l s q) (a, b, c, d, e, f, s', q') ∧ s ≤ s' ∧ s' ≤ s + 16 := by
  unfold spec_l1Cur_warning.f
  obtain ⟨x1, s1, q1, e1, _, _, u1, v1⟩ := pick_ok h s q h0 (by omega) 30
  obtain ⟨x2, s2, q2, e2, _, _, u2, v2⟩ := pick_ok h s1 q1 (by omega) (by omega) 9
  obtain ⟨x3, s3, q3, e3, _, _, u3, v3⟩ := pick_ok h s2 q2 (by omega) (by omega) 3
  obtain ⟨x4, s4, q4, e4, _, _, u4, v4⟩ := pick_ok h s3 q3 (by omega) (by omega) 3
  obtain ⟨x5, s5, q5, e5, _, _, u5, v5⟩ := pick_ok h s4 q4 (by omega) (by omega) 3
  obtain ⟨x6, s6, q6, e6, _, _, u6, v6⟩ := pick_ok h s5 q5 (by omega) (by omega) 12
  obtain ⟨x7, s7, q7, e7, _, _, u7, v7⟩ := pick_ok h s6 q6 (by omega) (by omega) 24
  simp only [e1, e2, e3, e4, e5, e6, e7, Option.bind_some]
  obtain ⟨a, b, c, d, e, f, s8, q8, e8, u8, v8⟩ := warning_j0 h s7 q7 (by omega) (by omega) x7 (wrap64 (1 + x2)) (wrap64 (1 + x3)) (wrap64 (1 + x4)) (wrap64 (1 + x5)) x1 (wrap64 ((wrap64 (x1 + 1)) + x6))
  exact ⟨a, b, c, d, e, f, s8, q8, e8, by omega, by omega⟩
theorem warnings_l1 {l : List Int} (h : Cod l) : ∀ (d n : Nat) (x : List S25) (s q : Int), n + d = 14 → 0 ≤ s → s + 2 * (d + 1 : Nat) ≤ 999999000 → x.length + d ≤ 1000 → ∃ L s' q', Ev (fun k => spec_l1Cur_warnings.l1 k x (n : Int) l s q) (L, s', q') ∧ L.length ≤ x.length + d ∧ s ≤ s' ∧ s' ≤ s + 2 * (d + 1 : Nat) := by
  intro d
  induction d with
  | zero =>
    intro n x s q hn h0 h1 hx
    obtain ⟨y, s1, q1, e1, _, _, u1, v1⟩ := pick_ok h s q h0 (by omega) 2
    refine ⟨x, s1, q1, Ev.unr (Ev.eq_now fun k => ?_), by omega, by omega, by omega⟩
    simp only [spec_l1Cur_warnings.l1, e1, Option.bind_some]
    by_cases c : (x.length : Int) < wrap64 (12 + y)
    · rw [if_pos c, if_neg (by omega)]
    · rw [if_neg c]
  | succ d ih =>
    intro n x s q hn h0 h1 hx
    obtain ⟨y, s1, q1, e1, _, _, u1, v1⟩ := pick_ok h s q h0 (by omega) 2
    by_cases c : (x.length : Int) < wrap64 (12 + y)
    · obtain ⟨L, s2, q2, e2, hL, u2, v2⟩ := ih (n + 1) (x ++ [(⟨wrap64 (100 + (n : Int)), 5, 1, 9, wrap64 (10 * (n : Int)), wrap64 ((wrap64 (10 * (n : Int))) + 5)⟩ : S25)]) s1 q1 (by omega) (by omega) (by omega) (by simp; omega)
      refine ⟨L, s2, q2, Ev.unr ?_, by simp at hL; omega, by omega, by omega⟩
      simp only [spec_l1Cur_warnings.l1, e1, Option.bind_some]
      refine Ev.congr (fun k => if_pos c) ?_
      refine Ev.congr (fun k => if_pos (by omega)) ?_
      refine Ev.congr (fun k => if_pos (by simp; omega)) ?_
      rw [wrapS n (by omega)]
      exact e2
    · refine ⟨x, s1, q1, Ev.unr (Ev.eq_now fun k => ?_), by omega, by omega, by omega⟩
      simp only [spec_l1Cur_warnings.l1, e1, Option.bind_some]
      rw [if_neg c]
theorem warnings_l0 {l : List Int} (h : Cod l) : ∀ (n : Nat) (x : List S25) (i s q : Int), 0 ≤ s → s + 40 * (n : Int) + 40 ≤ 999999000 → x.length + n ≤ 900 → ∃ L s' q', Ev (fun k => spec_l1Cur_warnings.l0 k x i (n : Int) l s q) (L, s', q') ∧ L.length ≤ x.length + n + 14 ∧ s ≤ s' ∧ s' ≤ s + 40 * (n : Int) + 40 := by
  intro n
  induction n with
  | zero =>
    intro x i s q h0 h1 hx
    obtain ⟨y, s1, q1, e1, _, _, u1, v1⟩ := pick_ok h s q h0 (by omega) 24
    by_cases c0 : y = 0
    · obtain ⟨a, b, c, d, e, f, s2, q2, e2, u2, v2⟩ := warning_ok h s1 q1 (by omega) (by omega)
      refine ⟨x ++ [(⟨a, b, c, d, e, f⟩ : S25)], s2, q2, Ev.unr ?_, by simp, by omega, by omega⟩
      simp only [spec_l1Cur_warnings.l0, e1, Option.bind_some]
      refine Ev.congr (fun k => (if_neg (by omega)).trans (if_pos c0)) (Ev.bind (f := fun k t => _) e2 ?_)
      exact Ev.congr (fun k => if_pos (by simp; omega)) (Ev.now _)
    · by_cases c1 : y = 1
      · obtain ⟨L, s2, q2, e2, hL, u2, v2⟩ := warnings_l1 h 14 0 x s1 q1 (by omega) (by omega) (by omega) (by omega)
        refine ⟨L, s2, q2, Ev.unr ?_, by omega, by omega, by omega⟩
        simp only [spec_l1Cur_warnings.l0, e1, Option.bind_some]
        exact Ev.congr (fun k => by rw [if_neg (by omega), if_neg c0, if_pos c1]; rfl) e2
      · refine ⟨x, s1, q1, Ev.unr (Ev.eq_now fun k => ?_), by omega, by omega, by omega⟩
        simp only [spec_l1Cur_warnings.l0, e1, Option.bind_some]
        rw [if_neg (by omega), if_neg c0, if_neg c1]
  | succ n ih =>
    intro x i s q h0 h1 hx
    obtain ⟨a, b, c, d, e, f, s2, q2, e2, u2, v2⟩ := warning_ok h s q h0 (by omega)
    obtain ⟨y, s1, q1, e1, _, _, u1, v1⟩ := pick_ok h s2 q2 (by omega) (by omega) 2
    have key : ∀ z : List S25, z.length ≤ x.length + 1 → ∃ L s' q', Ev (fun k => spec_l1Cur_warnings.l0 k z (wrap64 ((wrap64 (i + 1)) + y)) (n : Int) l s1 q1) (L, s', q') ∧ L.length ≤ x.length + (n + 1) + 14 ∧ s ≤ s' ∧ s' ≤ s + 40 * ((n + 1 : Nat) : Int) + 40 := fun z hz => by
      obtain ⟨L, s3, q3, e3, hL, u3, v3⟩ := ih z (wrap64 ((wrap64 (i + 1)) + y)) s1 q1 (by omega) (by omega) (by omega)
      exact ⟨L, s3, q3, e3, by omega, by omega, by omega⟩
    have hn : wrap64 (((n + 1 : Nat) : Int) - 1) = (n : Int) := by unfold wrap64; omega
    have nx : ∀ (z : List S25) (b' : Bool), z = x ++ [(⟨wrap64 ((wrap64 (i + 1)) + y), b, c, d, e, f⟩ : S25)] → b' = consB z → ∃ L s' q', Ev (fun k => spec_l1Cur_warnings.j1 k x (wrap64 ((wrap64 (i + 1)) + y)) ((n + 1 : Nat) : Int) z b' l s1 q1) (L, s', q') ∧ L.length ≤ x.length + (n + 1) + 14 ∧ s ≤ s' ∧ s' ≤ s + 40 * ((n + 1 : Nat) : Int) + 40 := by
      intro z b' hz _
      cases b' with
      | true =>
        obtain ⟨L, s3, q3, e3, hL, u3, v3⟩ := key z (by rw [hz]; simp)
        refine ⟨L, s3, q3, Ev.unr ?_, hL, u3, v3⟩
        simp only [spec_l1Cur_warnings.j1, hn]
        exact Ev.congr (fun k => if_pos (by trivial)) e3
      | false =>
        obtain ⟨L, s3, q3, e3, hL, u3, v3⟩ := key x (by omega)
        refine ⟨L, s3, q3, Ev.unr ?_, hL, u3, v3⟩
        simp only [spec_l1Cur_warnings.j1, hn]
        exact Ev.congr (fun k => if_neg (by simp)) e3
    obtain ⟨L, s3, q3, e3, hL, u3, v3⟩ := nx _ _ rfl rfl
    refine ⟨L, s3, q3, Ev.unr ?_, hL, u3, v3⟩
    simp only [spec_l1Cur_warnings.l0]
    refine Ev.congr (fun k => if_pos (by omega)) (Ev.bind (f := fun k t => _) e2 ?_)
    simp only [e1, Option.bind_some, List.nil_append, List.length_nil]
    refine Ev.congr (fun k => if_pos (by omega)) ?_
    refine Ev.congr (fun k => if_pos (by simp; omega)) ?_
    refine Ev.bind (f := fun k t => _) (ev_l14List _) ?_
    exact e3
theorem warnings_ok {l : List Int} (h : Cod l) (s q : Int) (h0 : 0 ≤ s) (h1 : s ≤ 999990000) : ∃ L s' q', Ev (fun k => spec_l1Cur_warnings.f k l s q) (L, s', q') ∧ L.length ≤ 30 ∧ s ≤ s' ∧ s' ≤ s + 1000 := by
  obtain ⟨y, s1, q1, e1, y0, y1, u1, v1⟩ := pick_ok h s q h0 (by omega) 7
  obtain ⟨n, rfl⟩ : ∃ n : Nat, y = (n : Int) := ⟨y.toNat, by omega⟩
  obtain ⟨L, s2, q2, e2, hL, u2, v2⟩ := warnings_l0 h n [] 0 s1 q1 (by omega) (by omega) (by simp; omega)
  refine ⟨L, s2, q2, ?_, by simp at hL; omega, by omega, by omega⟩
  unfold spec_l1Cur_warnings.f
  rw [e1]
  exact e2
def wtR (a b c d e f : Int) : ByteArray × Bool := if okB a b c d e f = true then (warnR a b c d e f, true) else (⟨#[]⟩, false)
theorem ev_specWT (a b c d e f : Int) : Ev (fun k => spec_WarningText.f k a b c d e f) (wtR a b c d e f) := by
  unfold spec_WarningText.f wtR
  refine Ev.bind (f := fun k t => _) (Ev.eq_now fun k => good_f a b c d e f) ?_
  by_cases o : okB a b c d e f = true
  · rw [if_pos o]
    refine Ev.congr (fun k => if_pos o) ?_
    exact Ev.bind (f := fun k t => _) (ev_specText a b c d e f o) (Ev.now _)
  · rw [if_neg o]
    exact Ev.congr (fun k => if_neg o) (Ev.now _)
theorem implWT_f (a b c d e f : Int) : impl_WarningText.f a b c d e f = some (wtR a b c d e f) := by
  unfold impl_WarningText.f wtR
  rw [valid_f, Option.bind_some]
  by_cases o : okB a b c d e f = true
  · rw [if_pos o, if_pos o, implText_f a b c d e f o, Option.bind_some]
  · rw [if_neg o, if_neg o]
theorem wtR_size (a b c d e f : Int) : (wtR a b c d e f).1.size ≤ 120 := by
  unfold wtR
  split
  · rename_i o
    exact warnR_size a b c d e f o
  · exact Nat.zero_le _
theorem l1In_fT (a b c : Int) : spec_l1In.f a b c = some (decide (b ≤ a ∧ a ≤ c)) := by
  unfold spec_l1In.f
  by_cases h1 : a ≥ b <;> by_cases h2 : a ≤ c <;> simp [h1, h2] <;> omega
def hourR (h : Int) : ByteArray × Bool := if 0 ≤ h ∧ h ≤ 240 then (hourS h.toNat, true) else (⟨#[]⟩, false)
theorem ev_specHourText (h : Int) : Ev (fun k => spec_HourText.f k h) (hourR h) := by
  unfold spec_HourText.f hourR
  refine Ev.bind (f := fun k t => _) (Ev.eq_now fun k => l1In_fT h 0 240) ?_
  by_cases c : 0 ≤ h ∧ h ≤ 240
  · obtain ⟨n, rfl⟩ : ∃ n : Nat, h = (n : Int) := ⟨h.toNat, by omega⟩
    rw [if_pos c, Int.toNat_natCast]
    refine Ev.congr (fun k => if_pos (decide_eq_true c)) ?_
    exact Ev.bind (f := fun k t => _) (ev_specHour n (by omega)) (Ev.now _)
  · rw [if_neg c]
    exact Ev.congr (fun k => if_neg (by simpa using c)) (Ev.now _)
theorem implHourText_f (h : Int) : impl_HourText.f h = some (hourR h) := by
  unfold impl_HourText.f hourR
  rw [within_f, Option.bind_some]
  by_cases c : 0 ≤ h ∧ h ≤ 240
  · obtain ⟨n, rfl⟩ : ∃ n : Nat, h = (n : Int) := ⟨h.toNat, by omega⟩
    rw [if_pos (decide_eq_true c), if_pos c, Int.toNat_natCast, implHour_f n (by omega), Option.bind_some]
  · rw [if_neg (by simpa using c), if_neg c]
theorem ext_szT (a : ByteArray) (i j : Nat) : (a.extract i j).size = min j a.size - i := ByteArray.size_extract
theorem spoilt_okT {l : List Int} (h : Cod l) (s q : Int) (h0 : 0 ≤ s) (h1 : s ≤ 999990000) (a c : ByteArray) (ha : a.size ≤ 1000000) (hc : 0 < c.size) (hc2 : c.size ≤ 100) : ∃ r s' q', spec_l1Cur_spoilt.f l s q a c = some (r, s', q') ∧ r.size ≤ 1000002 := by
  unfold spec_l1Cur_spoilt.f
  by_cases he : a.toList = ([] : List UInt8)
  · rw [if_pos he, if_pos (by omega)]
    exact ⟨_, _, _, rfl, by rw [ext_szT]; omega⟩
  · have hap : 0 < a.size := by
      rcases Nat.eq_zero_or_pos a.size with h | h
      · exfalso
        apply he
        rw [Lib.toList_data]
        exact List.length_eq_zero_iff.1 (by rw [Array.length_toList]; exact h)
      · exact h
    obtain ⟨i, s1, q1, e1, i0, i1, u1, v1⟩ := pick_ok h s q h0 (by omega) (a.size : Int)
    obtain ⟨j, s2, q2, e2, j0, j1, u2, v2⟩ := pick_ok h s1 q1 (by omega) (by omega) (c.size : Int)
    obtain ⟨x, s3, q3, e3, x0, x1, u3, v3⟩ := pick_ok h s2 q2 (by omega) (by omega) 3
    rw [if_neg he, e1, Option.bind_some]
    dsimp only
    rw [e2, Option.bind_some]
    dsimp only
    rw [e3, Option.bind_some]
    dsimp only
    rw [if_pos ⟨i0, by omega, j0, by omega, by omega, by omega⟩]
    refine ⟨_, _, _, rfl, ?_⟩
    split
    · rw [ba_size_app, ba_size_app, ext_szT, ext_szT, ext_szT, ext_szT]; omega
    · split
      · rw [ba_size_app, ba_size_app, ext_szT, ext_szT, ext_szT, ext_szT]; omega
      · rw [ba_size_app, ext_szT, ext_szT]; omega
theorem drawWText_okT {l : List Int} (h : Cod l) : ∃ a b c d e f, Ev (fun k => spec_DrawWarningText.f k l) (a, b, c, d, e, f) := by
  unfold spec_DrawWarningText.f
  obtain ⟨a, b, c, d, e, f, s2, q2, e2, u2, v2⟩ := warning_ok h 0 0 (by omega) (by omega)
  exact ⟨a, b, c, d, e, f, Ev.bind (f := fun k t => _) e2 (Ev.now _)⟩
theorem drawPW_ok {l : List Int} (h : Cod l) : ∃ t, Ev (fun k => spec_DrawParseWarning.f k l) t ∧ t.size ≤ 1000002 := by
  unfold spec_DrawParseWarning.f
  obtain ⟨a, b, c, d, e, f, s1, q1, e1, u1, v1⟩ := warning_ok h 0 0 (by omega) (by omega)
  have hz := wtR_size a b c d e f
  have hw := ev_specWT a b c d e f
  obtain ⟨t, s2, q2, e2, u2, v2⟩ := one_ok h s1 q1 (by omega) (by omega) 4
  obtain ⟨r, s3, q3, e3, hr⟩ := spoilt_okT h s2 q2 (by omega) (by omega) (wtR a b c d e f).1 (⟨#[32, 48, 46, 44, 82]⟩ : ByteArray) (by omega) (by decide) (by decide)
  cases t with
  | true => exact ⟨r, Ev.bind (f := fun k t => _) e1 (Ev.bind (f := fun k t => _) hw (Ev.eq_now fun k => by dsimp only; rw [e2, Option.bind_some, if_pos rfl]; dsimp only; rw [e3, Option.bind_some])), hr⟩
  | false => exact ⟨(wtR a b c d e f).1, Ev.bind (f := fun k t => _) e1 (Ev.bind (f := fun k t => _) hw (Ev.eq_now fun k => by dsimp only; rw [e2, Option.bind_some, if_neg (by simp)])), by omega⟩
theorem drawOv_ok {l : List Int} (h : Cod l) : ∃ L : List S25, Ev (fun k => spec_DrawOverviewText.f k l) L ∧ L.length ≤ 30 := by
  obtain ⟨L, s1, q1, e1, hL, u1, v1⟩ := warnings_ok h 0 0 (by omega) (by omega)
  refine ⟨L, ?_, hL⟩
  unfold spec_DrawOverviewText.f
  exact Ev.bind (f := fun k t => _) e1 (Ev.now _)
theorem ovT_size : ∀ (L : List S25) (s : ByteArray), (∀ w ∈ L, Ov.okW w = true) → (Ov.ovT L s).size ≤ s.size + 1001 * L.length
  | [], s, _ => by rw [Ov.ovT]; omega
  | x :: L, s, h => by
    have h1 := ovT_size L (s ++ (Ov.wT x ++ Ov.nlB)) fun w hw => h w (List.mem_cons_of_mem _ hw)
    have h2 := Ov.wT_size (h x (List.mem_cons_self ..))
    rw [Ov.ovT, List.length_cons]
    rw [ba_size_app, ba_size_app, Ov.nlB_size] at h1
    omega
theorem overR_size (L : List S25) : (Ov.overR L).1.size ≤ 100000 := by
  unfold Ov.overR
  split
  · rename_i ho
    split
    · show (13 : Nat) ≤ 100000
      omega
    · have h1 := ovT_size L ⟨#[]⟩ (Ov.over_mem ho)
      have h2 := (Ov.over_ok ho).1
      have h3 : (⟨#[]⟩ : ByteArray).size = 0 := rfl
      dsimp only
      omega
  · exact Nat.zero_le _
theorem drawPO_ok {l : List Int} (h : Cod l) : ∃ t, Ev (fun k => spec_DrawParseOverview.f k l) t ∧ t.size ≤ 1000002 := by
  unfold spec_DrawParseOverview.f
  obtain ⟨L, s1, q1, e1, hL, u1, v1⟩ := warnings_ok h 0 0 (by omega) (by omega)
  have hz := overR_size L
  have hw := Ov.ev_specOver L (by omega)
  obtain ⟨t, s2, q2, e2, u2, v2⟩ := one_ok h s1 q1 (by omega) (by omega) 4
  obtain ⟨r, s3, q3, e3, hr⟩ := spoilt_okT h s2 q2 (by omega) (by omega) (Ov.overR L).1 (⟨#[32, 48, 46, 10]⟩ : ByteArray) (by omega) (by decide) (by decide)
  cases t with
  | true => exact ⟨r, Ev.bind (f := fun k t => _) e1 (Ev.bind (f := fun k t => _) hw (Ev.eq_now fun k => by dsimp only; rw [e2, Option.bind_some, if_pos rfl]; dsimp only; rw [e3, Option.bind_some])), hr⟩
  | false => exact ⟨(Ov.overR L).1, Ev.bind (f := fun k t => _) e1 (Ev.bind (f := fun k t => _) hw (Ev.eq_now fun k => by dsimp only; rw [e2, Option.bind_some, if_neg (by simp)])), by omega⟩
theorem drawHT_ok {l : List Int} (h : Cod l) : ∃ t, spec_DrawHourText.f l = some t := by
  unfold spec_DrawHourText.f
  obtain ⟨x, s1, q1, e1, x0, x1, u1, v1⟩ := pick_ok h 0 0 (by omega) (by omega) 24
  have hx : 0 ≤ Int.tdiv x 11 ∧ Int.tdiv x 11 ≤ 2 := by
    obtain ⟨n, rfl⟩ : ∃ n : Nat, x = (n : Int) := ⟨x.toNat, by omega⟩
    rw [Int.tdiv_eq_ediv_of_nonneg (by omega)]
    omega
  have hw : wrap64 (10 + wrap64 (Int.tdiv x 11)) = 10 + Int.tdiv x 11 := by unfold wrap64; omega
  rw [Option.bind_some, e1, Option.bind_some]
  dsimp only
  rw [hw, if_pos (by omega), if_pos (by show (10 + Int.tdiv x 11 : Int) ≤ 12; omega)]
  obtain ⟨y, s2, q2, e2, _, u2, v2⟩ := among_ok h s1 q1 (by omega) (by omega) (([0, 1, 9, 10, 23, 24, 47, 48, 239, 240, (-1), 241] : List Int).take (10 + Int.tdiv x 11).toNat) (by
    rw [List.length_take]
    have : (10 + Int.tdiv x 11).toNat ≥ 10 := by omega
    show 0 < min _ 12
    omega)
  rw [e2, Option.bind_some]
  exact ⟨_, rfl⟩
theorem ev_rW (l : List S25) (hl : l.length ≤ 4611686018427387904) : Ev (fun k => laws_rWarnings.f k l l) true := by
  have key : ∀ d i, i + d = l.length → Ev (fun k => laws_rWarnings.l0 k l l (i : Int)) true := by
    intro d
    induction d with
    | zero =>
      intro i hi
      refine Ev.unr ?_
      simp only [laws_rWarnings.l0]
      exact Ev.congr (fun k => if_neg (by omega)) (Ev.now _)
    | succ d ih =>
      intro i hi
      refine Ev.unr ?_
      simp only [laws_rWarnings.l0]
      refine Ev.congr (fun k => if_pos (by omega)) (Ev.congr (fun k => if_pos (by omega)) (Ev.congr (fun k => if_pos (by omega)) (Ev.congr (fun k => if_neg (by simp)) ?_)))
      rw [wrapS i (by omega)]
      exact ih (i + 1) (by omega)
  unfold laws_rWarnings.f
  exact Ev.congr (fun k => if_pos rfl) (key l.length 0 (by omega))
theorem txt_j5 {l : List Int} (hc : Cod l) : Ev (fun k => laws_FnWarningTexts.j5 k l false) true := by
  obtain ⟨h, e⟩ := drawHT_ok hc
  refine Ev.unr ?_
  simp only [laws_FnWarningTexts.j5]
  refine Ev.congr (fun k => if_neg (by decide)) ?_
  refine Ev.bind (f := fun k t => _) (Ev.eq_now fun k => e) ?_
  refine Ev.bind (f := fun k t => _) (Ev.eq_now fun k => implHourText_f h) ?_
  refine Ev.bind (f := fun k t => _) (ev_implParse (hourR h).1) ?_
  refine Ev.bind (f := fun k t => _) (ev_specHourText h) ?_
  refine Ev.congr (fun k => if_pos rfl) (Ev.congr (fun k => if_pos (by rw [beq_self_eq_true])) ?_)
  by_cases c : 0 ≤ h ∧ h ≤ 240
  · obtain ⟨n, rfl⟩ : ∃ n : Nat, h = (n : Int) := ⟨h.toNat, by omega⟩
    have hh : hourR (n : Int) = (hourS n, true) := by unfold hourR; rw [if_pos c, Int.toNat_natCast]
    rw [hh]
    dsimp only
    rw [hourOf_at n (by omega)]
    exact Ev.congr (fun k => if_pos rfl) (Ev.congr (fun k => if_pos rfl) (Ev.eq_now fun k => by rw [beq_self_eq_true]))
  · have hh : hourR h = (⟨#[]⟩, false) := by unfold hourR; rw [if_neg c]
    rw [hh]
    exact Ev.congr (fun k => if_neg (by simp)) (Ev.now _)
theorem txt_j4 {l : List Int} (hc : Cod l) : Ev (fun k => laws_FnWarningTexts.j4 k l false) true := by
  obtain ⟨t, e, ht⟩ := drawPO_ok hc
  obtain ⟨Y, hS, hI, hl, _⟩ := Ov.ev_po t (by omega)
  refine Ev.unr ?_
  simp only [laws_FnWarningTexts.j4]
  refine Ev.congr (fun k => if_neg (by decide)) ?_
  refine Ev.bind (f := fun k t => _) e ?_
  refine Ev.bind (f := fun k t => _) hI ?_
  refine Ev.bind (f := fun k t => _) hS ?_
  refine Ev.congr (fun k => if_neg (by simp)) ?_
  refine Ev.bind (f := fun k t => _) (ev_rW Y.1 (by omega)) ?_
  exact txt_j5 hc
theorem txt_j2 {l : List Int} (hc : Cod l) : Ev (fun k => laws_FnWarningTexts.j2 k l false) true := by
  obtain ⟨L, e, hL⟩ := drawOv_ok hc
  have hz := overR_size L
  obtain ⟨Y, hS, hI, hl, hR⟩ := Ov.ev_po (Ov.overR L).1 (by omega)
  refine Ev.unr ?_
  simp only [laws_FnWarningTexts.j2]
  refine Ev.congr (fun k => if_neg (by decide)) ?_
  refine Ev.bind (f := fun k t => _) e ?_
  refine Ev.bind (f := fun k t => _) (Ov.ev_implOver L (by omega)) ?_
  refine Ev.bind (f := fun k t => _) (Ov.ev_specOver L (by omega)) ?_
  refine Ev.congr (fun k => if_pos rfl) ?_
  rw [bne_self_eq_false]
  refine Ev.unr ?_
  simp only [laws_FnWarningTexts.j3]
  refine Ev.congr (fun k => if_neg (by decide)) ?_
  refine Ev.bind (f := fun k t => _) hI ?_
  by_cases ho : Ov.overB L = true
  · have h2 : (Ov.overR L).2 = true := by
      unfold Ov.overR
      rw [if_pos ho]
      split <;> rfl
    have hY : Y = (L, true) := Ov.reads_back L ho Y hR fun hn => by
      refine Ev.uniq hI ?_
      unfold impl_ParseOverview.f
      exact Ev.congr (fun k => if_pos (beq_iff_eq.2 hn)) (Ev.now _)
    refine Ev.congr (fun k => if_pos h2) ?_
    rw [hY]
    refine Ev.congr (fun k => if_pos rfl) ?_
    refine Ev.bind (f := fun k t => _) (ev_rW L (by omega)) ?_
    exact txt_j4 hc
  · have h2 : (Ov.overR L).2 = false := by
      unfold Ov.overR
      rw [if_neg ho]
    exact Ev.congr (fun k => if_neg (by rw [h2]; simp)) (txt_j4 hc)
theorem txt_j1 {l : List Int} (hc : Cod l) : Ev (fun k => laws_FnWarningTexts.j1 k l false) true := by
  obtain ⟨t, e, ht⟩ := drawPW_ok hc
  obtain ⟨X, hX, pX⟩ := ev_specPW t (by omega)
  obtain ⟨Y, hY, pY⟩ := ev_implPW t (by omega)
  obtain rfl := PW_uniq pX pY
  refine Ev.unr ?_
  simp only [laws_FnWarningTexts.j1]
  refine Ev.congr (fun k => if_neg (by decide)) ?_
  refine Ev.bind (f := fun k t => _) e ?_
  refine Ev.bind (f := fun k t => _) hY ?_
  refine Ev.bind (f := fun k t => _) hX ?_
  refine Ev.congr (fun k => if_neg (by simp)) ?_
  rw [bne_self_eq_false]
  exact txt_j2 hc
end Go.Proofs.YtleadjbfcenofaaGreatDoor.Q
namespace Go.Proofs.YtleadjbfcenofaaGreatDoor.Pure
open Go.RowKit Go.Proofs.YtleadjbfcenofaaGreatDoorW.PrintWords Go.Proofs.YtleadjbfcenofaaGreatDoor.Tells Go.Proofs.YtleadjbfcenofaaGreatDoor.Q Go.Proofs.YtleadjbfcenofaaGreatDoor.Gen
theorem FnWarningTexts : ∀ (l0 : List Int), l0.length ≤ maxLen → (∀ x ∈ l0, (0 ≤ x ∧ x ≤ 255)) → ∃ k, laws_FnWarningTexts.f k l0 = some true := by
  intro l hl hb
  refine Ev.rounds ?_
  unfold laws_FnWarningTexts.f laws_rBig.f
  simp only [Option.bind_some, decide_eq_true_eq]
  by_cases hbig : (l.length : Int) > 65536
  · exact Ev.congr (fun k => if_pos hbig) (Ev.now _)
  · refine Ev.congr (fun k => if_neg hbig) ?_
    have hc : Cod l := ⟨by omega, hb⟩
    obtain ⟨a, b, c, d, e, f, hd⟩ := drawWText_okT hc
    refine Ev.bind (f := fun k t => _) hd ?_
    refine Ev.bind (f := fun k t => _) (Ev.eq_now fun k => implWT_f a b c d e f) ?_
    refine Ev.bind (f := fun k t => _) (ev_specWT a b c d e f) ?_
    refine Ev.congr (fun k => if_pos rfl) ?_
    rw [bne_self_eq_false]
    have hz := wtR_size a b c d e f
    obtain ⟨Y, hY, pY⟩ := ev_implPW (wtR a b c d e f).1 (by omega)
    refine Ev.unr ?_
    simp only [laws_FnWarningTexts.j0]
    refine Ev.congr (fun k => if_neg (by decide)) ?_
    refine Ev.bind (f := fun k t => _) hY ?_
    by_cases o : okB a b c d e f = true
    · have h2 : wtR a b c d e f = (warnR a b c d e f, true) := by unfold wtR; rw [if_pos o]
      have hX : Y = (a, b, c, d, e, f, true) := by
        rw [h2] at pY
        exact PW_uniq pY (.inl ⟨a, b, c, d, e, f, rfl, o, rfl⟩)
      rw [hX, h2]
      refine Ev.congr (fun k => if_pos rfl) (Ev.congr (fun k => if_pos rfl) ?_)
      simp only [beq_self_eq_true, Bool.not_true, Bool.or_self]
      exact txt_j1 hc
    · have h2 : wtR a b c d e f = (⟨#[]⟩, false) := by unfold wtR; rw [if_neg o]
      rw [h2]
      exact Ev.congr (fun k => if_neg (by simp)) (txt_j1 hc)
end Go.Proofs.YtleadjbfcenofaaGreatDoor.Pure
