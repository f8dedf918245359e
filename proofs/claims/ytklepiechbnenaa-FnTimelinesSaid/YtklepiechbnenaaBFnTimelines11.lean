/- Texts of this seat, put together: PureFnTimelines. -/
import Derived.Test.YtklepiechbnenaaZFnTimelines
import Derived.Test.YtklepiechbnenaaBFnTimelines7
import Derived.Test.YtklepiechbnenaaBFnTimelines8
import Derived.Test.YtklepiechbnenaaBFnTimelines9
import Derived.Test.YtklepiechbnenaaBFnTimelines10
/- The timeline of an area and a topic gives its levels back, and the level of an area is the greatest one: for every drawn input. -/
set_option linter.unusedVariables false
set_option linter.unusedSimpArgs false
namespace Go.Proofs.Ytklepiechbnenaa.Q
open Go.RowKit Go.Proofs.YtklepiechbnenaaW.PrintWords Go.Proofs.Ytklepiechbnenaa.Gen
theorem drawTTL_ok {l : List Int} (h : Cod l) : ∃ (L : List S31) (t a : Int), Ev (fun k => spec_DrawTopicTimeline.f k l) (L, t, a) ∧ L.length ≤ 40 := by
  unfold spec_DrawTopicTimeline.f spec_l1Cur_topic15.f spec_l1Cur_area15.f
  obtain ⟨L, s1, q1, e1, hL, u1, v1⟩ := touching_ok h 0 0 (by omega) (by omega)
  obtain ⟨t, s2, q2, e2, _, u2, v2⟩ := among_ok h s1 q1 (by omega) (by omega) [1, 2, 3, 1, 2, 3, 5, 0, 6] (by simp)
  obtain ⟨a, s3, q3, e3, _, u3, v3⟩ := among_ok h s2 q2 (by omega) (by omega) [1, 2, 3, 1, 2, 3, 9, 0, 10] (by simp)
  refine ⟨L, t, a, Ev.bind (f := fun k t => _) e1 ?_, hL⟩
  simp only [e2, e3, Option.bind_some]
  exact Ev.now _
theorem drawATL_ok {l : List Int} (h : Cod l) : ∃ (L : List S31) (a : Int), Ev (fun k => spec_DrawAreaTimeline.f k l) (L, a) ∧ L.length ≤ 40 := by
  unfold spec_DrawAreaTimeline.f spec_l1Cur_area15.f
  obtain ⟨L, s1, q1, e1, hL, u1, v1⟩ := touching_ok h 0 0 (by omega) (by omega)
  obtain ⟨a, s3, q3, e3, _, u3, v3⟩ := among_ok h s1 q1 (by omega) (by omega) [1, 2, 3, 1, 2, 3, 9, 0, 10] (by simp)
  refine ⟨L, a, Ev.bind (f := fun k t => _) e1 ?_, hL⟩
  simp only [e3, Option.bind_some]
  exact Ev.now _
theorem drawAL_ok {l : List Int} (h : Cod l) : ∃ (L : List S31) (a t : Int), Ev (fun k => spec_DrawAreaLevel.f k l) (L, a, t) ∧ L.length ≤ 40 := by
  unfold spec_DrawAreaLevel.f spec_l1Cur_area15.f
  obtain ⟨L, s1, q1, e1, hL, u1, v1⟩ := warnings_ok h 0 0 (by omega) (by omega)
  obtain ⟨a, s3, q3, e3, _, u3, v3⟩ := among_ok h s1 q1 (by omega) (by omega) [1, 2, 3, 1, 2, 3, 9, 0, 10] (by simp)
  obtain ⟨t, s4, q4, e4, _, _⟩ := hour15_ok h s3 q3 (by omega) (by omega)
  refine ⟨L, a, t, Ev.bind (f := fun k t => _) e1 ?_, by omega⟩
  simp only [e3, e4, Option.bind_some]
  exact Ev.now _
theorem lvl_le {l : List S31} (hc : consB l = true) (t a h : Int) : lvl l t a h ≤ 3 := by
  rw [lvl_find]
  cases hf : l.find? (holdsB t a h) with
  | none => show (0 : Int) ≤ 3; omega
  | some y =>
    have := (okW_iff y).1 (consB_ok hc y (List.mem_of_find?_eq_some hf))
    show y.f2 ≤ 3
    omega
def backW (t a : Int) (s : List S50) : List S31 := (List.range s.length).map (ofS t a s)
theorem backW_len (t a : Int) (s : List S50) : (backW t a s).length = s.length := by unfold backW; simp
theorem backW_get (t a : Int) (s : List S50) (i : Nat) (hi : i < s.length) : (backW t a s).getD i z31 = ofS t a s i := by
  unfold backW
  rw [List.getD_eq_getElem?_getD]
  simp [hi]
theorem runS_of (t a : Int) (s : List S50) (hb : ∀ i, i < s.length → badS s i = false) : runS t a s s.length = chkR (backW t a s) := by
  unfold runS
  refine run_inv (n := s.length) (fun i (w : List S31) => w = (List.range i).map (ofS t a s)) (fun b => b = chkR (backW t a s)) ?_ ?_ ?_ s.length 0 [] (by omega) (by simp)
  · intro i w b hi _ h
    obtain ⟨e, _⟩ := inl_of h
    rw [hb i hi] at e; cases e
  · intro i w w' hi hw h
    obtain ⟨_, e⟩ := inr_of h
    rw [← e, hw, List.range_succ, List.map_append]
    rfl
  · intro w hw
    rw [hw]; rfl
/-- What a timeline's warnings are. -/
theorem back_cons {p : Int → Int} (hp : ∀ h, 0 ≤ p h ∧ p h ≤ 3) {t a : Int} (ht : 1 ≤ t ∧ t ≤ 5) (ha : 1 ≤ a ∧ a ≤ 9) (hn : (tlF p 240).length ≤ 12) : consB (backW t a (tlF p 240)) = true := by
  have hk := tlOk p 240 (Nat.le_refl _)
  generalize tlF p 240 = s at hn hk
  rw [consB_iff, backW_len]
  refine ⟨hn, fun j hj => ?_⟩
  rw [backW_get t a s j hj]
  obtain ⟨h1, h2, h3, h4, h5⟩ := hk.each j hj
  have hv := h5 (s.getD j z50).f0.toNat (by omega) (by omega)
  have hb := hp ((s.getD j z50).f0.toNat : Int)
  refine ⟨?_, ?_, fun i hi => ?_⟩
  · rw [okW_iff]
    unfold ofS
    dsimp only
    omega
  · by_cases e : j = 0
    · exact .inl e
    · right
      rw [backW_get t a s (j - 1) (by omega)]
      unfold ofS
      dsimp only
      omega
  · rw [backW_get t a s i (by omega), Bool.eq_false_iff]
    intro hm
    rw [meetB_iff] at hm
    have := hk.order i j hi hj
    unfold ofS at hm
    dsimp only at hm
    omega
theorem back_from {p : Int → Int} (hp : ∀ h, 0 ≤ p h ∧ p h ≤ 3) {t a : Int} (ht : 1 ≤ t ∧ t ≤ 5) (ha : 1 ≤ a ∧ a ≤ 9) (hn : (tlF p 240).length ≤ 12) : fromR t a (tlF p 240) = (backW t a (tlF p 240), true) := by
  have hk := tlOk p 240 (Nat.le_refl _)
  have hc := back_cons hp ht ha hn
  unfold fromR
  rw [if_pos ⟨⟨ht, ha⟩, hn⟩, runS_of]
  · unfold chkR; rw [if_pos hc]
  · intro i hi
    unfold badS
    by_cases e : 0 < i
    · have := hk.order (i - 1) i (by omega) hi
      rw [decide_eq_false (show ¬ ((tlF p 240).getD (i - 1) z50).f1 > ((tlF p 240).getD i z50).f0 by omega), Bool.and_false]
    · rw [decide_eq_false e]; rfl
theorem back_lvl {p : Int → Int} (hp : ∀ h, 0 ≤ p h ∧ p h ≤ 3) {t a : Int} (ht : 1 ≤ t ∧ t ≤ 5) (ha : 1 ≤ a ∧ a ≤ 9) (hn : (tlF p 240).length ≤ 12) (q : Nat) (hq : q < 240) : lvl (backW t a (tlF p 240)) t a (q : Int) = p (q : Int) := by
  have hc := back_cons hp ht ha hn
  have hk := tlOk p 240 (Nat.le_refl _)
  generalize tlF p 240 = s at hn hk hc
  by_cases h0 : p (q : Int) = 0
  · rw [h0]
    refine lvl_zero fun i hi => ?_
    rw [Bool.eq_false_iff]
    intro e
    have h := (holds_iff (cons_at hc hi) t a q).1 e
    rw [backW_len] at hi
    rw [backW_get t a s i hi] at h
    obtain ⟨h1, h2, h3, h4, h5⟩ := hk.each i hi
    unfold ofS at h
    dsimp only at h
    exact h4 (by rw [← h5 q h.2.2.1 h.2.2.2, h0])
  · obtain ⟨i, hi, h1, h2⟩ := hk.all q hq h0
    have hil : i < (backW t a s).length := by rw [backW_len]; exact hi
    have hh : holdsB t a (q : Int) ((backW t a s).getD i z31) = true := by
      rw [holds_iff (cons_at hc hil), backW_get t a s i hi]
      unfold ofS
      exact ⟨rfl, rfl, h1, h2⟩
    rw [lvl_at hc hil hh, backW_get t a s i hi]
    exact ((hk.each i hi).2.2.2.2 q h1 h2).symm
theorem hours_cnt {l : List S31} (hc : consB l = true) (a : Int) : hoursN l a = cntP (great l a) 240 := by
  unfold hoursN
  refine run_inv (n := 240) (fun i (s : Int) => s = cntP (great l a) i) (fun b => b = cntP (great l a) 240) (fun i s b _ _ h => by cases h) ?_ (fun s hs => hs) 240 0 0 (by omega) rfl
  intro i s s' hi hs h
  cases h
  rw [hs]
  show _ = cntP (great l a) i + if great l a (i : Int) = 0 then 0 else 1
  have hg := great_pos hc a (i : Int)
  have h0 := great_nonneg l a (i : Int)
  by_cases e : hitB l a (i : Int) = true
  · have : 0 < great l a (i : Int) := hg.2 e
    rw [if_pos e, if_neg (by omega)]
  · have : ¬ 0 < great l a (i : Int) := fun x => e (hg.1 x)
    rw [if_neg e, if_pos (by omega)]
    omega
end Go.Proofs.Ytklepiechbnenaa.Q
namespace Go.Proofs.Ytklepiechbnenaa.Pure
open Go.RowKit Go.Proofs.YtklepiechbnenaaW.PrintWords Go.Proofs.Ytklepiechbnenaa.Tells Go.Proofs.Ytklepiechbnenaa.Q Go.Proofs.Ytklepiechbnenaa.Gen
theorem rdSt (l : List S50) (i : Nat) : rd_T50 l (i : Int) = l.getD i z50 := rfl
theorem times_l1 (y : List S31) (hy : y.length ≤ 1048576) (a : Int) (b : Bool) (p : Int → Int) (h : Nat) (hh : h ≤ 240) (r : Bool)
    (hr : Ev (fun k => (impl_WarningHours.f k y a).bind fun bt732 => (if (bt732.2 == b) = true then (if b = true then (some (bt732.1 == sumS (tlF p h))) else (some true)) else (none))) r) : Ev (fun k => laws_FnTimelines.l1 k y a (tlF p h) b 0 0) r := by
  have hk := tlOk p h hh
  have hl := tlF_len p h
  have hcnt := sum_cnt p h hh
  generalize tlF p h = s at hk hl hr
  have key := ev_fold (fun k (n : Int) i => laws_FnTimelines.l1 k y a s b n i) s.length (fun n i => n + (s.getD i z50).f1 - (s.getD i z50).f0) (fun _ => r) (fun i n => 0 ≤ n ∧ n ≤ 240 * (i : Int) ∧ n = (List.range i).foldl (fun n i => n + (s.getD i z50).f1 - (s.getD i z50).f0) 0)
    (by
      intro i n r' hi hn
      obtain ⟨h1, h2, h3, _, _⟩ := hk.each i hi
      refine ⟨⟨by omega, by omega, ?_⟩, fun he => Ev.congr (fun k => ?_) he⟩
      · rw [List.range_succ, List.foldl_append, ← hn.2.2]
        rfl
      · simp only [laws_FnTimelines.l1]
        rw [if_pos (by omega), if_pos (by omega), rdSt, wrapS i (by omega), show wrap64 (wrap64 (n + (s.getD i z50).f1) - (s.getD i z50).f0) = n + (s.getD i z50).f1 - (s.getD i z50).f0 from by unfold wrap64; omega])
    (by
      intro n hn
      have e : n = sumS s := by
        rw [hn.2.2]
        exact foldl_getD s z50 (fun n y => n + y.f1 - y.f0) 0
      subst e
      refine Ev.congr (fun k => ?_) hr
      simp only [laws_FnTimelines.l1]
      rw [if_neg (by omega)])
    0 ⟨by omega, by omega, rfl⟩
  exact key
theorem times_j5 {l : List Int} (hc : Cod l) (b : Bool) (hb : b = false) : Ev (fun k => laws_FnTimelines.j5 k l b) true := by
  subst hb
  obtain ⟨L, a, e, hL⟩ := drawATL_ok hc
  refine Ev.unr ?_
  simp only [laws_FnTimelines.j5]
  refine Ev.congr (fun k => if_neg (by simp)) ?_
  refine Ev.bind (f := fun k t => _) e ?_
  refine Ev.bind (f := fun k t => _) (ev_implAreaTL L (by omega) a) ?_
  refine Ev.bind (f := fun k t => _) (ev_specAreaTL L (by omega) a) ?_
  have hlen := areaTLR_len L a
  refine Ev.congr (fun k => if_neg (by simp)) ?_
  refine Ev.bind (f := fun k t => _) (ev_vS (areaTLR L a).1 (by omega)) (Ev.unr ?_)
  simp only [laws_FnTimelines.j6, Bool.not_true]
  refine Ev.congr (fun k => if_neg (by simp)) ?_
  by_cases h : consB L = true ∧ 1 ≤ a ∧ a ≤ 9
  · have ea : areaTLR L a = (tlF (great L a) 240, true) := if_pos h
    rw [ea]
    refine times_l1 L (by omega) a true (great L a) 240 (Nat.le_refl _) true ?_
    refine Ev.bind (f := fun k t => _) (ev_implHours L (by omega) a) ?_
    have eh : hoursV L a = (hoursN L a, true) := if_pos h
    rw [eh]
    refine Ev.congr (fun k => if_pos (by simp)) (Ev.congr (fun k => if_pos (by trivial)) ?_)
    rw [hours_cnt h.1 a, sum_cnt (great L a) 240 (Nat.le_refl _)]
    simp only [beq_self_eq_true]
    exact Ev.now _
  · have ea : areaTLR L a = ([], false) := if_neg h
    rw [ea]
    have key := times_l1 L (by omega) a false (fun _ => 0) 0 (by omega) true (by
      refine Ev.bind (f := fun k t => _) (ev_implHours L (by omega) a) ?_
      have eh : hoursV L a = (0, false) := if_neg h
      rw [eh]
      exact Ev.congr (fun k => if_pos (by simp)) (Ev.congr (fun k => if_neg (by simp)) (Ev.now _)))
    exact key
theorem times_step {l : List Int} (L : List S31) (hL : L.length ≤ 1048576) (a h v : Int) (hc : consB L = true) (ha : 1 ≤ a ∧ a ≤ 9) (hh : 0 ≤ h ∧ h ≤ 239) (m : Int) (t : Nat) (ht : 1 ≤ t ∧ t ≤ 5) (r : Bool)
    (hr : Ev (fun k => laws_FnTimelines.l0 k l L a h v true (mx m (lvl L (t : Int) a h)) ((t + 1 : Nat) : Int)) r) : Ev (fun k => laws_FnTimelines.l0 k l L a h v true m (t : Int)) r := by
  refine Ev.unr ?_
  simp only [laws_FnTimelines.l0]
  refine Ev.congr (fun k => if_pos (by omega)) (Ev.unr ?_)
  simp only [laws_FnTimelines.j4]
  refine Ev.congr (fun k => if_pos (by trivial)) ?_
  refine Ev.bind (f := fun k t => _) (ev_implTopicLevel L (by omega) (t : Int) a h) ?_
  have e : topicLevelV L (t : Int) a h = (lvl L (t : Int) a h, true) := if_pos ⟨hc, by omega, ha, hh⟩
  rw [e]
  refine Ev.congr (fun k => if_pos (by trivial)) ?_
  rw [wrapS t (by omega)]
  unfold mx at hr
  by_cases c : lvl L (t : Int) a h > m
  · rw [if_pos (by omega)] at hr
    exact Ev.congr (fun k => if_pos c) hr
  · rw [if_neg (by omega)] at hr
    exact Ev.congr (fun k => if_neg c) hr
theorem times_j1 {l : List Int} (hc : Cod l) : Ev (fun k => laws_FnTimelines.j1 k l) true := by
  obtain ⟨L, a, h, e, hL⟩ := drawAL_ok hc
  refine Ev.unr ?_
  simp only [laws_FnTimelines.j1]
  refine Ev.bind (f := fun k t => _) e ?_
  refine Ev.bind (f := fun k t => _) (ev_implAreaLevel L (by omega) a h) ?_
  refine Ev.bind (f := fun k t => _) (ev_specAreaLevel L (by omega) a h) ?_
  refine Ev.congr (fun k => if_pos rfl) (Ev.unr ?_)
  simp only [laws_FnTimelines.j2, bne_self_eq_false]
  refine Ev.congr (fun k => if_neg (by simp)) ?_
  by_cases g : consB L = true ∧ (1 ≤ a ∧ a ≤ 9) ∧ (0 ≤ h ∧ h ≤ 239)
  · have ea : areaLevelV L a h = (great L a h, true) := if_pos g
    rw [ea]
    dsimp only
    refine times_step L (by omega) a h _ g.1 g.2.1 g.2.2 0 1 (by omega) true ?_
    refine times_step L (by omega) a h _ g.1 g.2.1 g.2.2 _ 2 (by omega) true ?_
    refine times_step L (by omega) a h _ g.1 g.2.1 g.2.2 _ 3 (by omega) true ?_
    refine times_step L (by omega) a h _ g.1 g.2.1 g.2.2 _ 4 (by omega) true ?_
    refine times_step L (by omega) a h _ g.1 g.2.1 g.2.2 _ 5 (by omega) true ?_
    rw [show mx (mx (mx (mx (mx 0 (lvl L ((1 : Nat) : Int) a h)) (lvl L ((2 : Nat) : Int) a h)) (lvl L ((3 : Nat) : Int) a h)) (lvl L ((4 : Nat) : Int) a h)) (lvl L ((5 : Nat) : Int) a h) = great L a h from (great_eq L a h).symm]
    refine Ev.unr ?_
    simp only [laws_FnTimelines.l0]
    refine Ev.congr (fun k => if_neg (by omega)) (Ev.unr ?_)
    simp only [laws_FnTimelines.j4]
    refine Ev.congr (fun k => if_neg (by simp)) (Ev.congr (fun k => if_pos (by trivial)) ?_)
    exact times_j5 hc _ (by simp)
  · have ea : areaLevelV L a h = (0, false) := if_neg g
    rw [ea]
    dsimp only
    refine Ev.unr ?_
    simp only [laws_FnTimelines.l0]
    refine Ev.congr (fun k => if_pos (by omega)) (Ev.unr ?_)
    simp only [laws_FnTimelines.j4]
    refine Ev.congr (fun k => if_neg (by simp)) (Ev.congr (fun k => if_neg (by simp)) ?_)
    exact times_j5 hc _ rfl
theorem FnTimelines : ∀ (l0 : List Int), l0.length ≤ maxLen → (∀ x ∈ l0, (0 ≤ x ∧ x ≤ 255)) → ∃ k, laws_FnTimelines.f k l0 = some true := by
  intro l hl hb
  refine Ev.rounds ?_
  unfold laws_FnTimelines.f laws_vBig.f
  simp only [Option.bind_some, decide_eq_true_eq]
  by_cases hbig : (l.length : Int) > 65536
  · exact Ev.congr (fun k => if_pos hbig) (Ev.now _)
  · refine Ev.congr (fun k => if_neg hbig) ?_
    have hc : Cod l := ⟨by omega, hb⟩
    obtain ⟨L, t, a, e, hL⟩ := drawTTL_ok hc
    refine Ev.bind (f := fun k t => _) e ?_
    refine Ev.bind (f := fun k t => _) (ev_implTopicTL L (by omega) t a) ?_
    refine Ev.bind (f := fun k t => _) (ev_specTopicTL L (by omega) t a) ?_
    have hlen := topicTLR_len L t a
    refine Ev.congr (fun k => if_neg (by simp)) ?_
    refine Ev.bind (f := fun k t => _) (ev_vS (topicTLR L t a).1 (by omega)) (Ev.unr ?_)
    simp only [laws_FnTimelines.j0, Bool.not_true]
    refine Ev.congr (fun k => if_neg (by simp)) ?_
    by_cases g : consB L = true ∧ (1 ≤ t ∧ t ≤ 5) ∧ 1 ≤ a ∧ a ≤ 9
    · have et : topicTLR L t a = (tlF (lvl L t a) 240, true) := if_pos g
      have hp : ∀ h, 0 ≤ lvl L t a h ∧ lvl L t a h ≤ 3 := fun h => ⟨lvl_nonneg g.1 t a h, lvl_le g.1 t a h⟩
      have hl240 := tlF_len (lvl L t a) 240
      rw [et]
      refine Ev.congr (fun k => if_pos (by trivial)) ?_
      refine Ev.bind (f := fun k t => _) (ev_implFrom t a (tlF (lvl L t a) 240)) ?_
      by_cases hn : (tlF (lvl L t a) 240).length ≤ 12
      · rw [back_from hp g.2.1 g.2.2 hn]
        have hcb := back_cons hp g.2.1 g.2.2 hn
        have hbl := backW_len t a (tlF (lvl L t a) 240)
        refine Ev.congr (fun k => if_pos (by trivial)) ?_
        refine Ev.bind (f := fun k t => _) (ev_implTopicTL (backW t a (tlF (lvl L t a) 240)) (by omega) t a) ?_
        have eb : topicTLR (backW t a (tlF (lvl L t a) 240)) t a = (tlF (lvl L t a) 240, true) := by
          unfold topicTLR
          rw [if_pos ⟨hcb, g.2⟩]
          exact congrArg (fun z => (z, true)) (tlF_congr 240 (fun q hq => back_lvl hp g.2.1 g.2.2 hn q hq))
        rw [eb]
        refine Ev.congr (fun k => if_pos (by trivial)) ?_
        refine Ev.bind (f := fun k t => _) (ev_vS (tlF (lvl L t a) 240) (by omega)) ?_
        refine Ev.congr (fun k => if_pos rfl) (Ev.congr (fun k => if_pos (by rw [hbl])) ?_)
        exact times_j1 hc
      · have ef : fromR t a (tlF (lvl L t a) 240) = ([], false) := if_neg (fun c => hn c.2)
        rw [ef]
        refine Ev.congr (fun k => if_neg (by simp)) (Ev.congr (fun k => if_neg (by dsimp only; omega)) ?_)
        exact times_j1 hc
    · have et : topicTLR L t a = ([], false) := if_neg g
      rw [et]
      exact Ev.congr (fun k => if_neg (by simp)) (times_j1 hc)
end Go.Proofs.Ytklepiechbnenaa.Pure
