-- Printed by a program of this session (wip/tools/seatprint.py) that runs over the kit's print.
import Derived.Test.YtfijknfdimcjhaaQ0
import Derived.Test.YtfijknfdimcjhaaQf70
import Derived.Test.YtfijknfdimcjhaaQf62
namespace Go.Proofs.Ytfijknfdimcjhaa.Q
open Go.RowKit Go.Proofs.YtfijknfdimcjhaaW.PrintWords Go.Proofs.YtfijknfdimcjhaaW.PrintLast Go.Proofs.YtfijknfdimcjhaaW.PrintMore
attribute [local go_sem] max2_int min2_int max_two min_two max_three min_three max_four min_four   -- for this text's walks alone
set_option linter.unusedVariables false
set_option linter.unusedSimpArgs false

/-! ### impl_SameStates: function 32 -/
def impl_SameStates.c.T0 : Bool × List (List Nat × List Nat) := (true, [([], []), ([0], [0]), ([1], [1]), ([1], [1]), ([1], [1]), ([1], [1]), ([2, 3, 4, 5, 1, 1], [1, 2, 3, 4, 5]), ([1], [1]), ([1], [1]), ([1], [1]), ([1], [1]), ([7, 8, 9, 10, 6, 1], [1, 7, 8, 9, 10]), ([6, 11, 1], [1, 6, 11]), ([1, 12], [1, 12]), ([13, 11, 0, 1, 2, 3, 4, 5, 6, 7, 8, 9, 10, 11, 12, 13], [13])])
def impl_SameStates.c.B0 : List Nat := [0, 1, 3, 3, 3, 3, 63, 3, 3, 3, 3, 2047, 4095, 8191, 16383]
theorem impl_SameStates.c.tab0 : rtab .any (opsOf Try.f66 0) = impl_SameStates.c.T0 := by kernel_rfl
theorem impl_SameStates.c.bits0 : waitsOk impl_SameStates.c.T0.2 impl_SameStates.c.B0 = true := by kernel_rfl
theorem cell_drewS {w : World} {a : Addr} {v : Value} (h : w.cell? a = some v) : w.drew.cell? a = some v := by simpa using h
/-- What a visit leaves: the one variable is set, all else that was there lies as it lay. -/
def Visited (Bs : Nat) (b : Bool) (W : World) (e : Ending) (w' : World) : Prop := e = .returned (.tuple #[]) ∧ ∃ w2, Below W.heap.size W w2 ∧ w' = w2.setCell ⟨Bs, 0, none⟩ (.bool b)
set_option maxHeartbeats 2000000 in
set_option maxRecDepth 100000 in
theorem impl_SameStates.visit (A0 A1 : Option Addr) (c0 c1 : Nat) (l0 l1 : List S25) (Bs Ba Bb : Nat) (s : Bool) (t a h : Int) (W : World) (hr0 : Kd.C k25 W A0 l0.length l0) (hc0 : l0.length ≤ c0) (hr1 : Kd.C k25 W A1 l1.length l1) (hc1 : l1.length ≤ c1)
    (hBs : W.heap[Bs]? = some (.cells #[.bool s] 4 (0, 0))) (hBa : W.heap[Ba]? = some (.cells #[.slice A0 l0.length c0] 31 (0, 0))) (hBb : W.heap[Bb]? = some (.cells #[.slice A1 l1.length c1] 31 (0, 0)))
    (h0 : l0.length ≤ 4611686018427387904) (h1 : l1.length ≤ 4611686018427387904) :
    Calls Try.prog 66 #[.int .i64 t, .int .i64 a, .int .i64 h, .pointer (some ⟨Bs, 0, none⟩), .pointer (some ⟨Ba, 0, none⟩), .pointer (some ⟨Bb, 0, none⟩)] W (Visited Bs (s && (lvl l0 t a h == lvl l1 t a h)) W) := by
  have hlt : Bs < W.heap.size := by
    rcases Nat.lt_or_ge Bs W.heap.size with h | h
    · exact h
    · rw [Array.getElem?_eq_none h] at hBs; cases hBs
  have s0 : W.cell? ⟨Bs, 0, none⟩ = some (.bool s) := by simp [World.cell?, hBs]
  have s1 : W.cell? ⟨Ba, 0, none⟩ = some (.slice A0 l0.length c0) := by simp [World.cell?, hBa]
  have s2 : W.cell? ⟨Bb, 0, none⟩ = some (.slice A1 l1.length c1) := by simp [World.cell?, hBb]
  have hf0 : W.frozen? ⟨Bs, 0, none⟩ = false := by simp [World.frozen?, hBs]
  have HR0 := Aside0.mk hr0
  have HC0 := Aside0.mk hc0
  have HR1 := Aside0.mk hr1
  have HC1 := Aside0.mk hc1
  obtain ⟨k1, e1⟩ := (ev_topicLevel l0 h0 t a h).rounds
  obtain ⟨k2, e2⟩ := (ev_topicLevel l1 h1 t a h).rounds
  generalize lvl l0 t a h = r1 at e1 ⊢
  generalize lvl l1 t a h = r2 at e2 ⊢
  have E1 := Aside0.mk e1
  have E2 := Aside0.mk e2
  clear e1 e2 hBs hBa hBb hr0 hr1 hc0 hc1 h0 h1
  have HB := Aside0.mk (Below.refl W.heap.size W).drew
  cases s with
  | true =>
    go_enter Try.func66, Try.ntmps66
    go_wp2_with fail
    refine start_ (n := 15) (S := fun w' => w'.cell? ⟨Bs, 0, none⟩ = some (.bool true) ∧ w'.cell? ⟨Ba, 0, none⟩ = some (.slice A0 l0.length c0) ∧ w'.cell? ⟨Bb, 0, none⟩ = some (.slice A1 l1.length c1)) (ds := [14]) #[false, false, false, false, false, false, false, false, false, false, false, false, false, false, false] (by kernel_rfl) rfl rfl ⟨(cell_drewS s0), (cell_drewS s1), (cell_drewS s2)⟩ (fun hHeld => ?_)
    refine with_tabW impl_SameStates.c.tab0 impl_SameStates.c.bits0 (fun HT_ HW_ => ?_)
    generalize W.drew = w1 at HB hHeld ⊢
    refine take_ (i := 0) (N := some 9) (v := ?_) (a' := ?_) #[true, false, false, false, false, false, false, false, false, false, false, false, false, false, false] rfl rfl (take_ofW HT_.out HW_.out (by kernel_rfl)) (fun _ _ _ h => h) (Or.inl ⟨by rfl, ?_⟩) hHeld ?_ ?_
    rotate_left
    · rintro w' ⟨s0, s1, s2⟩
      go_simp
      with_reducible rfl
    rotate_left
    · simp only [Act.put, List.setIfInBounds_toArray, List.set_cons_zero, List.set_cons_succ, i64_w, i32_w]
      rfl
    refine pure_ (i := 1) (N := some 10) (v := ?_) (a' := ?_) #[true, true, false, false, false, false, false, false, false, false, false, false, false, false, false] rfl rfl (any_of HT_.out (by kernel_rfl)) (fun _ _ _ h => h) (Or.inl ⟨by rfl, ?_⟩) ?_ ?_
    rotate_left
    · intro w'
      go_simp
      with_reducible rfl
    rotate_left
    · simp only [Act.put, List.setIfInBounds_toArray, List.set_cons_zero, List.set_cons_succ, i64_w, i32_w]
      rfl
    refine pure_ (i := 3) (N := some 12) (v := ?_) (a' := ?_) #[true, true, false, true, false, false, false, false, false, false, false, false, false, false, false] rfl rfl (any_of HT_.out (by kernel_rfl)) (fun _ _ _ h => h) (Or.inl ⟨by rfl, ?_⟩) ?_ ?_
    rotate_left
    · intro w'
      go_simp
      with_reducible rfl
    rotate_left
    · simp only [Act.put, List.setIfInBounds_toArray, List.set_cons_zero, List.set_cons_succ, i64_w, i32_w]
      rfl
    refine pure_ (i := 4) (N := some 13) (v := ?_) (a' := ?_) #[true, true, false, true, true, false, false, false, false, false, false, false, false, false, false] rfl rfl (any_of HT_.out (by kernel_rfl)) (fun _ _ _ h => h) (Or.inl ⟨by rfl, ?_⟩) ?_ ?_
    rotate_left
    · intro w'
      go_simp
      with_reducible rfl
    rotate_left
    · simp only [Act.put, List.setIfInBounds_toArray, List.set_cons_zero, List.set_cons_succ, i64_w, i32_w]
      rfl
    refine pure_ (i := 5) (N := some 14) (v := ?_) (a' := ?_) #[true, true, false, true, true, true, false, false, false, false, false, false, false, false, false] rfl rfl (any_of HT_.out (by kernel_rfl)) (fun _ _ _ h => h) (Or.inl ⟨by rfl, ?_⟩) ?_ ?_
    rotate_left
    · intro w'
      go_simp
      with_reducible rfl
    rotate_left
    · simp only [Act.put, List.setIfInBounds_toArray, List.set_cons_zero, List.set_cons_succ, i64_w, i32_w]
      rfl
    refine pure_ (i := 8) (N := some 17) (v := ?_) (a' := ?_) #[true, true, false, true, true, true, false, false, true, false, false, false, false, false, false] rfl rfl (any_of HT_.out (by kernel_rfl)) (fun _ _ _ h => h) (Or.inl ⟨by rfl, ?_⟩) ?_ ?_
    rotate_left
    · intro w'
      go_simp
      with_reducible rfl
    rotate_left
    · simp only [Act.put, List.setIfInBounds_toArray, List.set_cons_zero, List.set_cons_succ, i64_w, i32_w]
      rfl
    refine pure_ (i := 9) (N := some 18) (v := ?_) (a' := ?_) #[true, true, false, true, true, true, false, false, true, true, false, false, false, false, false] rfl rfl (any_of HT_.out (by kernel_rfl)) (fun _ _ _ h => h) (Or.inl ⟨by rfl, ?_⟩) ?_ ?_
    rotate_left
    · intro w'
      go_simp
      with_reducible rfl
    rotate_left
    · simp only [Act.put, List.setIfInBounds_toArray, List.set_cons_zero, List.set_cons_succ, i64_w, i32_w]
      rfl
    refine pure_ (i := 10) (N := some 19) (v := ?_) (a' := ?_) #[true, true, false, true, true, true, false, false, true, true, true, false, false, false, false] rfl rfl (any_of HT_.out (by kernel_rfl)) (fun _ _ _ h => h) (Or.inl ⟨by rfl, ?_⟩) ?_ ?_
    rotate_left
    · intro w'
      go_simp
      with_reducible rfl
    rotate_left
    · simp only [Act.put, List.setIfInBounds_toArray, List.set_cons_zero, List.set_cons_succ, i64_w, i32_w]
      rfl
    refine take_ (i := 2) (N := some 11) (v := ?_) (a' := ?_) #[true, true, true, true, true, true, false, false, true, true, true, false, false, false, false] rfl rfl (take_ofW HT_.out HW_.out (by kernel_rfl)) (fun _ _ _ h => h) (Or.inl ⟨by rfl, ?_⟩) hHeld ?_ ?_
    rotate_left
    · rintro w' ⟨s0, s1, s2⟩
      go_simp
      with_reducible rfl
    rotate_left
    · simp only [Act.put, List.setIfInBounds_toArray, List.set_cons_zero, List.set_cons_succ, i64_w, i32_w]
      rfl
    refine take_ (i := 7) (N := some 16) (v := ?_) (a' := ?_) #[true, true, true, true, true, true, false, true, true, true, true, false, false, false, false] rfl rfl (take_ofW HT_.out HW_.out (by kernel_rfl)) (fun _ _ _ h => h) (Or.inl ⟨by rfl, ?_⟩) hHeld ?_ ?_
    rotate_left
    · rintro w' ⟨s0, s1, s2⟩
      go_simp
      with_reducible rfl
    rotate_left
    · simp only [Act.put, List.setIfInBounds_toArray, List.set_cons_zero, List.set_cons_succ, i64_w, i32_w]
      rfl
    refine one_ (i := 6) (N := some 15) #[true, true, true, true, true, true, true, true, true, true, true, false, false, false, false] rfl rfl (one_of HT_.out (by kernel_rfl)) (by decide) (fun K hK => ?_)
    refine goes_ Try.func62 (by kernel_rfl) rfl #[.slice A0 l0.length c0, .int .i64 t, .int .i64 a, .int .i64 h] (by rfl) rfl rfl (by (try simp only [List.map_toArray, List.map_cons, List.map_nil]); first | done | rfl) ?_
    refine (impl_topicLevel.calls _ A0 c0 l0 t a h _ _ (Kd.C_below HR0.out HB.out) HC0.out E1.out).mono ?_
    rintro e w2 ⟨rfl, hb⟩
    refine ⟨_, rfl, ?_⟩
    obtain ⟨s0, s1, s2⟩ := hHeld
    have HB_ := Aside0.mk (HB.out.trans (hb.mono HB.out.size))
    clear HB
    have HB := HB_
    clear HB_
    refine hK.out _ _ ⟨(hb.cell (World.block_lt_of_cell? _ _ s0)).trans s0, (hb.cell (World.block_lt_of_cell? _ _ s1)).trans s1, (hb.cell (World.block_lt_of_cell? _ _ s2)).trans s2⟩ (fun hHeld => ?_)
    clear hK K hb s0 s1 s2
    refine norm_ (a' := ?_) ?_ ?_
    rotate_left
    · show Act.put _ (some 15) _ = _
      simp only [Act.put, List.setIfInBounds_toArray, List.set_cons_zero, List.set_cons_succ, i64_w, i32_w]
      rfl
    refine one_ (i := 11) (N := some 20) #[true, true, true, true, true, true, true, true, true, true, true, true, false, false, false] rfl rfl (one_of HT_.out (by kernel_rfl)) (by decide) (fun K hK => ?_)
    refine goes_ Try.func62 (by kernel_rfl) rfl #[.slice A1 l1.length c1, .int .i64 t, .int .i64 a, .int .i64 h] (by rfl) rfl rfl (by (try simp only [List.map_toArray, List.map_cons, List.map_nil]); first | done | rfl) ?_
    refine (impl_topicLevel.calls _ A1 c1 l1 t a h _ _ (Kd.C_below HR1.out HB.out) HC1.out E2.out).mono ?_
    rintro e w3 ⟨rfl, hb⟩
    refine ⟨_, rfl, ?_⟩
    obtain ⟨s0, s1, s2⟩ := hHeld
    have HB_ := Aside0.mk (HB.out.trans (hb.mono HB.out.size))
    clear HB
    have HB := HB_
    clear HB_
    refine hK.out _ _ ⟨(hb.cell (World.block_lt_of_cell? _ _ s0)).trans s0, (hb.cell (World.block_lt_of_cell? _ _ s1)).trans s1, (hb.cell (World.block_lt_of_cell? _ _ s2)).trans s2⟩ (fun hHeld => ?_)
    clear hK K hb s0 s1 s2
    refine norm_ (a' := ?_) ?_ ?_
    rotate_left
    · show Act.put _ (some 20) _ = _
      simp only [Act.put, List.setIfInBounds_toArray, List.set_cons_zero, List.set_cons_succ, i64_w, i32_w]
      rfl
    refine pure_ (i := 12) (N := some 21) (v := ?_) (a' := ?_) #[true, true, true, true, true, true, true, true, true, true, true, true, true, false, false] rfl rfl (any_of HT_.out (by kernel_rfl)) (fun _ _ _ h => h) (Or.inl ⟨by rfl, ?_⟩) ?_ ?_
    rotate_left
    · intro w'
      go_simp
      with_reducible rfl
    rotate_left
    · simp only [Act.put, List.setIfInBounds_toArray, List.set_cons_zero, List.set_cons_succ, i64_w, i32_w]
      rfl
    refine pure_ (i := 13) (N := some 22) (v := ?_) (a' := ?_) #[true, true, true, true, true, true, true, true, true, true, true, true, true, true, false] rfl rfl (any_of HT_.out (by kernel_rfl)) (fun _ _ _ h => h) (Or.inl ⟨by rfl, ?_⟩) ?_ ?_
    rotate_left
    · intro w'
      go_simp
      with_reducible rfl
    rotate_left
    · simp only [Act.put, List.setIfInBounds_toArray, List.set_cons_zero, List.set_cons_succ, i64_w, i32_w]
      rfl
    refine last_ (i := 14) (N := none) #[true, true, true, true, true, true, true, true, true, true, true, true, true, true, true] rfl rfl (one_of HT_.out (by kernel_rfl)) (by decide) (fun K hK => ?_)
    obtain ⟨s0, s1, s2⟩ := hHeld
    have hfs := (HB.out.frozen (p := ⟨Bs, 0, none⟩) hlt).trans hf0
    refine skip_ (w1 := ?_) (by rfl) rfl ?_ ?_
    rotate_left
    · go_simp
      rfl
    refine hK.out _ _ ?_
    clear hK K
    refine done_ (done_of HT_.out (by kernel_rfl)) ?_
    go_wp2
    go_end0
    exact ⟨rfl, _, HB.out, rfl⟩
  | false =>
    go_enter Try.func66, Try.ntmps66
    go_wp2_with fail
    refine start_ (n := 15) (S := fun w' => w'.cell? ⟨Bs, 0, none⟩ = some (.bool false) ∧ w'.cell? ⟨Ba, 0, none⟩ = some (.slice A0 l0.length c0) ∧ w'.cell? ⟨Bb, 0, none⟩ = some (.slice A1 l1.length c1)) (ds := [14]) #[false, false, false, false, false, false, false, false, false, false, false, false, false, false, false] (by kernel_rfl) rfl rfl ⟨(cell_drewS s0), (cell_drewS s1), (cell_drewS s2)⟩ (fun hHeld => ?_)
    refine with_tabW impl_SameStates.c.tab0 impl_SameStates.c.bits0 (fun HT_ HW_ => ?_)
    generalize W.drew = w1 at HB hHeld ⊢
    refine take_ (i := 0) (N := some 9) (v := ?_) (a' := ?_) #[true, false, false, false, false, false, false, false, false, false, false, false, false, false, false] rfl rfl (take_ofW HT_.out HW_.out (by kernel_rfl)) (fun _ _ _ h => h) (Or.inl ⟨by rfl, ?_⟩) hHeld ?_ ?_
    rotate_left
    · rintro w' ⟨s0, s1, s2⟩
      go_simp
      with_reducible rfl
    rotate_left
    · simp only [Act.put, List.setIfInBounds_toArray, List.set_cons_zero, List.set_cons_succ, i64_w, i32_w]
      rfl
    refine pure_ (i := 1) (N := some 10) (v := ?_) (a' := ?_) #[true, true, false, false, false, false, false, false, false, false, false, false, false, false, false] rfl rfl (any_of HT_.out (by kernel_rfl)) (fun _ _ _ h => h) (Or.inl ⟨by rfl, ?_⟩) ?_ ?_
    rotate_left
    · intro w'
      go_simp
      with_reducible rfl
    rotate_left
    · simp only [Act.put, List.setIfInBounds_toArray, List.set_cons_zero, List.set_cons_succ, i64_w, i32_w]
      rfl
    refine pure_ (i := 2) (N := some 11) (v := undef) (a' := ?_) #[true, true, true, false, false, false, false, false, false, false, false, false, false, false, false] rfl rfl (any_of HT_.out (by kernel_rfl)) (fun _ _ _ h => h) (Or.inr ⟨by rfl, rfl⟩) ?_ ?_
    rotate_left
    · simp only [Act.put, List.setIfInBounds_toArray, List.set_cons_zero, List.set_cons_succ, i64_w, i32_w]
      rfl
    refine pure_ (i := 3) (N := some 12) (v := undef) (a' := ?_) #[true, true, true, true, false, false, false, false, false, false, false, false, false, false, false] rfl rfl (any_of HT_.out (by kernel_rfl)) (fun _ _ _ h => h) (Or.inr ⟨by rfl, rfl⟩) ?_ ?_
    rotate_left
    · simp only [Act.put, List.setIfInBounds_toArray, List.set_cons_zero, List.set_cons_succ, i64_w, i32_w]
      rfl
    refine pure_ (i := 4) (N := some 13) (v := undef) (a' := ?_) #[true, true, true, true, true, false, false, false, false, false, false, false, false, false, false] rfl rfl (any_of HT_.out (by kernel_rfl)) (fun _ _ _ h => h) (Or.inr ⟨by rfl, rfl⟩) ?_ ?_
    rotate_left
    · simp only [Act.put, List.setIfInBounds_toArray, List.set_cons_zero, List.set_cons_succ, i64_w, i32_w]
      rfl
    refine pure_ (i := 5) (N := some 14) (v := undef) (a' := ?_) #[true, true, true, true, true, true, false, false, false, false, false, false, false, false, false] rfl rfl (any_of HT_.out (by kernel_rfl)) (fun _ _ _ h => h) (Or.inr ⟨by rfl, rfl⟩) ?_ ?_
    rotate_left
    · simp only [Act.put, List.setIfInBounds_toArray, List.set_cons_zero, List.set_cons_succ, i64_w, i32_w]
      rfl
    refine pure_ (i := 6) (N := some 15) (v := undef) (a' := ?_) #[true, true, true, true, true, true, true, false, false, false, false, false, false, false, false] rfl rfl (any_of HT_.out (by kernel_rfl)) (fun _ _ _ h => h) (Or.inr ⟨by rfl, rfl⟩) ?_ ?_
    rotate_left
    · simp only [Act.put, List.setIfInBounds_toArray, List.set_cons_zero, List.set_cons_succ, i64_w, i32_w]
      rfl
    refine pure_ (i := 7) (N := some 16) (v := undef) (a' := ?_) #[true, true, true, true, true, true, true, true, false, false, false, false, false, false, false] rfl rfl (any_of HT_.out (by kernel_rfl)) (fun _ _ _ h => h) (Or.inr ⟨by rfl, rfl⟩) ?_ ?_
    rotate_left
    · simp only [Act.put, List.setIfInBounds_toArray, List.set_cons_zero, List.set_cons_succ, i64_w, i32_w]
      rfl
    refine pure_ (i := 8) (N := some 17) (v := undef) (a' := ?_) #[true, true, true, true, true, true, true, true, true, false, false, false, false, false, false] rfl rfl (any_of HT_.out (by kernel_rfl)) (fun _ _ _ h => h) (Or.inr ⟨by rfl, rfl⟩) ?_ ?_
    rotate_left
    · simp only [Act.put, List.setIfInBounds_toArray, List.set_cons_zero, List.set_cons_succ, i64_w, i32_w]
      rfl
    refine pure_ (i := 9) (N := some 18) (v := undef) (a' := ?_) #[true, true, true, true, true, true, true, true, true, true, false, false, false, false, false] rfl rfl (any_of HT_.out (by kernel_rfl)) (fun _ _ _ h => h) (Or.inr ⟨by rfl, rfl⟩) ?_ ?_
    rotate_left
    · simp only [Act.put, List.setIfInBounds_toArray, List.set_cons_zero, List.set_cons_succ, i64_w, i32_w]
      rfl
    refine pure_ (i := 10) (N := some 19) (v := undef) (a' := ?_) #[true, true, true, true, true, true, true, true, true, true, true, false, false, false, false] rfl rfl (any_of HT_.out (by kernel_rfl)) (fun _ _ _ h => h) (Or.inr ⟨by rfl, rfl⟩) ?_ ?_
    rotate_left
    · simp only [Act.put, List.setIfInBounds_toArray, List.set_cons_zero, List.set_cons_succ, i64_w, i32_w]
      rfl
    refine pure_ (i := 11) (N := some 20) (v := undef) (a' := ?_) #[true, true, true, true, true, true, true, true, true, true, true, true, false, false, false] rfl rfl (any_of HT_.out (by kernel_rfl)) (fun _ _ _ h => h) (Or.inr ⟨by rfl, rfl⟩) ?_ ?_
    rotate_left
    · simp only [Act.put, List.setIfInBounds_toArray, List.set_cons_zero, List.set_cons_succ, i64_w, i32_w]
      rfl
    refine pure_ (i := 12) (N := some 21) (v := undef) (a' := ?_) #[true, true, true, true, true, true, true, true, true, true, true, true, true, false, false] rfl rfl (any_of HT_.out (by kernel_rfl)) (fun _ _ _ h => h) (Or.inr ⟨by rfl, rfl⟩) ?_ ?_
    rotate_left
    · simp only [Act.put, List.setIfInBounds_toArray, List.set_cons_zero, List.set_cons_succ, i64_w, i32_w]
      rfl
    refine pure_ (i := 13) (N := some 22) (v := ?_) (a' := ?_) #[true, true, true, true, true, true, true, true, true, true, true, true, true, true, false] rfl rfl (any_of HT_.out (by kernel_rfl)) (fun _ _ _ h => h) (Or.inl ⟨by rfl, ?_⟩) ?_ ?_
    rotate_left
    · intro w'
      go_simp
      with_reducible rfl
    rotate_left
    · simp only [Act.put, List.setIfInBounds_toArray, List.set_cons_zero, List.set_cons_succ, i64_w, i32_w]
      rfl
    refine last_ (i := 14) (N := none) #[true, true, true, true, true, true, true, true, true, true, true, true, true, true, true] rfl rfl (one_of HT_.out (by kernel_rfl)) (by decide) (fun K hK => ?_)
    obtain ⟨s0, s1, s2⟩ := hHeld
    have hfs := (HB.out.frozen (p := ⟨Bs, 0, none⟩) hlt).trans hf0
    refine skip_ (w1 := ?_) (by rfl) rfl ?_ ?_
    rotate_left
    · go_simp
      rfl
    refine hK.out _ _ ?_
    clear hK K
    refine done_ (done_of HT_.out (by kernel_rfl)) ?_
    go_wp2
    go_end0
    exact ⟨rfl, _, HB.out, rfl⟩
/-- Every topic, area and hour is visited, one behind the other. -/
theorem forAllStates.calls (g : Nat) (lb : Array Value) (eg : ∀ args w, (callFunc g args).run Try.prog w = .ok (.enter g args) w) (J : Nat → World → Prop)
    (step : ∀ (n t a h : Nat) (W : World), J n W → n = t * 2160 + a * 240 + h → t < 5 → a < 9 → h < 240 → Calls Try.prog g (#[.int .i64 ((t : Int) + 1), .int .i64 ((a : Int) + 1), .int .i64 (h : Int)] ++ lb) W fun e w' => e = .returned (.tuple #[]) ∧ J (n + 1) w')
    (w : World) (h0 : J 0 w) : Calls Try.prog 65 #[.func (.func g) #[] lb] w fun e w' => e = .returned (.tuple #[]) ∧ J 10800 w' := by
  have HS := Aside0.mk step
  have HJ := Aside0.mk h0
  clear step h0
  go_enter Try.func65, Try.ntmps65
  go_wp2
  go_loopg [2, 3, 4, 13] 6 (fun gg s2 _ _ _ wr => ∃ tt : Nat, tt ≤ 5 ∧ 6 - tt ≤ gg ∧ s2 = .int .i64 ((tt : Int) + 1) ∧ Aside0 (J (tt * 2160) wr))
  case atStart => exact ⟨0, by omega, by omega, rfl, ⟨by rw [Nat.zero_mul]; exact HJ.out⟩⟩
  case round =>
    clear HJ
    obtain ⟨tt, h1, h2, rfl, HJ⟩ := hrel
    by_cases ht : tt < 5
    · have ht' : (tt : Int) + 1 ≤ 5 := by omega
      go_wp2
      go_loopg [3, 4, 13] 10 (fun gg s3 _ _ wr => ∃ aa : Nat, aa ≤ 9 ∧ 10 - aa ≤ gg ∧ s3 = .int .i64 ((aa : Int) + 1) ∧ Aside0 (J (tt * 2160 + aa * 240) wr))
      case atStart => exact ⟨0, by omega, by omega, rfl, ⟨by rw [Nat.zero_mul, Nat.add_zero]; exact HJ.out⟩⟩
      case round =>
        clear HJ
        obtain ⟨aa, h3, h4, rfl, HJ⟩ := hrel
        by_cases ha : aa < 9
        · have ha' : (aa : Int) + 1 ≤ 9 := by omega
          go_wp2
          go_loopg [4, 13] 241 (fun gg _ s13 wr => ∃ hh : Nat, hh ≤ 240 ∧ 241 - hh ≤ gg ∧ s13 = .int .i64 (hh : Int) ∧ Aside0 (J (tt * 2160 + aa * 240 + hh) wr))
          case atStart => exact ⟨0, by omega, by omega, rfl, ⟨by rw [Nat.add_zero]; exact HJ.out⟩⟩
          case round =>
            clear HJ
            obtain ⟨hh, h5, h6, rfl, HJ⟩ := hrel
            by_cases hq : hh < 240
            · have hq' : (hh : Int) < 240 := by omega
              have hcall := HS.out (tt * 2160 + aa * 240 + hh) tt aa hh _ HJ.out rfl ht ha hq
              go_wp2_with (go_at_fn g; refine hcall.mono ?_; rintro e w' ⟨rfl, hj⟩)
              go_roundg (241 - (hh + 1))
              case measure => omega
              case rel => exact ⟨hh + 1, by omega, by omega, by go_num, ⟨by rw [← Nat.add_assoc]; exact hj⟩⟩
            · have hq' : ¬ (hh : Int) < 240 := by omega
              have : hh = 240 := by omega
              subst this
              go_wp2
              go_roundg (10 - (aa + 1))
              case measure => omega
              case rel => exact ⟨aa + 1, by omega, by omega, by go_num, ⟨by have := HJ.out; rw [show tt * 2160 + (aa + 1) * 240 = tt * 2160 + aa * 240 + 240 by omega]; exact this⟩⟩
        · have ha' : ¬ (aa : Int) + 1 ≤ 9 := by omega
          have : aa = 9 := by omega
          subst this
          go_wp2
          go_roundg (6 - (tt + 1))
          case measure => omega
          case rel => exact ⟨tt + 1, by omega, by omega, by go_num, ⟨by have := HJ.out; rw [show (tt + 1) * 2160 = tt * 2160 + 9 * 240 by omega]; exact this⟩⟩
    · have ht' : ¬ (tt : Int) + 1 ≤ 5 := by omega
      have : tt = 5 := by omega
      subst this
      go_wp2
      go_end0
      exact ⟨rfl, HJ.out⟩
/-- The two lists have the same level at the n-th topic, area and hour. -/
def sameAt (l0 l1 : List S25) (n : Nat) : Bool := lvl l0 ((n / 2160 : Nat) + 1 : Int) ((n % 2160 / 240 : Nat) + 1 : Int) ((n % 240 : Nat) : Int) == lvl l1 ((n / 2160 : Nat) + 1 : Int) ((n % 2160 / 240 : Nat) + 1 : Int) ((n % 240 : Nat) : Int)
def sameUpTo (l0 l1 : List S25) (n : Nat) : Bool := (List.range n).all (sameAt l0 l1)
theorem sameUpTo_succ (l0 l1 : List S25) (n t a h : Nat) (hn : n = t * 2160 + a * 240 + h) (ht : t < 5) (ha : a < 9) (hh : h < 240) : sameUpTo l0 l1 (n + 1) = (sameUpTo l0 l1 n && (lvl l0 ((t : Int) + 1) ((a : Int) + 1) (h : Int) == lvl l1 ((t : Int) + 1) ((a : Int) + 1) (h : Int))) := by
  unfold sameUpTo
  rw [List.range_succ, List.all_append]
  congr 1
  have e1 : n / 2160 = t := by omega
  have e2 : n % 2160 / 240 = a := by omega
  have e3 : n % 240 = h := by omega
  simp [sameAt, e1, e2, e3]
def impl_SameStates.f (k : Nat) (l0 l1 : List S25) : Option (Bool × Bool) := if l0.length ≤ 4611686018427387904 ∧ l1.length ≤ 4611686018427387904 then (impl_IsConsistent.f k l0).bind fun t => (if t = true then ((impl_IsConsistent.f k l1).bind fun u => (if u = true then (some (sameUpTo l0 l1 10800, true)) else (some (false, false)))) else (some (false, false))) else none
theorem impl_SameStates.mono : ∀ a0 a1 k, LeO (impl_SameStates.f k a0 a1) (impl_SameStates.f (k + 1) a0 a1) := by
  intro a0 a1 k
  unfold impl_SameStates.f
  exact LeO.ite (LeO.bind (impl_IsConsistent.mono a0 k) (fun _ => LeO.ite (LeO.bind (impl_IsConsistent.mono a1 k) (fun _ => LeO.refl _)) (LeO.refl _))) (LeO.none _)
/-- What holds between two visits. -/
structure impl_SameStates.J (l0 l1 : List S25) (A0 A1 : Option Addr) (c0 c1 Bs Ba Bb : Nat) (w : World) (n : Nat) (W : World) : Prop where
  below : Below w.heap.size w W
  a : W.heap[Ba]? = some (.cells #[.slice A0 l0.length c0] 31 (0, 0))
  b : W.heap[Bb]? = some (.cells #[.slice A1 l1.length c1] 31 (0, 0))
  s : W.heap[Bs]? = some (.cells #[.bool (sameUpTo l0 l1 n)] 4 (0, 0))
theorem lt_of_block {W : World} {B : Nat} {o : Obj} (h : W.heap[B]? = some o) : B < W.heap.size := by
  rcases Nat.lt_or_ge B W.heap.size with h' | h'
  · exact h'
  · rw [Array.getElem?_eq_none h'] at h; cases h
theorem impl_SameStates.step (A0 A1 : Option Addr) (c0 c1 : Nat) (l0 l1 : List S25) (Bs Ba Bb : Nat) (w : World) (hr0 : Kd.C k25 w A0 l0.length l0) (hc0 : l0.length ≤ c0) (hr1 : Kd.C k25 w A1 l1.length l1) (hc1 : l1.length ≤ c1)
    (h0 : l0.length ≤ 4611686018427387904) (h1 : l1.length ≤ 4611686018427387904) (hs : w.heap.size ≤ Bs) (ha : Ba ≠ Bs) (hb : Bb ≠ Bs)
    (n t a h : Nat) (W : World) (HJ : impl_SameStates.J l0 l1 A0 A1 c0 c1 Bs Ba Bb w n W) (hn : n = t * 2160 + a * 240 + h) (ht : t < 5) (hha : a < 9) (hh : h < 240) :
    Calls Try.prog 66 (#[.int .i64 ((t : Int) + 1), .int .i64 ((a : Int) + 1), .int .i64 (h : Int)] ++ #[.pointer (some ⟨Bs, 0, none⟩), .pointer (some ⟨Ba, 0, none⟩), .pointer (some ⟨Bb, 0, none⟩)]) W fun e w' => e = .returned (.tuple #[]) ∧ impl_SameStates.J l0 l1 A0 A1 c0 c1 Bs Ba Bb w (n + 1) w' := by
  refine (impl_SameStates.visit A0 A1 c0 c1 l0 l1 Bs Ba Bb _ _ _ _ W (Kd.C_below hr0 HJ.below) hc0 (Kd.C_below hr1 HJ.below) hc1 HJ.s HJ.a HJ.b h0 h1).mono ?_
  rintro e w' ⟨rfl, w2, hb2, rfl⟩
  refine ⟨rfl, ⟨?_, ?_, ?_, ?_⟩⟩
  · exact (HJ.below.trans (hb2.mono HJ.below.size)).setCell hs _
  · rw [Below.heap_setCell _ _ _ _ ha]
    exact (hb2.block Ba (lt_of_block HJ.a)).trans HJ.a
  · rw [Below.heap_setCell _ _ _ _ hb]
    exact (hb2.block Bb (lt_of_block HJ.b)).trans HJ.b
  · rw [sameUpTo_succ l0 l1 n t a h hn ht hha hh]
    exact blk_put (cs := #[.bool (sameUpTo l0 l1 n)]) ((hb2.block Bs (lt_of_block HJ.s)).trans HJ.s) 0 _ rfl
set_option maxHeartbeats 2000000 in
set_option maxRecDepth 100000 in
theorem impl_SameStates.calls (k : Nat) (A0 : Option Addr) (c0 : Nat) (l0 : List S25) (A1 : Option Addr) (c1 : Nat) (l1 : List S25) (r1 : Bool) (r2 : Bool) (w : World) (hr0 : Kd.C k25 w A0 l0.length l0) (hc0 : l0.length ≤ c0) (hr1 : Kd.C k25 w A1 l1.length l1) (hc1 : l1.length ≤ c1) (h : impl_SameStates.f k l0 l1 = some (r1, r2)) :
    Calls Try.prog 32 #[.slice A0 l0.length c0, .slice A1 l1.length c1] w fun e w' => e = .returned (.tuple #[.bool r1, .bool r2]) ∧ Below w.heap.size w w' := by
  unfold impl_SameStates.f at h
  by_cases hl : l0.length ≤ 4611686018427387904 ∧ l1.length ≤ 4611686018427387904
  · rw [if_pos hl] at h
    obtain ⟨t, ht, h⟩ := Option.bind_eq_some_iff.1 h
    have HT := Aside0.mk ht
    clear ht
    have eg : ∀ args w, (callFunc 66 args).run Try.prog w = .ok (.enter 66 args) w := enters_of Try.func66 (by kernel_rfl) rfl
    have EG := Aside0.mk eg
    clear eg
    have hB0 : Below w.heap.size w ((w.alloc (.cells #[.slice A0 l0.length c0] 31)).alloc (.cells #[.slice A1 l1.length c1] 31)) := ((Below.refl w.heap.size w).alloc (Nat.le_refl _) _).alloc (by simp) _
    have hBa : ((w.alloc (.cells #[.slice A0 l0.length c0] 31)).alloc (.cells #[.slice A1 l1.length c1] 31)).heap[w.heap.size]? = some (.cells #[.slice A0 l0.length c0] 31 (0, 0)) := by
      rw [Below.heap_alloc _ _ _ (by simp)]
      exact blk_new _ _
    have hBb : ((w.alloc (.cells #[.slice A0 l0.length c0] 31)).alloc (.cells #[.slice A1 l1.length c1] 31)).heap[w.heap.size + 1]? = some (.cells #[.slice A1 l1.length c1] 31 (0, 0)) := by
      have e := blk_new (w.alloc (.cells #[.slice A0 l0.length c0] 31)) (.cells #[.slice A1 l1.length c1] 31)
      simpa using e
    have HR0 := Aside0.mk hr0
    have HC0 := Aside0.mk hc0
    have HR1 := Aside0.mk hr1
    have HC1 := Aside0.mk hc1
    have HBl := Aside0.mk hl
    have HB := Aside0.mk hB0
    have HA := Aside0.mk hBa
    have HBb := Aside0.mk hBb
    clear hr0 hc0 hr1 hc1 hl hB0 hBa hBb
    cases t with
    | false =>
      rw [if_neg (by simp)] at h
      have e := Option.some.inj h
      obtain ⟨rfl, rfl⟩ := Prod.mk.inj e
      clear h e
      go_enter Try.func32, Try.ntmps32
      go_wp2_with (go_at_call 20; refine (impl_IsConsistent.calls k A0 c0 l0 false _ (Kd.C_below HR0.out HB.out) HC0.out HT.out).mono ?_; rintro e w1 ⟨rfl, hb⟩)
      go_ret2
      exact ⟨rfl, HB.out.trans (hb.mono HB.out.size)⟩
    | true =>
      rw [if_pos rfl] at h
      obtain ⟨u, hu, h⟩ := Option.bind_eq_some_iff.1 h
      have HU := Aside0.mk hu
      clear hu
      cases u with
      | false =>
        rw [if_neg (by simp)] at h
        have e := Option.some.inj h
        obtain ⟨rfl, rfl⟩ := Prod.mk.inj e
        clear h e
        go_enter Try.func32, Try.ntmps32
        go_wp2_with fail
        refine (impl_IsConsistent.calls k A0 c0 l0 true _ (Kd.C_below HR0.out HB.out) HC0.out HT.out).mono ?_
        rintro e w1 ⟨rfl, hb⟩
        have hB1 := (hb.block _ (lt_of_block HBb.out)).trans HBb.out
        have d : w1.cell? ⟨w.heap.size + 1, 0, none⟩ = some (.slice A1 l1.length c1) := by simp [World.cell?, hB1]
        have HB1 := Aside0.mk (HB.out.trans (hb.mono HB.out.size))
        clear hB1 hb
        go_wp2_with fail
        refine (impl_IsConsistent.calls k A1 c1 l1 false _ (Kd.C_below HR1.out HB1.out) HC1.out HU.out).mono ?_
        rintro e w2 ⟨rfl, hb⟩
        go_wp2
        go_ret2
        exact ⟨rfl, HB1.out.trans (hb.mono HB1.out.size)⟩
      | true =>
        rw [if_pos rfl] at h
        have e := Option.some.inj h
        obtain ⟨rfl, rfl⟩ := Prod.mk.inj e
        clear h e
        go_enter Try.func32, Try.ntmps32
        go_wp2_with fail
        refine (impl_IsConsistent.calls k A0 c0 l0 true _ (Kd.C_below HR0.out HB.out) HC0.out HT.out).mono ?_
        rintro e w1 ⟨rfl, hb⟩
        have hA1 := (hb.block _ (lt_of_block HA.out)).trans HA.out
        have hB1 := (hb.block _ (lt_of_block HBb.out)).trans HBb.out
        have d : w1.cell? ⟨w.heap.size + 1, 0, none⟩ = some (.slice A1 l1.length c1) := by simp [World.cell?, hB1]
        have HB1 := Aside0.mk (HB.out.trans (hb.mono HB.out.size))
        have HA1 := Aside0.mk hA1
        have HBb1 := Aside0.mk hB1
        clear hB1 hb hA1
        go_wp2_with fail
        refine (impl_IsConsistent.calls k A1 c1 l1 true _ (Kd.C_below HR1.out HB1.out) HC1.out HU.out).mono ?_
        rintro e w2 ⟨rfl, hb⟩
        have hA2 := (hb.block _ (lt_of_block HA1.out)).trans HA1.out
        have hB2 := (hb.block _ (lt_of_block HBb1.out)).trans HBb1.out
        have HB2 := Aside0.mk (HB1.out.trans (hb.mono HB1.out.size))
        have HA2 := Aside0.mk hA2
        have HBb2 := Aside0.mk hB2
        clear hB2 hb hA2 d
        have hla := lt_of_block HA2.out
        have hlb := lt_of_block HBb2.out
        have h00 : impl_SameStates.J l0 l1 A0 A1 c0 c1 w2.heap.size w.heap.size (w.heap.size + 1) w 0 (w2.alloc (.cells #[.bool true] 4)) :=
          ⟨below_alloc HB2.out _, blk_alloc HA2.out _, blk_alloc HBb2.out _, blk_new _ _⟩
        have HJ0 := Aside0.mk h00
        clear h00
        have HC := Aside0.mk (forAllStates.calls 66 #[.pointer (some ⟨w2.heap.size, 0, none⟩), .pointer (some ⟨w.heap.size, 0, none⟩), .pointer (some ⟨w.heap.size + 1, 0, none⟩)] EG.out (impl_SameStates.J l0 l1 A0 A1 c0 c1 w2.heap.size w.heap.size (w.heap.size + 1) w)
          (fun n t a h W HJ hn ht ha hh => impl_SameStates.step A0 A1 c0 c1 l0 l1 w2.heap.size w.heap.size (w.heap.size + 1) w HR0.out HC0.out HR1.out HC1.out HBl.out.1 HBl.out.2 HB2.out.size (by omega) (by omega) n t a h W HJ hn ht ha hh) _ HJ0.out)
        go_wp2_with fail
        refine HC.out.mono ?_
        rintro e w3 ⟨rfl, hj⟩
        have d3 : w3.cell? ⟨w2.heap.size, 0, none⟩ = some (.bool (sameUpTo l0 l1 10800)) := by simp [World.cell?, hj.s]
        have HJ := Aside0.mk hj
        clear hj
        go_wp2
        go_ret2
        exact ⟨rfl, HJ.out.below⟩
  · rw [if_neg hl] at h
    cases h

end Go.Proofs.Ytfijknfdimcjhaa.Q
