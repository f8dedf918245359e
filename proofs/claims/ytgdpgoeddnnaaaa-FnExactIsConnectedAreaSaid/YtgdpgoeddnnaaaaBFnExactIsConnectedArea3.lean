/- Texts of this seat, put together: Qf15, Qf16, Qf7, Qf17, Qf8. -/
import Derived.Test.YtgdpgoeddnnaaaaBFnExactIsConnectedArea0
import Derived.Test.YtgdpgoeddnnaaaaBFnExactIsConnectedArea2
namespace Go.Proofs.Ytgdpgoeddnnaaaa.Q
open Go.RowKit Go.Proofs.YtgdpgoeddnnaaaaW.PrintWords Go.Proofs.YtgdpgoeddnnaaaaW.PrintLast Go.Proofs.YtgdpgoeddnnaaaaW.PrintMore
attribute [local go_sem] max2_int min2_int max_two min_two max_three min_three max_four min_four   -- for this text's walks alone
set_option linter.unusedVariables false
set_option linter.unusedSimpArgs false

/-! ### impl_regionParts: function 15 -/
-- called: 28 26 25 29
theorem cell_drewP {w : World} {a : Addr} {v : Value} (h : w.cell? a = some v) : w.drew.cell? a = some v := by simpa using h
def RPF1.c.T1 : Bool × List (List Nat × List Nat) := (true, [([], []), ([], []), ([], []), ([1, 2], [1, 2]), ([3], [3]), ([], []), ([0, 4, 5], [0, 4, 5]), ([6, 6, 0, 1, 2, 3, 4, 5, 6], [6])])
def RPF1.c.B1 : List Nat := [0, 0, 0, 6, 14, 0, 63, 127]
theorem RPF1.c.tab1 : rtab .any (opsOf Try.f27 1) = RPF1.c.T1 := by kernel_rfl
theorem RPF1.c.bits1 : waitsOk RPF1.c.T1.2 RPF1.c.B1 = true := by kernel_rfl
set_option maxHeartbeats 4000000 in
set_option maxRecDepth 100000 in
/-- impl.regionParts$1: is a cell next to the part's cell? If so it is appended to the part. -/
theorem RPF1.calls (wide x y : Int) (b : Bool) (i : Nat) (part : List Int) (Bw Bp Bi gb cap : Nat) (okP : Nat → Prop) (w0 W : World) (hB : Below w0.heap.size w0 W) (hbp : w0.heap.size ≤ Bp)
  (hw : W.cell? ⟨Bw, 0, none⟩ = some (.int .i64 wide)) (hi : W.cell? ⟨Bi, 0, none⟩ = some (.int .i64 (i : Int))) (hp : W.cell? ⟨Bp, 0, none⟩ = some (.slice (some ⟨gb, 0, none⟩) part.length cap)) (hf : W.frozen? ⟨Bp, 0, none⟩ = false)
  (hr : Kd.R (Kd.int .i64) 3 W w0.heap.size okP (.slice (some ⟨gb, 0, none⟩) part.length cap) part) (hfr : ∀ k, W.heap.size ≤ k → okP k) (hok : ∀ k, okP k → k ≠ Bp ∧ k ≠ Bi ∧ k ≠ Bw) (hpi : Bp ≠ Bi ∧ Bp ≠ Bw)
  (hil : i < part.length) (hl : part.length ≤ 1000000) (hyv : part.getD i 0 = y) (ha : impl_areConnected.f wide y x = some b) :
  Calls Try.prog 27 #[.int .i64 x, .pointer (some ⟨Bw, 0, none⟩), .pointer (some ⟨Bp, 0, none⟩), .pointer (some ⟨Bi, 0, none⟩)] W fun e w' => e = .returned (.bool b) ∧ Below w0.heap.size w0 w' ∧ Kept W w' (fun k => k = Bp ∨ k = gb) ∧
   w'.cell? ⟨Bw, 0, none⟩ = some (.int .i64 wide) ∧ w'.cell? ⟨Bi, 0, none⟩ = some (.int .i64 (i : Int)) ∧ w'.frozen? ⟨Bp, 0, none⟩ = false ∧
   ∃ gb' cap', w'.cell? ⟨Bp, 0, none⟩ = some (.slice (some ⟨gb', 0, none⟩) (if b = true then part ++ [x] else part).length cap') ∧ Kd.R (Kd.int .i64) 3 w' w0.heap.size okP (.slice (some ⟨gb', 0, none⟩) (if b = true then part ++ [x] else part).length cap') (if b = true then part ++ [x] else part) ∧ (gb' = gb ∨ W.heap.size ≤ gb') := by
 have hy : W.cell? ⟨gb, i, none⟩ = some (.int .i64 y) := by
  have := (Kd.R_celln 0 hr (i : Int) (by omega) (by omega)).1
  rw [Int.toNat_natCast, show rdOf 0 part (i : Int) = part.getD i 0 from rfl, hyv] at this
  exact this
 have HA := Aside0.mk ha
 have HBB := Aside0.mk hB
 have HR := Aside0.mk hr
 have HF := Aside0.mk hf
 have HFR := Aside0.mk hfr
 have HOK := Aside0.mk hok
 have b1 : (0 : Int) ≤ (i : Int) := by omega
 have b2 : (i : Int) < (part.length : Int) := by omega
 have d1 : decide ((0 : Int) ≤ (i : Int)) = true := decide_eq_true b1
 have d2 : decide ((i : Int) < (part.length : Int)) = true := decide_eq_true b2
 replace b1 := eq_true b1
 replace b2 := eq_true b2
 have HB := Aside0.mk (Below.refl W.heap.size W).drew
 clear ha hB hr hf hfr hok hyv
 go_enter Try.func27, Try.ntmps27
 go_wp2_with fail
 refine start_ (n := 8) (S := fun w' => w'.cell? ⟨Bw, 0, none⟩ = some (.int .i64 wide) ∧ w'.cell? ⟨Bp, 0, none⟩ = some (.slice (some ⟨gb, 0, none⟩) part.length cap) ∧ w'.cell? ⟨Bi, 0, none⟩ = some (.int .i64 (i : Int)) ∧ w'.cell? ⟨gb, i, none⟩ = some (.int .i64 y)) (ds := []) #[false, false, false, false, false, false, false, false] (by kernel_rfl) rfl rfl ⟨(cell_drewP hw), (cell_drewP hp), (cell_drewP hi), (cell_drewP hy)⟩ (fun hHeld => ?_)
 refine with_tabW RPF1.c.tab1 RPF1.c.bits1 (fun HT_ HW_ => ?_)
 generalize hw1_ : W.drew = w1 at HB hHeld ⊢
 have HW1 := Aside0.mk hw1_
 clear hw1_
 refine pure_ (i := 5) (N := some 12) (v := ?_) (a' := ?_) #[false, false, false, false, false, true, false, false] rfl rfl (any_of HT_.out (by kernel_rfl)) (fun _ _ _ h => h) (Or.inl ⟨by rfl, ?_⟩) ?_ ?_
 rotate_left
 ·
  intro w'
  go_simp
  with_reducible rfl
 rotate_left
 ·
  simp only [Act.put, List.setIfInBounds_toArray, List.set_cons_zero, List.set_cons_succ, i64_w, i32_w]
  rfl
 refine take_ (i := 0) (N := some 7) (v := ?_) (a' := ?_) #[true, false, false, false, false, true, false, false] rfl rfl (take_ofW HT_.out HW_.out (by kernel_rfl)) (fun _ _ _ h => h) (Or.inl ⟨by rfl, ?_⟩) hHeld ?_ ?_
 rotate_left
 ·
  rintro w' ⟨s0, s1, s2, s3⟩
  go_simp
  with_reducible rfl
 rotate_left
 ·
  simp only [Act.put, List.setIfInBounds_toArray, List.set_cons_zero, List.set_cons_succ, i64_w, i32_w]
  rfl
 refine take_ (i := 1) (N := some 8) (v := ?_) (a' := ?_) #[true, true, false, false, false, true, false, false] rfl rfl (take_ofW HT_.out HW_.out (by kernel_rfl)) (fun _ _ _ h => h) (Or.inl ⟨by rfl, ?_⟩) hHeld ?_ ?_
 rotate_left
 ·
  rintro w' ⟨s0, s1, s2, s3⟩
  go_simp
  with_reducible rfl
 rotate_left
 ·
  simp only [Act.put, List.setIfInBounds_toArray, List.set_cons_zero, List.set_cons_succ, i64_w, i32_w]
  rfl
 refine take_ (i := 2) (N := some 9) (v := ?_) (a' := ?_) #[true, true, true, false, false, true, false, false] rfl rfl (take_ofW HT_.out HW_.out (by kernel_rfl)) (fun _ _ _ h => h) (Or.inl ⟨by rfl, ?_⟩) hHeld ?_ ?_
 rotate_left
 ·
  rintro w' ⟨s0, s1, s2, s3⟩
  go_simp
  with_reducible rfl
 rotate_left
 ·
  simp only [Act.put, List.setIfInBounds_toArray, List.set_cons_zero, List.set_cons_succ, i64_w, i32_w]
  rfl
 refine pure_ (i := 3) (N := some 10) (v := ?_) (a' := ?_) #[true, true, true, true, false, true, false, false] rfl rfl (any_of HT_.out (by kernel_rfl)) (fun _ _ _ h => h) (Or.inl ⟨by rfl, ?_⟩) ?_ ?_
 rotate_left
 ·
  intro w'
  go_simp
  with_reducible rfl
 rotate_left
 ·
  simp only [Act.put, List.setIfInBounds_toArray, List.set_cons_zero, List.set_cons_succ, i64_w, i32_w]
  rfl
 refine take_ (i := 4) (N := some 11) (v := ?_) (a' := ?_) #[true, true, true, true, true, true, false, false] rfl rfl (take_ofW HT_.out HW_.out (by kernel_rfl)) (fun _ _ _ h => h) (Or.inl ⟨by rfl, ?_⟩) hHeld ?_ ?_
 rotate_left
 ·
  rintro w' ⟨s0, s1, s2, s3⟩
  go_simp
  with_reducible rfl
 rotate_left
 ·
  simp only [Act.put, List.setIfInBounds_toArray, List.set_cons_zero, List.set_cons_succ, i64_w, i32_w]
  rfl
 refine one_ (i := 6) (N := some 13) #[true, true, true, true, true, true, true, false] rfl rfl (one_of HT_.out (by kernel_rfl)) (by decide) (fun K hK => ?_)
 refine goes_ Try.func28 (by kernel_rfl) rfl #[.int .i64 wide, .int .i64 y, .int .i64 x] (by rfl) rfl rfl (by (try simp only [List.map_toArray, List.map_cons, List.map_nil]); first | done | rfl) ?_
 refine (impl_areConnected.calls wide y x b _ HA.out).mono ?_
 rintro e w2 ⟨rfl, nd1, rfl⟩
 have hb := pw_below_drewN (Below.refl w1.heap.size w1) nd1
 refine ⟨_, rfl, ?_⟩
 obtain ⟨s0, s1, s2, s3⟩ := hHeld
 have HB_ := Aside0.mk (HB.out.trans (hb.mono HB.out.size))
 clear HB
 have HB := HB_
 clear HB_
 refine hK.out _ _ ⟨(hb.cell (World.block_lt_of_cell? _ _ s0)).trans s0, (hb.cell (World.block_lt_of_cell? _ _ s1)).trans s1, (hb.cell (World.block_lt_of_cell? _ _ s2)).trans s2, (hb.cell (World.block_lt_of_cell? _ _ s3)).trans s3⟩ (fun hHeld => ?_)
 clear hK K hb s0 s1 s2 s3
 refine norm_ (a' := ?_) ?_ ?_
 rotate_left
 ·
  show Act.put _ (some 13) _ = _
  simp only [Act.put, List.setIfInBounds_toArray, List.set_cons_zero, List.set_cons_succ, i64_w, i32_w]
  rfl
 refine pure_ (i := 7) (N := some 6) (v := ?_) (a' := ?_) #[true, true, true, true, true, true, true, true] rfl rfl (any_of HT_.out (by kernel_rfl)) (fun _ _ _ h => h) (Or.inl ⟨by rfl, ?_⟩) ?_ ?_
 rotate_left
 ·
  intro w'
  go_simp
  with_reducible rfl
 rotate_left
 ·
  simp only [Act.put, List.setIfInBounds_toArray, List.set_cons_zero, List.set_cons_succ, i64_w, i32_w]
  rfl
 refine done_ (done_of HT_.out (by kernel_rfl)) ?_
 have e_ := HW1.out
 subst e_
 clear HW1
 obtain ⟨s0, s1, s2, s3⟩ := hHeld
 have hf2 : (W.drew.drewN nd1).frozen? ⟨Bp, 0, none⟩ = false := HF.out
 cases b with
 | false =>
  go_wp2
  go_ret
  exact ⟨rfl, by repeat (first | (with_reducible first | exact HBB.out | apply pw_below_drewN | apply below_drew1) | exact HBB.out), by repeat (first | exact Kept.refl _ _ | apply Kept.drewN | apply Kept.drew), by first | exact s0 | simpa using s0, by first | exact s2 | simpa using s2, HF.out, gb, cap, by first | exact s1 | simpa using s1, by (with_reducible repeat (first | apply Kd.R_drewN | apply Kd.R_drew)); exact HR.out, .inl rfl⟩
 | true =>
  have hRW : Aside0 (Kd.R (Kd.int .i64) 3 (W.drew.drewN nd1) w0.heap.size okP (.slice (some ⟨gb, 0, none⟩) part.length cap) part) := ⟨Kd.R_drewN (Kd.R_drew HR.out) nd1⟩
  have hgb : okP gb := HR.out.1 gb rfl
  obtain ⟨n1, n2, n3⟩ := HOK.out gb hgb
  go_wp2_with ((with_reducible refine gate_builtin (b := .append) (xs := #[.tmp 15, .tmp 17]) rfl ?_); at_builtin; refine Kd.R_append (Kd.int .i64) (w0 := w0) w0.heap.size rfl (.tmp 15) (.tmp 17) 22 3 (.int .i64 0) 8 rfl Try.underlying22 info3 rfl (by decide) (by omega) (.slice (some ⟨gb, 0, none⟩) part.length cap) part x [.int .i64 x] okP (fun _ => False) rfl rfl ?aP (fun _ hk => hk.elim) ?aF ?aO ?aB ?aS ?aL ?_; (case aP => exact rfl); (case aF => intro k hk; exact HFR.out k hk); (case aO => (with_reducible repeat (first | apply Kd.R_alloc | apply Kd.R_drewN | apply Kd.R_drew)); exact HR.out); (case aB => repeat (first | (with_reducible first | exact HBB.out | apply below_alloc | apply pw_below_drewN | apply below_drew1) | exact HBB.out)); (case aS => exact HBB.out.size); (case aL => omega); intro v1 w3 ho3 hb3 hg3 hat3; have hp3 := cell_grown hg3 s1 (fun e => n1 (by injection e with e; exact e.symm)); have hw3 := cell_grown hg3 s0 (fun e => n3 (by injection e with e; exact e.symm)); have hi3 := cell_grown hg3 s2 (fun e => n2 (by injection e with e; exact e.symm)); have hf3 : w3.frozen? ⟨Bp, 0, none⟩ = false := (World.frozen?_of_block (a := ⟨Bp, 0, none⟩) (hg3.block Bp (World.block_lt_of_cell? _ _ s1) (fun e => n1 (by injection e with e; exact e.symm)))).trans hf2; obtain ⟨gb', cap', ev, hgb', hlt', cells', hcells'⟩ := Kd.R_form ho3 (by rw [List.length_append]; exact Nat.succ_pos _); subst ev)
  go_ret
  have hRk := Kd.R_kept ho3 (Kept.setCell (p := ⟨Bp, 0, none⟩) (Kept.refl w3 (fun k => k = Bp)) (.inl rfl) (.slice (some ⟨gb', 0, none⟩) (part.length + 1) cap')) (fun k hk e => (HOK.out k hk).1 e)
  refine ⟨rfl, hb3.setCell (p := ⟨Bp, 0, none⟩) hbp _, Kept.setCell (p := ⟨Bp, 0, none⟩) (Kept.of_grown hg3 ((Kept.refl W _).drew.drewN nd1) (fun k e => .inl (.inr (by injection e with e; exact e.symm)))) (.inl (.inl rfl)) _,
   (cell_far (p := ⟨Bp, 0, none⟩) (fun e => hpi.2 e.symm) _).trans hw3, (cell_far (p := ⟨Bp, 0, none⟩) (fun e => hpi.1 e.symm) _).trans hi3, by rw [World.frozen?_setCell]; exact hf3, gb', cap', World.cell?_setCell_same' _ _ _ (by rw [hp3]; rfl), by simpa using hRk, ?_⟩
  rcases hat3 with h | ⟨b', h, hle⟩
  ·
   exact .inl (by injection h)
  ·
   exact .inr (by injection h with h; have h5 : gb' = b' := h; rw [h5]; exact hle)
/-- What the boxes of one part hold. -/
def PartAt (w0 W : World) (wide : Int) (Bw Bp Bi gl i : Nat) (part : List Int) (gp : Nat) : Prop := ∃ cap : Nat, W.cell? ⟨Bw, 0, none⟩ = some (.int .i64 wide) ∧ W.cell? ⟨Bi, 0, none⟩ = some (.int .i64 (i : Int)) ∧ W.cell? ⟨Bp, 0, none⟩ = some (.slice (some ⟨gp, 0, none⟩) part.length cap) ∧ W.frozen? ⟨Bp, 0, none⟩ = false ∧
 Kd.R (Kd.int .i64) 3 W w0.heap.size (fun k => k ≠ Bp ∧ k ≠ Bi ∧ k ≠ Bw ∧ k ≠ gl) (.slice (some ⟨gp, 0, none⟩) part.length cap) part
set_option maxHeartbeats 4000000 in
/-- One cell of the part is done with: what is next to it has come to the part, and is gone from what is left. -/
theorem partRound.calls (p : Int → Bool) (wide : Int) (i : Nat) (part left : List Int) (Bw Bp Bi gl off cl gp : Nat) (w0 W : World) (hB : Below w0.heap.size w0 W) (hbp : w0.heap.size ≤ Bp) (hgl : w0.heap.size ≤ gl)
  (d1 : Bp ≠ Bi ∧ Bp ≠ Bw) (d2 : gl ≠ Bp ∧ gl ≠ Bi ∧ gl ≠ Bw) (hP : PartAt w0 W wide Bw Bp Bi gl i part gp) (hR : RowAt W gl off left) (hc : left.length ≤ cl) (hoff : off ≤ 1000) (hil : i < part.length) (hl : part.length + left.length ≤ 1000)
  (hn : ∀ x ∈ left, impl_areConnected.f wide (part.getD i 0) x = some (p x)) :
  Calls Try.prog 26 #[.slice (some ⟨gl, off, none⟩) left.length cl, .func (.func 27) #[] #[.pointer (some ⟨Bw, 0, none⟩), .pointer (some ⟨Bp, 0, none⟩), .pointer (some ⟨Bi, 0, none⟩)]] W fun e w' =>
   e = .returned (.slice (some ⟨gl, off, none⟩) (left.filter fun x => !p x).length cl) ∧ RowAt w' gl off (left.filter fun x => !p x) ∧ Below w0.heap.size w0 w' ∧ Kept W w' (fun k => k = gl ∨ (k = Bp ∨ W.heap.size ≤ k ∨ k = gp)) ∧ W.heap.size ≤ w'.heap.size ∧
   ∃ gp', (gp' = gp ∨ W.heap.size ≤ gp') ∧ PartAt w0 w' wide Bw Bp Bi gl i (part ++ left.filter p) gp' := by
 have hgp : gp ≠ gl := by
  obtain ⟨cap, _, _, _, _, h5⟩ := hP
  exact (h5.1 gp rfl).2.2.2
 have hltp : Bp < W.heap.size ∧ Bi < W.heap.size ∧ Bw < W.heap.size := by
  obtain ⟨cap, h1, h2, h3, _, _⟩ := hP
  exact ⟨World.block_lt_of_cell? W _ h3, World.block_lt_of_cell? W _ h2, World.block_lt_of_cell? W _ h1⟩
 have hltl := hR.lt
 refine (DeleteFuncA.calls 27 _ p (enters_of Try.func27 (by kernel_rfl) rfl) (fun k => k = Bp ∨ W.heap.size ≤ k ∨ k = gp)
  (fun pre W' => W.heap.size ≤ W'.heap.size ∧ ∃ gb, (gb = gp ∨ W.heap.size ≤ gb) ∧ PartAt w0 W' wide Bw Bp Bi gl i (part ++ pre.filter p) gb) gl off cl left w0 W (fun h => ?_) hgl hc ?_ hB hR (by omega) (by omega) ?_ ?_).mono ?_
 ·
  rcases h with h | h | h
  ·
   exact d2.1 h
  ·
   omega
  ·
   exact hgp h.symm
 ·
  rintro pre W1 j v ⟨hs, gb, hg, cap, h1, h2, h3, h4, h5⟩
  refine ⟨by simpa [World.setCell] using hs, gb, hg, cap, (cell_far (p := ⟨gl, j, none⟩) (fun e => d2.2.2 e.symm) _).trans h1, (cell_far (p := ⟨gl, j, none⟩) (fun e => d2.2.1 e.symm) _).trans h2, (cell_far (p := ⟨gl, j, none⟩) (fun e => d2.1 e.symm) _).trans h3, by rw [World.frozen?_setCell]; exact h4, ?_⟩
  exact Kd.R_kept h5 (Kept.setCell (p := ⟨gl, j, none⟩) (Kept.refl W1 (fun k => k = gl)) (.inl rfl) v) (fun k hk e => hk.2.2.2 e)
 ·
  refine ⟨Nat.le_refl _, gp, .inl rfl, ?_⟩
  rw [List.filter_nil, List.append_nil]
  exact hP
 ·
  rintro pre x post W1 e hB1 ⟨hs, gb, hg, cap, h1, h2, h3, h4, h5⟩
  have hxl : x ∈ left := by rw [e]; simp
  have hpl : pre.length ≤ left.length := by rw [e, List.length_append]; omega
  have hfl := List.length_filter_le p pre
  refine (RPF1.calls wide x (part.getD i 0) (p x) i (part ++ pre.filter p) Bw Bp Bi gb cap (fun k => k ≠ Bp ∧ k ≠ Bi ∧ k ≠ Bw ∧ k ≠ gl) w0 W1 hB1 hbp h1 h2 h3 h4 h5 (fun k hk => ⟨by omega, by omega, by omega, by omega⟩) (fun k hk => ⟨hk.1, hk.2.1, hk.2.2.1⟩) d1
   (by rw [List.length_append]; omega) (by rw [List.length_append]; omega) (by rw [List.getD_eq_getElem?_getD, List.getElem?_append_left hil, ← List.getD_eq_getElem?_getD]) (hn x hxl)).mono ?_
  rintro e' w' ⟨r1, r2, r3, r4, r5, r6, gb', cap', r7, r8, r9⟩
  have hcomb : (if p x = true then part ++ pre.filter p ++ [x] else part ++ pre.filter p) = part ++ (pre ++ [x]).filter p := by
   rw [List.filter_append]
   cases hq : p x with
   | true => rw [if_pos rfl, List.append_assoc, List.filter_cons, hq]; rfl
   | false => rw [if_neg (by decide), List.filter_cons, hq]; simp
  rw [hcomb] at r7 r8
  refine ⟨r1, ⟨Nat.le_trans hs r3.1, gb', ?_, cap', r4, r5, r7, r6, r8⟩, r2, r3.mono (fun k hk => ?_)⟩
  ·
   rcases r9 with r9 | r9
   ·
    rw [r9]; exact hg
   ·
    exact .inr (Nat.le_trans hs r9)
  ·
   rcases hk with hk | hk
   ·
    exact .inl hk
   ·
    rcases hg with hg | hg
    ·
     exact .inr (.inr (hk.trans hg))
    ·
     exact .inr (.inl (by omega))
 ·
  rintro e' w' ⟨r1, r2, ⟨r3, gb', r4, r5⟩, r6, r7⟩
  exact ⟨r1, r2, r6, r7, r3, gb', r4, r5⟩
/-- A part grows: for each of its cells what is next to it comes from what is left. -/
def growP (near : Int → Int → Bool) : Nat → List Int → List Int → Nat → List Int × List Int
 | 0, part, left, _ => (part, left)
 | n + 1, part, left, i => if i < part.length then growP near n (part ++ left.filter (near (part.getD i 0))) (left.filter fun x => !near (part.getD i 0) x) (i + 1) else (part, left)
/-- The parts, each in order. -/
def partsS (near : Int → Int → Bool) : Nat → List Int → List (List Int)
 | 0, _ => []
 | _ + 1, [] => []
 | n + 1, c :: r => ((growP near (r.length + 1) [c] r 0).1.mergeSort fun x y => decide (x ≤ y)) :: partsS near n (growP near (r.length + 1) [c] r 0).2
theorem growP_done (near : Int → Int → Bool) {part : List Int} {i : Nat} (h : ¬ i < part.length) (left : List Int) : ∀ n, growP near n part left i = (part, left)
 | 0 => rfl
 | n + 1 => by unfold growP; rw [if_neg h]
theorem length_split (p : Int → Bool) : ∀ l : List Int, l.length = (l.filter p).length + (l.filter fun x => !p x).length
 | [] => rfl
 | x :: r => by
  have := length_split p r
  cases h : p x <;> simp [List.filter_cons, h] <;> omega
theorem partsS_nil (near : Int → Int → Bool) : ∀ n, partsS near n [] = []
 | 0 => rfl
 | _ + 1 => rfl
theorem getD_mem {l : List Int} {i : Nat} (h : i < l.length) : l.getD i 0 ∈ l := by
 rw [Gen.getD_lt l 0 i h]; exact List.getElem_mem h
theorem R_one (W : World) (base : Nat) (ok : Nat → Prop) (x : Int) (hb : base ≤ W.heap.size) (hok : ok W.heap.size) : Kd.R (Kd.int .i64) 3 (W.alloc (.cells #[.int .i64 x] 3)) base ok (.slice (some ⟨W.heap.size, 0, none⟩) 1 1) [x] :=
 Kd.R_of_own (own_lit W base 3 .i64 [x] hb (by simp)) (fun k hk => by
  have : W.heap.size = k := by simpa [Value.ownBlock] using hk
  rw [← this]; exact hok)
theorem R_int_ok {W : World} {b g n c : Nat} {ok ok' : Nat → Prop} {xs : List Int} (h : Kd.R (Kd.int .i64) 3 W b ok (.slice (some ⟨g, 0, none⟩) n c) xs) (hg : ok' g) : Kd.R (Kd.int .i64) 3 W b ok' (.slice (some ⟨g, 0, none⟩) n c) xs :=
 Kd.R_of_own (Kd.own_of_R h) (fun k hk => by
  have : g = k := by simpa [Value.ownBlock] using hk
  rw [← this]; exact hg)
/-- slices.Sort at a row of the call's own. -/
theorem sortI.calls (P0_ : Nat → Prop) (u : Value) (l0 : List Int) (w0 w : World) (hB : Below w0.heap.size w0 w) (ho0 : Kd.R (Kd.int .i64) 3 w w0.heap.size P0_ u l0) (h0 : 0 < l0.length) (hs : l0.length < 4611686018427387904) :
  Calls Try.prog 29 #[u] w fun e w' => e = .returned (.tuple #[]) ∧ Kd.R (Kd.int .i64) 3 w' w0.heap.size P0_ u (l0.mergeSort fun x y => decide (x ≤ y)) ∧ Below w0.heap.size w0 w' ∧ w.grownBy w' u.ownBlock := by
 have hok := ho0.1
 have ho := Kd.own_of_R ho0
 obtain ⟨hlen, hor⟩ := ho
 rcases hor with ⟨rfl, hn⟩ | ⟨g, cap, cur, rfl, hg, hh, hncap, hcap, hcs, htk⟩
 ·
  omega
 rw [Nat.mul_one] at htk
 refine (Try.slices_Sort_int g 0 cap l0 w (Go.holds_of_blockI hh htk) (blk_lt hh) hs).mono ?_
 rintro e w' ⟨rfl, n, os, rfl⟩
 have hl : (l0.mergeSort fun x y => decide (x ≤ y)).length = l0.length := List.length_mergeSort _
 refine ⟨rfl, Kd.R_of_own ?_ hok, hB.grown (Go.grownBy_sortedI _) hB.size (fun k hk => by cases hk; exact hg), Go.grownBy_sortedI _⟩
 rw [hl]
 exact Go.ownsRow_sortedI hl hg hh hncap hcap hcs
/-- A part of one cell, in boxes of its own. -/
theorem PartAt_new (w0 W : World) (wide c : Int) (Bw gl : Nat) (hw : W.cell? ⟨Bw, 0, none⟩ = some (.int .i64 wide)) (hb : w0.heap.size ≤ W.heap.size) (hgl : gl < W.heap.size) (e : Nat) :
  PartAt w0 (((W.alloc (.cells #[.int .i64 c] 3)).alloc (.cells #[.slice (some ⟨W.heap.size, 0, none⟩) 1 1] e)).alloc (.cells #[.int .i64 0] 3)) wide Bw (W.heap.size + 1) (W.heap.size + 2) gl 0 [c] W.heap.size := by
 have hlt : Bw < W.heap.size := World.block_lt_of_cell? W _ hw
 obtain ⟨W1, hW1⟩ : ∃ W1, W1 = W.alloc (.cells #[.int .i64 c] 3) := ⟨_, rfl⟩
 obtain ⟨W2, hW2⟩ : ∃ W2, W2 = W1.alloc (.cells #[.slice (some ⟨W.heap.size, 0, none⟩) 1 1] e) := ⟨_, rfl⟩
 have s1 : W1.heap.size = W.heap.size + 1 := by rw [hW1, World.size_alloc]
 have s2 : W2.heap.size = W.heap.size + 2 := by rw [hW2, World.size_alloc, s1]
 have b1 : Below W.heap.size W W1 := by rw [hW1]; exact (Below.refl _ W).alloc (Nat.le_refl _) _
 have b2 : Below W1.heap.size W1 W2 := by rw [hW2]; exact (Below.refl _ W1).alloc (Nat.le_refl _) _
 have b3 : Below W2.heap.size W2 (W2.alloc (.cells #[.int .i64 0] 3)) := (Below.refl _ W2).alloc (Nat.le_refl _) _
 have n2 : W2.heap[W1.heap.size]? = some (.cells #[.slice (some ⟨W.heap.size, 0, none⟩) 1 1] e (0, 0)) := by rw [hW2]; exact heap_alloc_new W1 _
 have n3 : (W2.alloc (.cells #[.int .i64 0] 3)).heap[W2.heap.size]? = some (.cells #[.int .i64 0] 3 (0, 0)) := heap_alloc_new W2 _
 have r1 := R_one W w0.heap.size (fun k => k ≠ W.heap.size + 1 ∧ k ≠ W.heap.size + 2 ∧ k ≠ Bw ∧ k ≠ gl) c hb ⟨by omega, by omega, by omega, by omega⟩
 rw [← hW1] at r1 ⊢
 rw [← hW2]
 rw [s2] at n3
 rw [s1] at n2
 have n4 := blk_below n2 b3
 exact ⟨1, (b3.cell (p := ⟨Bw, 0, none⟩) (by show Bw < _; omega)).trans ((b2.cell (p := ⟨Bw, 0, none⟩) (by show Bw < _; omega)).trans ((b1.cell (p := ⟨Bw, 0, none⟩) hlt).trans hw)), blk_cell n3 0, blk_cell n4 0, blk_frozen n4 0, Kd.R_below (Kd.R_below r1 b2) b3⟩
set_option maxHeartbeats 8000000 in
set_option maxRecDepth 1000000 in
theorem regionPartsW.calls
  (near : Int → Int → Bool) (wide : Int) (A0 : Option Addr) (c0 : Nat) (l : List Int) (w : World) (hr0 : Kd.C (Kd.int .i64) w A0 l.length l) (hc0 : l.length ≤ c0) (hl : l.length ≤ 999) (hnear : ∀ a ∈ l, ∀ x ∈ l, impl_areConnected.f wide a x = some (near a x)) :
  Calls Try.prog 15 #[.int .i64 wide, .slice A0 l.length c0] w fun e w' => ∃ v0_ : Value, e = .returned v0_ ∧ Kd.S (Kd.slice 3 (Kd.int .i64)) 22 w' w.heap.size (fun _ => True) v0_ (partsS near l.length l) ∧ Below w.heap.size w w' := by
 have HN := Aside0.mk hnear
 have HR := Aside0.mk hr0
 have HC := Aside0.mk hc0
 obtain ⟨W1, hW1⟩ : ∃ W1, W1 = w.alloc (.cells #[.int .i64 wide] 3) := ⟨_, rfl⟩
 have hB1 : Below w.heap.size w W1 := by rw [hW1]; exact (Below.refl _ w).alloc (Nat.le_refl _) _
 have hN1 : W1.heap[w.heap.size]? = some (.cells #[.int .i64 wide] 3 (0, 0)) := by rw [hW1]; exact heap_alloc_new w _
 have HW := Aside0.mk hW1
 have HB1 := Aside0.mk hB1
 have HN1 := Aside0.mk hN1
 clear hnear hr0 hc0 hW1 hB1 hN1
 go_enter Try.func15, Try.ntmps15
 go_wp2_with (go_at_call 25; rw [← HW.out]; refine (slices_Clone_int_int.calls A0 c0 l l W1 (Kd.C_below HR.out HB1.out) HC.out (if_pos (by omega))).mono ?_; rintro e w2 ⟨v2, rfl, ho2, hb2⟩)
 obtain ⟨Al0, cl0, ev2⟩ := Kd.R_slice ho2
 subst ev2
 have hBw2 : w2.heap[w.heap.size]? = some (.cells #[.int .i64 wide] 3 (0, 0)) := blk_below HN1.out hb2
 have HB2 := Aside0.mk (below_step HB1.out hb2)
 have hW1s : W1.heap.size = w.heap.size + 1 := by rw [HW.out, World.size_alloc]
 obtain ⟨gl, hgl, hfirst⟩ : ∃ gl : Nat, gl < w2.heap.size ∧ (0 < l.length → w.heap.size < gl ∧ ∃ off : Nat, Al0 = some ⟨gl, off, none⟩ ∧ RowAt w2 gl off l ∧ off + l.length ≤ 1000) := by
  by_cases h : 0 < l.length
  ·
   obtain ⟨g, cap, ev, hg, hlt, cs, hcs⟩ := Kd.R_form ho2 h
   injection ev with e1 _ _
   refine ⟨g, hlt, fun _ => ⟨by omega, 0, e1, ⟨cs, hcs, fun t ht => ?_⟩, by omega⟩⟩
   subst e1
   have := (Kd.R_celln 0 ho2 (t : Int) (by omega) (by omega)).1
   rw [Int.toNat_natCast] at this
   rw [Nat.zero_add]
   exact (blk_cell hcs t).symm.trans this
  ·
   exact ⟨w.heap.size, blk_lt hBw2, fun h2 => absurd h2 h⟩
 have HF := Aside0.mk hfirst
 have hcl0 := (Kd.R_reads' ho2).2.1
 have hgl2 := Aside0.mk hgl
 clear hfirst ho2 hb2 hW1s hgl
 have hbw := Aside0.mk hBw2
 clear hBw2
 go_loopg [5, 6] (l.length + 1) (fun gg s5 s6 wr => ∃ (left : List Int) (Al : Option Addr) (cl : Nat) (pl : List (List Int)), s6 = .slice Al left.length cl ∧ left.length < gg ∧ left.length ≤ cl ∧ pl.length + left.length ≤ l.length ∧ Aside0 (∀ x ∈ left, x ∈ l) ∧
  Aside0 (0 < left.length → w.heap.size < gl ∧ ∃ off : Nat, Al = some ⟨gl, off, none⟩ ∧ RowAt wr gl off left ∧ off + left.length ≤ 1000) ∧ Aside0 (gl < wr.heap.size) ∧ Aside0 (Kd.S (Kd.slice 3 (Kd.int .i64)) 22 wr w.heap.size (fun k => k ≠ gl ∧ k ≠ w.heap.size) s5 pl) ∧
  Aside0 (∃ n, left.length ≤ n ∧ pl ++ partsS near n left = partsS near l.length l) ∧ Aside0 (wr.heap[w.heap.size]? = some (.cells #[.int .i64 wide] 3 (0, 0))) ∧ Aside0 (Below w.heap.size w wr))
 case atStart => exact ⟨l, Al0, cl0, [], rfl, by omega, hcl0, by rw [List.length_nil]; omega, ⟨fun x h => h⟩, HF, hgl2, ⟨Kd.S_nil _ _ _ _ _⟩, ⟨l.length, Nat.le_refl _, rfl⟩, hbw, HB2⟩
 case round =>
  obtain ⟨left, Al, cl, pl, rfl, hgg, hlc, hhl, HL, HA, HGL, HP, HQ, HW2, HB⟩ := hrel
  cases left with
  | nil =>
   go_wp2
   go_ret
   obtain ⟨n, hn, he⟩ := HQ.out
   rw [partsS_nil, List.append_nil] at he
   exact ⟨_, rfl, by rw [← he]; exact Kd.S_mono HP.out (fun _ _ => trivial), HB.out⟩
  | cons c r =>
   obtain ⟨hglw, off, rfl, hrow, hoff⟩ := HA.out (by simp)
   have hx0 := (hrow.cell (t := 0) (by simp)).1
   rw [Nat.add_zero] at hx0
   have HM1 : Aside0 ((c :: r).length = r.length + 1) := ⟨List.length_cons⟩
   generalize hmE : (c :: r).length = m at hgg hlc hhl hoff HM1 hx0 ⊢
   have hm1 : 0 < m := by have := HM1.out; omega
   have hm2 : ((m : Int) > 0) = True := eq_true (by omega)
   have hm3 : ((1 : Int) ≤ (m : Int)) = True := eq_true (by omega)
   clear hmE
   have HM : Aside0 (∀ x, x ∈ [c] ∨ x ∈ r → x ∈ l) := ⟨fun x hx => HL.out x (by rcases hx with h | h; exact List.mem_cons.2 (.inl (List.mem_singleton.1 h)); exact List.mem_cons.2 (.inr h))⟩
   have HROW := Aside0.mk hrow
   have hgl3 := hrow.lt
   have hwr := HB.out.size
   have HPART := Aside0.mk (PartAt_new w wr wide c w.heap.size gl (blk_cell HW2.out 0) hwr hgl3 22)
   clear HA
   by_cases hcl : cl = 1
   ·
    subst hcl
    have hmv : m = 1 := by omega
    subst hmv
    have HR0 : Aside0 (r.length = 1 - 1) := ⟨by have := HM1.out; omega⟩
    have HROF : Aside0 (RowAt wr gl off r) := ⟨by rw [List.eq_nil_of_length_eq_zero HR0.out]; exact hrow.take 0⟩
    clear hrow

    go_wp2
    obtain ⟨fo, hfo⟩ : ∃ fo, fo = gk := ⟨_, rfl⟩
    subst hfo
    obtain ⟨wo, hwo⟩ : ∃ wo, wo = wr := ⟨_, rfl⟩
    subst hwo
    go_loopg [6, 8] (1 + 1) (fun gg s6 s8 wi => ∃ (i gp Bi : Nat) (part left2 : List Int), s6 = .slice (some ⟨gl, off, none⟩) left2.length 0 ∧ s8 = .pointer (some ⟨Bi, 0, none⟩) ∧ part.length + left2.length = 1 ∧ 1 ≤ part.length ∧ i ≤ part.length ∧ 1 + 1 - i ≤ gg ∧ wo.heap.size ≤ gp ∧ wo.heap.size + 2 ≤ Bi ∧
     Aside0 (∀ x, x ∈ part ∨ x ∈ left2 → x ∈ l) ∧ Aside0 (growP near (1 - i) part left2 i = growP near (r.length + 1) [c] r 0) ∧ Aside0 (PartAt w wi wide w.heap.size (wo.heap.size + 1) Bi gl i part gp) ∧ Aside0 (RowAt wi gl off left2) ∧ Aside0 (Below w.heap.size w wi) ∧ Aside0 (Kept wo wi (fun k => k = gl)))
    case atStart =>
     refine ⟨0, wo.heap.size, wo.heap.size + 2, [c], r, by rw [HR0.out], rfl, by have := HR0.out; rw [List.length_singleton]; omega, by simp, by simp, by omega, Nat.le_refl _, Nat.le_refl _, ⟨HM.out⟩, ⟨congrArg (fun n => growP near n [c] r 0) (show 1 - 0 = r.length + 1 by have := HR0.out; omega)⟩, HPART, ?_, ?_, ?_⟩
     ·
      exact ⟨HROF.out.kept (((Kept.refl wo (fun _ => False)).alloc _).alloc _ |>.alloc _) (fun h => h)⟩
     ·
      exact ⟨((HB.out.alloc hwr _).alloc (by simp; omega) _).alloc (by simp; omega) _⟩
     ·
      exact ⟨((Kept.refl wo _).alloc _).alloc _ |>.alloc _⟩
    case round =>
     obtain ⟨i, gp, Bi, part, left2, rfl, rfl, hpl, hp1, hil, hgi, hgp, hBi, HMi, HGi, HPi, HRi, HBi, HKi⟩ := hrel
     obtain ⟨cap, c1, c2, c3, c4, c5⟩ := HPi.out
     by_cases hlt : i < part.length
     ·
      have hltz : ((i : Int) < (part.length : Int)) = True := eq_true (by omega)
      obtain ⟨y, hy⟩ : ∃ y, part.getD i 0 = y := ⟨_, rfl⟩
      have HY := Aside0.mk hy
      clear hy
      go_wp2_with (go_at_call 26; refine (partRound.calls (near y) wide i part left2 w.heap.size (wo.heap.size + 1) Bi gl off 0 gp w wr HBi.out (by omega) (by omega) ⟨by omega, by omega⟩ ⟨by omega, by omega, by omega⟩ HPi.out HRi.out (by omega) (by omega) hlt (by omega) (fun x hx => by rw [HY.out]; exact HN.out _ (HMi.out _ (.inl (by rw [← HY.out]; exact getD_mem hlt))) _ (HMi.out _ (.inr hx)))).mono ?_; rintro e w3 ⟨rfl, k1, k2, k3, k4, gp3, k5, cap3, b1, b2, b3, b4, b5⟩)
      have hs3 : wo.heap.size ≤ wr.heap.size := HKi.out.1
      have hlen := length_split (near y) left2
      have hgrow : growP near (1 - (i + 1)) (part ++ left2.filter (near y)) (left2.filter fun x => !near y x) (i + 1) = growP near (r.length + 1) [c] r 0 := by
       rw [← HGi.out, show 1 - i = (1 - (i + 1)) + 1 by omega, growP, if_pos hlt, HY.out]
      obtain ⟨W5, hW5⟩ : ∃ W5, W5 = w3.alloc (.cells #[.int .i64 ((i : Int) + 1)] 3) := ⟨_, rfl⟩
      have q1 : Below w3.heap.size w3 W5 := by rw [hW5]; exact (Below.refl _ w3).alloc (Nat.le_refl _) _
      have q2 : W5.heap[w3.heap.size]? = some (.cells #[.int .i64 ((i : Int) + 1)] 3 (0, 0)) := by rw [hW5]; exact heap_alloc_new w3 _
      rw [← hW5]
      go_roundg (1 + 1 - (i + 1))
      case measure => omega
      case rel =>
       have l1 : w.heap.size < w3.heap.size := by omega
       have l2 : wo.heap.size + 1 < w3.heap.size := World.block_lt_of_cell? w3 _ b3
       have l4 : gl < w3.heap.size := k1.lt
       refine ⟨i + 1, gp3, w3.heap.size, part ++ left2.filter (near y), left2.filter fun x => !near y x, rfl, rfl, by rw [List.length_append]; omega, by rw [List.length_append]; omega, by rw [List.length_append]; omega, by omega, by omega, by omega, ⟨?_⟩, ⟨hgrow⟩, ⟨cap3, ?_, ?_, ?_, ?_, ?_⟩, ⟨?_⟩, ⟨?_⟩, ⟨?_⟩⟩
       ·
        intro x hx
        rcases hx with h | h
        ·
         rcases List.mem_append.1 h with h | h
         ·
          exact HMi.out x (.inl h)
         ·
          exact HMi.out x (.inr (List.mem_filter.1 h).1)
        ·
         exact HMi.out x (.inr (List.mem_filter.1 h).1)
       ·
        exact (q1.cell (p := ⟨w.heap.size, 0, none⟩) l1).trans b1
       ·
        rw [Int.natCast_add]; exact blk_cell q2 0
       ·
        exact (q1.cell (p := ⟨wo.heap.size + 1, 0, none⟩) l2).trans b3
       ·
        exact (World.frozen?_of_block (a := ⟨wo.heap.size + 1, 0, none⟩) (q1.block _ l2)).trans b4
       ·
        have l5 := b5.1 gp3 rfl
        have l6 := Kd.R_lt b5 gp3 rfl
        exact R_int_ok (Kd.R_below b5 q1) ⟨l5.1, by omega, l5.2.2.1, l5.2.2.2⟩
       ·
        exact k1.kept (Kept.of_below q1 (fun _ => False)) (fun h => h)
       ·
        exact k2.trans (q1.mono (by omega))
       ·
        exact (HKi.out.then_ k3 (fun k hk => by rcases hk with h | h | h | h; exact .inl h; exact .inr (by omega); exact .inr (by omega); exact .inr (by omega))).below q1
     ·
      have hltz : ((i : Int) < (part.length : Int)) = False := eq_false (by omega)
      have hs5 := Kd.S_lt HP.out
      have hgp1 := (c5.1 gp rfl).1
      have hsz := HKi.out.1
      have hne1 : some (wo.heap.size + 1) ≠ (Value.slice (some ⟨gp, 0, none⟩) part.length cap).ownBlock := fun e => hgp1 (by injection e with e; exact e.symm)
      go_wp2_with (first
       | (go_at_call 29; refine (sortI.calls _ _ part w wr HBi.out c5 (by omega) (by omega)).mono ?_; rintro e w3 ⟨rfl, k1, k2, k3⟩; have b3 := cell_grown (a := ⟨wo.heap.size + 1, 0, none⟩) k3 c3 hne1; have k4 := k3.size)
       | ((with_reducible refine gate_builtin (b := .append) (xs := #[.tmp 32, .tmp 34]) rfl ?_); at_builtin; refine Kd.S_append (Kd.slice 3 (Kd.int .i64)) (w0 := w) w.heap.size rfl (.tmp 32) (.tmp 34) 37 22 (.slice none 0 0) 24 rfl Try.underlying37 info22 rfl (by decide) (by omega) u5 pl (part.mergeSort fun x y => decide (x ≤ y)) [.slice (some ⟨gp, 0, none⟩) part.length cap] (fun k => k ≠ gl ∧ k ≠ w.heap.size) (fun k => k = gp) rfl rfl ?aP ?aK ?aF ?aO ?aB ?aS ?aL ?_; (case aP => exact ⟨_, rfl, R_int_ok k1 rfl⟩); (case aK => intro k hk; subst hk; exact ⟨⟨by omega, by omega⟩, fun e => absurd (hs5 _ e.symm) (by omega)⟩); (case aF => intro k hk; exact ⟨by omega, by omega⟩); (case aO => exact Kd.S_mono (Kd.S_step (Kd.S_bound HP.out) (fun k hk hk2 => (k3.block k (by omega) (fun e => by have e2 : some k = some gp := e; injection e2 with e3; omega)).trans (HKi.out.2 k hk2 hk.1.1))) (fun k hk => ⟨hk.1, fun e => by have := hk.2.2.1; omega⟩)); (case aB => exact k2); (case aS => exact k2.size); (case aL => omega); intro v9 w9 ho9 hb9 hg9 hat9))
      have hdone : (part, left2) = growP near (r.length + 1) [c] r 0 := by rw [← HGi.out]; exact (growP_done near hlt left2 _).symm
      have hbig : ∀ k, k < wr.heap.size → k ≠ gp → u5.ownBlock ≠ some k → w9.heap[k]? = wr.heap[k]? := fun k q1 q2 q3 => (hg9.block k (by omega) (fun e => q3 e.symm)).trans (k3.block k q1 (fun e => by have e2 : some k = some gp := e; injection e2 with e3; omega))
      have hn1 : u5.ownBlock ≠ some gl := fun e => ((Kd.S_R HP.out).1 gl e).1 rfl
      have hn2 : u5.ownBlock ≠ some w.heap.size := fun e => ((Kd.S_R HP.out).1 _ e).2 rfl
      have hgpx := c5.1 gp rfl
      have hsz9 := hg9.size
      have hglr := HRi.out.lt
      have hw0 := World.block_lt_of_cell? wr _ c1
      go_roundg 1
      case measure => omega
      case rel =>
       refine ⟨left2, some ⟨gl, off, none⟩, 0, pl ++ [part.mergeSort fun x y => decide (x ≤ y)], rfl, by omega, by omega, by rw [List.length_append, List.length_singleton]; omega, ⟨fun x hx => HMi.out x (.inr hx)⟩, ⟨fun _ => ⟨hglw, off, rfl, ?_, by omega⟩⟩, ⟨by omega⟩, ⟨ho9⟩, ⟨?_⟩, ⟨?_⟩, ⟨hb9⟩⟩
       ·
        obtain ⟨cs, h1, h2⟩ := HRi.out
        exact ⟨cs, (hbig gl hglr (fun e => hgpx.2.2.2 e.symm) hn1).trans h1, h2⟩
       ·
        obtain ⟨n, hn, he⟩ := HQ.out
        rw [List.length_cons] at hn
        obtain ⟨n', rfl⟩ : ∃ n', n = n' + 1 := ⟨n - 1, by omega⟩
        have hM1 := HM1.out
        refine ⟨n', by omega, ?_⟩
        rw [← he, partsS, ← hdone, List.append_assoc]
        rfl
       ·
        refine (hbig w.heap.size (by omega) (fun e => hgpx.2.2.1 e.symm) hn2).trans ?_
        exact (HKi.out.2 _ (by omega) (by omega)).trans HW2.out

   ·
    have HR0 : Aside0 (r.length = m - 1) := ⟨by have := HM1.out; omega⟩
    have HROF : Aside0 (RowAt wr gl (off + 1) r) := ⟨hrow.tail⟩
    clear hrow

    go_wp2
    obtain ⟨fo, hfo⟩ : ∃ fo, fo = gk := ⟨_, rfl⟩
    subst hfo
    obtain ⟨wo, hwo⟩ : ∃ wo, wo = wr := ⟨_, rfl⟩
    subst hwo
    go_loopg [6, 8] (m + 1) (fun gg s6 s8 wi => ∃ (i gp Bi : Nat) (part left2 : List Int), s6 = .slice (some ⟨gl, (off + 1), none⟩) left2.length (cl - 1) ∧ s8 = .pointer (some ⟨Bi, 0, none⟩) ∧ part.length + left2.length = m ∧ 1 ≤ part.length ∧ i ≤ part.length ∧ m + 1 - i ≤ gg ∧ wo.heap.size ≤ gp ∧ wo.heap.size + 2 ≤ Bi ∧
     Aside0 (∀ x, x ∈ part ∨ x ∈ left2 → x ∈ l) ∧ Aside0 (growP near (m - i) part left2 i = growP near (r.length + 1) [c] r 0) ∧ Aside0 (PartAt w wi wide w.heap.size (wo.heap.size + 1) Bi gl i part gp) ∧ Aside0 (RowAt wi gl (off + 1) left2) ∧ Aside0 (Below w.heap.size w wi) ∧ Aside0 (Kept wo wi (fun k => k = gl)))
    case atStart =>
     refine ⟨0, wo.heap.size, wo.heap.size + 2, [c], r, by rw [HR0.out], rfl, by have := HR0.out; rw [List.length_singleton]; omega, by simp, by simp, by omega, Nat.le_refl _, Nat.le_refl _, ⟨HM.out⟩, ⟨congrArg (fun n => growP near n [c] r 0) (show m - 0 = r.length + 1 by have := HR0.out; omega)⟩, HPART, ?_, ?_, ?_⟩
     ·
      exact ⟨HROF.out.kept (((Kept.refl wo (fun _ => False)).alloc _).alloc _ |>.alloc _) (fun h => h)⟩
     ·
      exact ⟨((HB.out.alloc hwr _).alloc (by simp; omega) _).alloc (by simp; omega) _⟩
     ·
      exact ⟨((Kept.refl wo _).alloc _).alloc _ |>.alloc _⟩
    case round =>
     obtain ⟨i, gp, Bi, part, left2, rfl, rfl, hpl, hp1, hil, hgi, hgp, hBi, HMi, HGi, HPi, HRi, HBi, HKi⟩ := hrel
     obtain ⟨cap, c1, c2, c3, c4, c5⟩ := HPi.out
     by_cases hlt : i < part.length
     ·
      have hltz : ((i : Int) < (part.length : Int)) = True := eq_true (by omega)
      obtain ⟨y, hy⟩ : ∃ y, part.getD i 0 = y := ⟨_, rfl⟩
      have HY := Aside0.mk hy
      clear hy
      go_wp2_with (go_at_call 26; refine (partRound.calls (near y) wide i part left2 w.heap.size (wo.heap.size + 1) Bi gl (off + 1) (cl - 1) gp w wr HBi.out (by omega) (by omega) ⟨by omega, by omega⟩ ⟨by omega, by omega, by omega⟩ HPi.out HRi.out (by omega) (by omega) hlt (by omega) (fun x hx => by rw [HY.out]; exact HN.out _ (HMi.out _ (.inl (by rw [← HY.out]; exact getD_mem hlt))) _ (HMi.out _ (.inr hx)))).mono ?_; rintro e w3 ⟨rfl, k1, k2, k3, k4, gp3, k5, cap3, b1, b2, b3, b4, b5⟩)
      have hs3 : wo.heap.size ≤ wr.heap.size := HKi.out.1
      have hlen := length_split (near y) left2
      have hgrow : growP near (m - (i + 1)) (part ++ left2.filter (near y)) (left2.filter fun x => !near y x) (i + 1) = growP near (r.length + 1) [c] r 0 := by
       rw [← HGi.out, show m - i = (m - (i + 1)) + 1 by omega, growP, if_pos hlt, HY.out]
      obtain ⟨W5, hW5⟩ : ∃ W5, W5 = w3.alloc (.cells #[.int .i64 ((i : Int) + 1)] 3) := ⟨_, rfl⟩
      have q1 : Below w3.heap.size w3 W5 := by rw [hW5]; exact (Below.refl _ w3).alloc (Nat.le_refl _) _
      have q2 : W5.heap[w3.heap.size]? = some (.cells #[.int .i64 ((i : Int) + 1)] 3 (0, 0)) := by rw [hW5]; exact heap_alloc_new w3 _
      rw [← hW5]
      go_roundg (m + 1 - (i + 1))
      case measure => omega
      case rel =>
       have l1 : w.heap.size < w3.heap.size := by omega
       have l2 : wo.heap.size + 1 < w3.heap.size := World.block_lt_of_cell? w3 _ b3
       have l4 : gl < w3.heap.size := k1.lt
       refine ⟨i + 1, gp3, w3.heap.size, part ++ left2.filter (near y), left2.filter fun x => !near y x, rfl, rfl, by rw [List.length_append]; omega, by rw [List.length_append]; omega, by rw [List.length_append]; omega, by omega, by omega, by omega, ⟨?_⟩, ⟨hgrow⟩, ⟨cap3, ?_, ?_, ?_, ?_, ?_⟩, ⟨?_⟩, ⟨?_⟩, ⟨?_⟩⟩
       ·
        intro x hx
        rcases hx with h | h
        ·
         rcases List.mem_append.1 h with h | h
         ·
          exact HMi.out x (.inl h)
         ·
          exact HMi.out x (.inr (List.mem_filter.1 h).1)
        ·
         exact HMi.out x (.inr (List.mem_filter.1 h).1)
       ·
        exact (q1.cell (p := ⟨w.heap.size, 0, none⟩) l1).trans b1
       ·
        rw [Int.natCast_add]; exact blk_cell q2 0
       ·
        exact (q1.cell (p := ⟨wo.heap.size + 1, 0, none⟩) l2).trans b3
       ·
        exact (World.frozen?_of_block (a := ⟨wo.heap.size + 1, 0, none⟩) (q1.block _ l2)).trans b4
       ·
        have l5 := b5.1 gp3 rfl
        have l6 := Kd.R_lt b5 gp3 rfl
        exact R_int_ok (Kd.R_below b5 q1) ⟨l5.1, by omega, l5.2.2.1, l5.2.2.2⟩
       ·
        exact k1.kept (Kept.of_below q1 (fun _ => False)) (fun h => h)
       ·
        exact k2.trans (q1.mono (by omega))
       ·
        exact (HKi.out.then_ k3 (fun k hk => by rcases hk with h | h | h | h; exact .inl h; exact .inr (by omega); exact .inr (by omega); exact .inr (by omega))).below q1
     ·
      have hltz : ((i : Int) < (part.length : Int)) = False := eq_false (by omega)
      have hs5 := Kd.S_lt HP.out
      have hgp1 := (c5.1 gp rfl).1
      have hsz := HKi.out.1
      have hne1 : some (wo.heap.size + 1) ≠ (Value.slice (some ⟨gp, 0, none⟩) part.length cap).ownBlock := fun e => hgp1 (by injection e with e; exact e.symm)
      go_wp2_with (first
       | (go_at_call 29; refine (sortI.calls _ _ part w wr HBi.out c5 (by omega) (by omega)).mono ?_; rintro e w3 ⟨rfl, k1, k2, k3⟩; have b3 := cell_grown (a := ⟨wo.heap.size + 1, 0, none⟩) k3 c3 hne1; have k4 := k3.size)
       | ((with_reducible refine gate_builtin (b := .append) (xs := #[.tmp 32, .tmp 34]) rfl ?_); at_builtin; refine Kd.S_append (Kd.slice 3 (Kd.int .i64)) (w0 := w) w.heap.size rfl (.tmp 32) (.tmp 34) 37 22 (.slice none 0 0) 24 rfl Try.underlying37 info22 rfl (by decide) (by omega) u5 pl (part.mergeSort fun x y => decide (x ≤ y)) [.slice (some ⟨gp, 0, none⟩) part.length cap] (fun k => k ≠ gl ∧ k ≠ w.heap.size) (fun k => k = gp) rfl rfl ?aP ?aK ?aF ?aO ?aB ?aS ?aL ?_; (case aP => exact ⟨_, rfl, R_int_ok k1 rfl⟩); (case aK => intro k hk; subst hk; exact ⟨⟨by omega, by omega⟩, fun e => absurd (hs5 _ e.symm) (by omega)⟩); (case aF => intro k hk; exact ⟨by omega, by omega⟩); (case aO => exact Kd.S_mono (Kd.S_step (Kd.S_bound HP.out) (fun k hk hk2 => (k3.block k (by omega) (fun e => by have e2 : some k = some gp := e; injection e2 with e3; omega)).trans (HKi.out.2 k hk2 hk.1.1))) (fun k hk => ⟨hk.1, fun e => by have := hk.2.2.1; omega⟩)); (case aB => exact k2); (case aS => exact k2.size); (case aL => omega); intro v9 w9 ho9 hb9 hg9 hat9))
      have hdone : (part, left2) = growP near (r.length + 1) [c] r 0 := by rw [← HGi.out]; exact (growP_done near hlt left2 _).symm
      have hbig : ∀ k, k < wr.heap.size → k ≠ gp → u5.ownBlock ≠ some k → w9.heap[k]? = wr.heap[k]? := fun k q1 q2 q3 => (hg9.block k (by omega) (fun e => q3 e.symm)).trans (k3.block k q1 (fun e => by have e2 : some k = some gp := e; injection e2 with e3; omega))
      have hn1 : u5.ownBlock ≠ some gl := fun e => ((Kd.S_R HP.out).1 gl e).1 rfl
      have hn2 : u5.ownBlock ≠ some w.heap.size := fun e => ((Kd.S_R HP.out).1 _ e).2 rfl
      have hgpx := c5.1 gp rfl
      have hsz9 := hg9.size
      have hglr := HRi.out.lt
      have hw0 := World.block_lt_of_cell? wr _ c1
      go_roundg m
      case measure => omega
      case rel =>
       refine ⟨left2, some ⟨gl, (off + 1), none⟩, (cl - 1), pl ++ [part.mergeSort fun x y => decide (x ≤ y)], rfl, by omega, by omega, by rw [List.length_append, List.length_singleton]; omega, ⟨fun x hx => HMi.out x (.inr hx)⟩, ⟨fun _ => ⟨hglw, (off + 1), rfl, ?_, by omega⟩⟩, ⟨by omega⟩, ⟨ho9⟩, ⟨?_⟩, ⟨?_⟩, ⟨hb9⟩⟩
       ·
        obtain ⟨cs, h1, h2⟩ := HRi.out
        exact ⟨cs, (hbig gl hglr (fun e => hgpx.2.2.2 e.symm) hn1).trans h1, h2⟩
       ·
        obtain ⟨n, hn, he⟩ := HQ.out
        rw [List.length_cons] at hn
        obtain ⟨n', rfl⟩ : ∃ n', n = n' + 1 := ⟨n - 1, by omega⟩
        have hM1 := HM1.out
        refine ⟨n', by omega, ?_⟩
        rw [← he, partsS, ← hdone, List.append_assoc]
        rfl
       ·
        refine (hbig w.heap.size (by omega) (fun e => hgpx.2.2.1 e.symm) hn2).trans ?_
        exact (HKi.out.2 _ (by omega) (by omega)).trans HW2.out
/-- Is a cell next to another? -/
def nearF (wide a x : Int) : Bool := (impl_areConnected.f wide a x).getD false
def impl_regionParts.f (a0 : Int) (l1 : List Int) : Option (List (List Int)) := if l1.length ≤ 999 ∧ (∀ a ∈ l1, ∀ x ∈ l1, (impl_areConnected.f a0 a x).isSome = true) then some (partsS (nearF a0) l1.length l1) else none
theorem impl_regionParts.calls (a0 : Int) (A1 : Option Addr) (c1 : Nat) (l1 : List Int) (r : List (List Int)) (w : World) (hr1 : Kd.C (Kd.int .i64) w A1 l1.length l1) (hc1 : l1.length ≤ c1) (h : impl_regionParts.f a0 l1 = some r) :
  Calls Try.prog 15 #[.int .i64 a0, .slice A1 l1.length c1] w fun e w' => ∃ v0_ : Value, e = .returned v0_ ∧ Kd.S (Kd.slice 3 (Kd.int .i64)) 22 w' w.heap.size (fun _ => True) v0_ r ∧ Below w.heap.size w w' := by
 unfold impl_regionParts.f at h
 split at h
 ·
  rename_i hg
  obtain rfl := Option.some.inj h
  refine regionPartsW.calls (nearF a0) a0 A1 c1 l1 w hr1 hc1 hg.1 (fun a ha x hx => ?_)
  unfold nearF
  exact (Option.some_get (hg.2 a ha x hx)).symm.trans (by rw [Option.get_eq_getD (fallback := false)])
 ·
  exact absurd h (by simp)

end Go.Proofs.Ytgdpgoeddnnaaaa.Q
namespace Go.Proofs.Ytgdpgoeddnnaaaa.Q
open Go.RowKit Go.Proofs.YtgdpgoeddnnaaaaW.PrintWords Go.Proofs.YtgdpgoeddnnaaaaW.PrintLast Go.Proofs.YtgdpgoeddnnaaaaW.PrintMore
attribute [local go_sem] max2_int min2_int max_two min_two max_three min_three max_four min_four   -- for this text's walks alone
set_option linter.unusedVariables false
set_option linter.unusedSimpArgs false

/-! ### impl_cellsOf: function 16 -/
def impl_cellsOf.l0 : Nat → Int → List Int → List Int → Int → Int → Option (List Int)
 | 0, _, _, _, _, _ => none
 | k + 1, x1, x5, x9, x10, x11 => if x11 < x10 then (if 0 ≤ x11 then (if x11 < (x9.length : Int) then (if (rd x9 x11) = x1 then (if x5.length < 17592186044416 then (impl_cellsOf.l0 k x1 (x5 ++ [x11]) x9 x10 (wrap64 (x11 + 1))) else (none)) else (impl_cellsOf.l0 k x1 x5 x9 x10 (wrap64 (x11 + 1)))) else (none)) else (none)) else (some x5)
def impl_cellsOf.f (k : Nat) (a0_0 : Int) (a0_1 : Int) (l0_2 : List Int) (a1 : Int) : Option (List Int) := impl_cellsOf.l0 k a1 ([] : List Int) l0_2 (l0_2.length : Int) 0
theorem impl_cellsOf.mono_l : ∀ k, (∀ y0 y1 y2 y3 y4, LeO (impl_cellsOf.l0 k y0 y1 y2 y3 y4) (impl_cellsOf.l0 (k + 1) y0 y1 y2 y3 y4))
 | 0 => fun _ _ _ _ _ r h => by simp [impl_cellsOf.l0] at h
 | k + 1 => by
  have ih0 := impl_cellsOf.mono_l k
  ·
   intro y0 y1 y2 y3 y4
   unfold impl_cellsOf.l0
   repeat' first
   | (with_reducible exact ih0 _ _ _ _ _)
   | (with_reducible exact LeO.refl _)
   | (with_reducible exact LeO.none _)
   | (with_reducible refine LeO.ite ?_ ?_)
   | (with_reducible refine LeO.bind ?_ (fun _ => ?_))
   | exact ih0 _ _ _ _ _
   | exact LeO.none _
   | refine LeO.ite ?_ ?_
   | refine LeO.bind ?_ (fun _ => ?_)
theorem impl_cellsOf.mono : ∀ a0 a1 a2 a3 k, LeO (impl_cellsOf.f k a0 a1 a2 a3) (impl_cellsOf.f (k + 1) a0 a1 a2 a3) := by
 intro a0 a1 a2 a3 k
 have ih0 := impl_cellsOf.mono_l k
 unfold impl_cellsOf.f
 repeat' first
   | (with_reducible exact ih0 _ _ _ _ _)
   | (with_reducible exact LeO.refl _)
   | (with_reducible exact LeO.none _)
   | (with_reducible refine LeO.ite ?_ ?_)
   | (with_reducible refine LeO.bind ?_ (fun _ => ?_))
   | exact ih0 _ _ _ _ _
   | exact LeO.none _
   | refine LeO.ite ?_ ?_
   | refine LeO.bind ?_ (fun _ => ?_)
set_option maxHeartbeats 8000000 in
set_option maxRecDepth 100000 in
theorem impl_cellsOf.calls (k : Nat) (a0_0 : Int) (a0_1 : Int) (A0_2 : Option Addr) (c0_2 : Nat) (l0_2 : List Int) (a1 : Int) (r : List Int) (w : World) (hr0_2 : Kd.C (Kd.int .i64) w A0_2 l0_2.length l0_2) (hc0_2 : l0_2.length ≤ c0_2) (h : impl_cellsOf.f k a0_0 a0_1 l0_2 a1 = some r) :
  Calls Try.prog 16 #[.agg #[.int .i64 a0_0, .int .i64 a0_1, .slice A0_2 l0_2.length c0_2], .int .i64 a1] w fun e w' => ∃ v0_ : Value, e = .returned (v0_) ∧ Kd.R (Kd.int .i64) 3 w' w.heap.size (fun _ => True) v0_ r ∧ Below w.heap.size w w' := by
 have hu28 := Try.underlying28
 have HR0_2 := Aside0.mk hr0_2
 have HC0_2 := Aside0.mk hc0_2
 clear hr0_2 hc0_2
 have HB := Aside0.mk (Below.refl w.heap.size w)
 have H : (impl_cellsOf.l0 k a1 ([] : List Int) l0_2 (l0_2.length : Int) 0) = some r := h
 clear h
 have H' := Aside0.mk H
 clear H
 go_enter Try.func16, Try.ntmps16
 go_wp2_with (first | ((with_reducible refine gate_dst (N := 2) rfl ?_); refine box_event ?hg (N := 2) ?hd (cs := #[.int .i64 a0_0, .int .i64 a0_1, .slice A0_2 l0_2.length c0_2]) (t := 28) ?hr ?_; (case hd => rfl); (case hg => rfl); (case hr => first | (go_simp; done) | (go_simp; rfl)); intro gb303 hg w3 hbox hb; have n0_ := Aside0.mk (below_step (by repeat (first | (with_reducible first | exact HB.out | apply below_alloc | apply pw_below_drewN | apply below_drew1) | exact HB.out)) hb); have n1_ := Aside0.mk (hbox); have n2_ := Aside0.mk ((by rw [hg]; exact (below_size (by repeat (first | (with_reducible first | exact HB.out | apply below_alloc | apply pw_below_drewN | apply below_drew1) | exact HB.out))) : w.heap.size ≤ gb303)); have n3_ := Aside0.mk ((by rw [hg]; exact (below_size (by repeat (first | (with_reducible first | exact HB.out | apply below_alloc | apply pw_below_drewN | apply below_drew1) | exact HB.out))) : w.heap.size ≤ gb303)); clear HB; have HB := n0_; have BK303 := n1_; have GW303 := n2_; have GE303 := n3_; clear n0_ n1_ n2_ n3_; clear hb hbox hg; have hcz4_0 : w3.cell? ⟨gb303, 0, none⟩ = some (.int .i64 a0_0) := (blk_cell BK303.out 0).trans rfl; have hcz4_1 : w3.cell? ⟨gb303, 1, none⟩ = some (.int .i64 a0_1) := (blk_cell BK303.out 1).trans rfl; have hcz4_2 : w3.cell? ⟨gb303, 2, none⟩ = some (.slice A0_2 l0_2.length c0_2) := (blk_cell BK303.out 2).trans rfl; have hfz4_0 := blk_frozen BK303.out 0; have hfz4_1 := blk_frozen BK303.out 1; have hfz4_2 := blk_frozen BK303.out 2))
 go_loopg [5, 11] k (fun kq v5 v11 w' => ∃ (x5_1 : List Int) (x11_1 : Int), v11 = .int .i64 x11_1 ∧ Aside0 (impl_cellsOf.l0 kq a1 x5_1 l0_2 (l0_2.length : Int) x11_1 = some r) ∧ Aside0 (kq ≤ k) ∧ Aside0 (Kd.R (Kd.int .i64) 3 w' w.heap.size (fun _ => True) v5 x5_1) ∧ Aside0 (w'.heap[gb303]? = some (.cells #[.int .i64 a0_0, .int .i64 a0_1, (.slice A0_2 l0_2.length c0_2)] 28 (0, 0))) ∧ Aside0 (Below w.heap.size w w'))
 case atStart => exact ⟨(([] : List Int)), (0), (by first | rfl | (simp; done) | (simp [*]; done)), H', ⟨Nat.le_refl _⟩, ⟨by first | exact Kd.R_nil _ _ _ _ _ | exact Kd.N_nil _ _ _ _ _ | exact Kd.V_nil _ _ _ _ _ | exact Kd.Q_nil _ _ _ _ _ | exact Kd.S_nil _ _ _ _ _⟩, ⟨by (with_reducible repeat (first | refine blk_drewN ?_ _ | refine blk_drew ?_ | refine blk_alloc ?_ _)); exact BK303.out⟩, ⟨by repeat (first | (with_reducible first | exact HB.out | apply below_alloc | apply pw_below_drewN | apply below_drew1 | refine below_set ?_ GE303.out) | exact HB.out)⟩⟩
 case round =>
  clear H'
  try clear c1
  try clear p2
  try clear hcz4_0
  try clear hcz4_1
  try clear hcz4_2
  try clear hfz4_0
  try clear hfz4_1
  try clear hfz4_2
  obtain ⟨x5_1, x11_1, rfl, HA, HK1, HO_5, BK303, HB⟩ := hrel
  cases gk with
  | zero => exact absurd HA.out (by simp [impl_cellsOf.l0])
  | succ k1 =>
   have H := HA.out
   clear HA
   simp only [impl_cellsOf.l0] at H
   by_cases c5 : x11_1 < (l0_2.length : Int)
   ·
    rw [if_pos c5] at H
    have c5b0 : decide (x11_1 < (l0_2.length : Int)) = true := decide_eq_true c5
    clear c5
    by_cases c6 : 0 ≤ x11_1
    ·
     rw [if_pos c6] at H
     have c6b0 : decide (0 ≤ x11_1) = true := decide_eq_true c6
     clear c6
     by_cases c7 : x11_1 < (l0_2.length : Int)
     ·
      rw [if_pos c7] at H
      have c7b0 : decide (x11_1 < (l0_2.length : Int)) = true := decide_eq_true c7
      clear c7
      by_cases c8 : (rd l0_2 x11_1) = a1
      ·
       rw [if_pos c8] at H
       have c8b0 : ((rd l0_2 x11_1) == a1) = true := beq_iff_eq.mpr c8
       have c8b1 : ((rd l0_2 x11_1) != a1) = false := bne_eq_false_iff_eq.mpr c8
       clear c8
       by_cases c9 : x5_1.length < 17592186044416
       ·
        rw [if_pos c9] at H
        have LMc9 := Aside0.mk c9
        clear c9
        obtain ⟨y305, hy305⟩ : ∃ y_ : List Int, y_ = (x5_1 ++ [x11_1]) := ⟨_, rfl⟩
        replace H : (impl_cellsOf.l0 k1 a1 y305 l0_2 (l0_2.length : Int) (wrap64 (x11_1 + 1))) = some r := by first | (rw [hy305]; with_reducible exact H) | (have H2_ := (Option.bind_some _ _).symm.trans H; rw [hy305]; with_reducible exact H2_) | (have H2_ := (Option.bind_some _ _).symm.trans H; with_reducible exact H2_) | with_reducible exact H | (rw [hy305]; exact H) | exact H
        have Ny305 := Aside0.mk hy305
        clear hy305
        have H' := Aside0.mk H
        clear H
        have p304 : 0 ≤ (x11_1 : Int) := of_decide_eq_true (by first | (with_reducible assumption) | assumption)
        have q304 : x11_1 < (l0_2.length : Int) := of_decide_eq_true (by first | (with_reducible assumption) | assumption)
        obtain ⟨ad304, e304, hx304_0⟩ := Kd.at_int HR0_2.out x11_1 p304 q304
        cases e304
        replace hx304_0 := (HB.out.cell (World.block_lt_of_cell? w _ hx304_0)).trans hx304_0
        replace p304 := eq_true p304
        replace q304 := eq_true q304
        go_wp2_with (first | ((with_reducible refine gate_builtin (b := .append) (xs := #[.tmp 19, .tmp 21]) rfl ?_); at_builtin; refine Kd.R_append (Kd.int .i64) (w0 := w) w.heap.size rfl (.tmp 19) (.tmp 21) 22 3 (.int .i64 0) 8 rfl Try.underlying22 info3 rfl (by decide) (by omega) u5 x5_1 x11_1 [.int .i64 x11_1] (fun _ => True) (fun _ => False) rfl rfl ?aP (fun _ hk => hk.elim) ?aF ?aO ?aB ?aS ?aL ?_; (case aP => exact rfl); (case aB => exact (by repeat (first | (with_reducible first | exact HB.out | apply below_alloc | apply pw_below_drewN | apply below_drew1 | refine below_set ?_ GE303.out) | exact HB.out))); (case aF => exact (fun _ _ => trivial)); (case aO => exact (by (with_reducible repeat (first | apply Kd.R_alloc | apply Kd.R_drewN | apply Kd.R_drew)); exact HO_5.out)); (case aS => exact (below_size (by repeat (first | (with_reducible first | exact HB.out | apply below_alloc | apply pw_below_drewN | apply below_drew1 | refine below_set ?_ GE303.out) | exact HB.out)))); (case aL => have := LMc9.out; omega); intro v306 w10 ho hb hg hat; rw [← Ny305.out] at ho; have n0_ := Aside0.mk (blk_grown (g := gb303) (o := .cells #[.int .i64 a0_0, .int .i64 a0_1, .slice (some ad304) l0_2.length c0_2] 28 (0, 0)) (by (with_reducible repeat (first | refine blk_drewN ?_ _ | refine blk_drew ?_ | refine blk_alloc ?_ _)); exact BK303.out) hg (Kd.R_ne HO_5.out BK303.out (by decide))); have n1_ := Aside0.mk (hb); have n2_ := Aside0.mk (ho); clear BK303; clear HB; clear HO_5; have BK303 := n0_; have HB := n1_; have HO307 := n2_; clear n0_ n1_ n2_; clear ho hb hg hat))
        go_roundg k1
        case measure => have := HK1.out; omega
        case rel => exact ⟨(y305), (wrap64 (x11_1 + 1)), (by first | rfl | (simp; done) | (simp [*]; done)), H', ⟨by have := HK1.out; omega⟩, ⟨by (with_reducible repeat (first | apply Kd.R_alloc | apply Kd.R_drewN | apply Kd.R_drew)); exact HO307.out⟩, ⟨by (with_reducible repeat (first | refine blk_drewN ?_ _ | refine blk_drew ?_ | refine blk_alloc ?_ _)); exact BK303.out⟩, ⟨by repeat (first | (with_reducible first | exact HB.out | apply below_alloc | apply pw_below_drewN | apply below_drew1 | refine below_set ?_ GE303.out) | exact HB.out)⟩⟩
       ·
        rw [if_neg c9] at H
        exact absurd H (by simp)
      ·
       rw [if_neg c8] at H
       have c8b0 : ((rd l0_2 x11_1) == a1) = false := beq_eq_false_iff_ne.mpr c8
       have c8b1 : ((rd l0_2 x11_1) != a1) = true := bne_iff_ne.mpr c8
       have H' := Aside0.mk H
       clear H
       have p304 : 0 ≤ (x11_1 : Int) := of_decide_eq_true (by first | (with_reducible assumption) | assumption)
       have q304 : x11_1 < (l0_2.length : Int) := of_decide_eq_true (by first | (with_reducible assumption) | assumption)
       obtain ⟨ad304, e304, hx304_0⟩ := Kd.at_int HR0_2.out x11_1 p304 q304
       cases e304
       replace hx304_0 := (HB.out.cell (World.block_lt_of_cell? w _ hx304_0)).trans hx304_0
       replace p304 := eq_true p304
       replace q304 := eq_true q304
       go_wp2
       go_roundg k1
       case measure => have := HK1.out; omega
       case rel => exact ⟨(x5_1), (wrap64 (x11_1 + 1)), (by first | rfl | (simp; done) | (simp [*]; done)), H', ⟨by have := HK1.out; omega⟩, ⟨by (with_reducible repeat (first | apply Kd.R_alloc | apply Kd.R_drewN | apply Kd.R_drew)); exact HO_5.out⟩, ⟨by (with_reducible repeat (first | refine blk_drewN ?_ _ | refine blk_drew ?_ | refine blk_alloc ?_ _)); exact BK303.out⟩, ⟨by repeat (first | (with_reducible first | exact HB.out | apply below_alloc | apply pw_below_drewN | apply below_drew1 | refine below_set ?_ GE303.out) | exact HB.out)⟩⟩
     ·
      rw [if_neg c7] at H
      exact absurd H (by simp)
    ·
     rw [if_neg c6] at H
     exact absurd H (by simp)
   ·
    rw [if_neg c5] at H
    have c5b0 : decide (x11_1 < (l0_2.length : Int)) = false := decide_eq_false c5
    clear c5
    obtain rfl := Option.some.inj H
    go_wp2
    go_ret
    exact ⟨_, by first | rfl | (simp [errW_none, errW_some] <;> rfl) | (simp [*, errW_none, errW_some] <;> rfl), by (with_reducible repeat (first | apply Kd.R_alloc | apply Kd.R_drewN | apply Kd.R_drew)); exact HO_5.out, by repeat (first | (with_reducible first | exact HB.out | apply below_alloc | apply pw_below_drewN | apply below_drew1 | refine below_set ?_ GE303.out) | exact HB.out)⟩

end Go.Proofs.Ytgdpgoeddnnaaaa.Q
namespace Go.Proofs.Ytgdpgoeddnnaaaa.Q
open Go.RowKit Go.Proofs.YtgdpgoeddnnaaaaW.PrintWords Go.Proofs.YtgdpgoeddnnaaaaW.PrintLast Go.Proofs.YtgdpgoeddnnaaaaW.PrintMore
attribute [local go_sem] max2_int min2_int max_two min_two max_three min_three max_four min_four   -- for this text's walks alone
set_option linter.unusedVariables false
set_option linter.unusedSimpArgs false

/-! ### impl_IsConnectedArea: function 7 -/
def impl_IsConnectedArea.f (k : Nat) (a0_0 : Int) (a0_1 : Int) (l0_2 : List Int) (a1 : Int) : Option (Bool × Bool) := (impl_hasAreas.f k a0_0 a0_1 l0_2 (([a1] : List Int))).bind fun t312 => (if t312 = true then ((impl_cellsOf.f k a0_0 a0_1 l0_2 a1).bind fun t313 => ((impl_regionParts.f a0_0 t313).bind fun t316 => (some (((t316.length : Int) == 1), true)))) else (some (false, false)))
theorem impl_IsConnectedArea.mono : ∀ a0 a1 a2 a3 k, LeO (impl_IsConnectedArea.f k a0 a1 a2 a3) (impl_IsConnectedArea.f (k + 1) a0 a1 a2 a3) := by
 intro a0 a1 a2 a3 k
 unfold impl_IsConnectedArea.f
 repeat' first
   | (with_reducible exact impl_cellsOf.mono _ _ _ _ _)
   | (with_reducible exact impl_hasAreas.mono _ _ _ _ _)
   | (with_reducible exact LeO.refl _)
   | (with_reducible exact LeO.none _)
   | (with_reducible refine LeO.ite ?_ ?_)
   | (with_reducible refine LeO.bind ?_ (fun _ => ?_))
   | exact impl_cellsOf.mono _ _ _ _ _
   | exact impl_hasAreas.mono _ _ _ _ _
   | exact LeO.none _
   | refine LeO.ite ?_ ?_
   | refine LeO.bind ?_ (fun _ => ?_)
def impl_IsConnectedArea.T3 : Bool × List (List Nat × List Nat) := (true, [([], []), ([0], [0]), ([], []), ([], []), ([2, 3], [2, 3]), ([1, 4, 4], [1, 4]), ([5], [5]), ([6], [6]), ([7, 5, 0, 1, 2, 3, 4, 5, 6, 7], [7]), ([8, 0, 1, 2, 3, 4, 5, 6, 7, 8], [])])
def impl_IsConnectedArea.B3 : List Nat := [0, 1, 0, 0, 12, 31, 63, 127, 255, 511]
theorem impl_IsConnectedArea.tab3 : rtab .any (opsOf Try.f7 3) = impl_IsConnectedArea.T3 := by kernel_rfl
theorem impl_IsConnectedArea.bits3 : waitsOk impl_IsConnectedArea.T3.2 impl_IsConnectedArea.B3 = true := by kernel_rfl
set_option maxHeartbeats 8000000 in
set_option maxRecDepth 100000 in
theorem impl_IsConnectedArea.calls (k : Nat) (a0_0 : Int) (a0_1 : Int) (A0_2 : Option Addr) (c0_2 : Nat) (l0_2 : List Int) (a1 : Int) (r1 : Bool) (r2 : Bool) (w : World) (hr0_2 : Kd.C (Kd.int .i64) w A0_2 l0_2.length l0_2) (hc0_2 : l0_2.length ≤ c0_2) (h : impl_IsConnectedArea.f k a0_0 a0_1 l0_2 a1 = some (r1, r2)) :
  Calls Try.prog 7 #[.agg #[.int .i64 a0_0, .int .i64 a0_1, .slice A0_2 l0_2.length c0_2], .int .i64 a1] w fun e w' => e = .returned (.tuple #[.bool r1, .bool r2]) ∧ Below w.heap.size w w' := by
 have hu28 := Try.underlying28
 have HR0_2 := Aside0.mk hr0_2
 have HC0_2 := Aside0.mk hc0_2
 clear hr0_2 hc0_2
 have HB := Aside0.mk (Below.refl w.heap.size w)
 have H : ((impl_hasAreas.f k a0_0 a0_1 l0_2 (([a1] : List Int))).bind fun t312 => (if t312 = true then ((impl_cellsOf.f k a0_0 a0_1 l0_2 a1).bind fun t313 => ((impl_regionParts.f a0_0 t313).bind fun t316 => (some (((t316.length : Int) == 1), true)))) else (some (false, false)))) = some (r1, r2) := h
 clear h
 obtain ⟨y309, hy309⟩ : ∃ y_ : List Int, y_ = (([a1] : List Int)) := ⟨_, rfl⟩
 replace H : ((impl_hasAreas.f k a0_0 a0_1 l0_2 y309).bind fun t312 => (if t312 = true then ((impl_cellsOf.f k a0_0 a0_1 l0_2 a1).bind fun t313 => ((impl_regionParts.f a0_0 t313).bind fun t316 => (some (((t316.length : Int) == 1), true)))) else (some (false, false)))) = some (r1, r2) := by first | (rw [hy309]; with_reducible exact H) | (have H2_ := (Option.bind_some _ _).symm.trans H; rw [hy309]; with_reducible exact H2_) | (have H2_ := (Option.bind_some _ _).symm.trans H; with_reducible exact H2_) | with_reducible exact H | (rw [hy309]; exact H) | exact H
 have Ny309 := Aside0.mk hy309
 clear hy309
 replace H := Option.bind_eq_some_iff.mp H
 obtain ⟨t312, A30, H⟩ := H
 replace H : (if t312 = true then ((impl_cellsOf.f k a0_0 a0_1 l0_2 a1).bind fun t313 => ((impl_regionParts.f a0_0 t313).bind fun t316 => (some (((t316.length : Int) == 1), true)))) else (some (false, false))) = some (r1, r2) := H
 have A3 := Aside0.mk A30
 clear A30
 by_cases c4 : t312 = true
 ·
  subst c4
  have H1 : ((impl_cellsOf.f k a0_0 a0_1 l0_2 a1).bind fun t313 => ((impl_regionParts.f a0_0 t313).bind fun t316 => (some (((t316.length : Int) == 1), true)))) = some (r1, r2) := by rw [if_pos rfl] at H; exact H
  clear H
  have H := H1
  clear H1
  replace H := Option.bind_eq_some_iff.mp H
  obtain ⟨t313, A50, H⟩ := H
  replace H : ((impl_regionParts.f a0_0 t313).bind fun t316 => (some (((t316.length : Int) == 1), true))) = some (r1, r2) := H
  have A5 := Aside0.mk A50
  clear A50
  replace H := Option.bind_eq_some_iff.mp H
  obtain ⟨t316, A60, H⟩ := H
  replace H : (some (((t316.length : Int) == 1), true)) = some (r1, r2) := H
  have A6 := Aside0.mk A60
  clear A60
  simp only [Option.some.injEq, Prod.mk.injEq] at H
  obtain ⟨rfl, rfl⟩ := H
  go_enter Try.func7, Try.ntmps7
  try go_wp2_with (first | ((with_reducible refine gate_dst (N := 2) rfl ?_); refine box_event ?hg (N := 2) ?hd (cs := #[.int .i64 a0_0, .int .i64 a0_1, .slice A0_2 l0_2.length c0_2]) (t := 28) ?hr ?_; (case hd => rfl); (case hg => rfl); (case hr => first | (go_simp; done) | (go_simp; rfl)); intro gb308 hg w7 hbox hb; have n0_ := Aside0.mk (below_step (by repeat (first | (with_reducible first | exact HB.out | apply below_alloc | apply pw_below_drewN | apply below_drew1) | exact HB.out)) hb); have n1_ := Aside0.mk (hbox); have n2_ := Aside0.mk ((by rw [hg]; exact (below_size (by repeat (first | (with_reducible first | exact HB.out | apply below_alloc | apply pw_below_drewN | apply below_drew1) | exact HB.out))) : w.heap.size ≤ gb308)); have n3_ := Aside0.mk ((by rw [hg]; exact (below_size (by repeat (first | (with_reducible first | exact HB.out | apply below_alloc | apply pw_below_drewN | apply below_drew1) | exact HB.out))) : w.heap.size ≤ gb308)); clear HB; have HB := n0_; have BK308 := n1_; have GW308 := n2_; have GE308 := n3_; clear n0_ n1_ n2_ n3_; clear hb hbox hg; have hcz8_0 : w7.cell? ⟨gb308, 0, none⟩ = some (.int .i64 a0_0) := (blk_cell BK308.out 0).trans rfl; have hcz8_1 : w7.cell? ⟨gb308, 1, none⟩ = some (.int .i64 a0_1) := (blk_cell BK308.out 1).trans rfl; have hcz8_2 : w7.cell? ⟨gb308, 2, none⟩ = some (.slice A0_2 l0_2.length c0_2) := (blk_cell BK308.out 2).trans rfl; have hfz8_0 := blk_frozen BK308.out 0; have hfz8_1 := blk_frozen BK308.out 1; have hfz8_2 := blk_frozen BK308.out 2) | ((with_reducible refine gate_dst (N := 8) rfl ?_); refine Kd.R_lit (Kd.int .i64) _ 3 ?hg (N := 8) ?hd (xs := ([a1] : List Int)) (inner := [.int .i64 a1]) (ok := fun _ => True) (okp := fun _ => True) ?hr ?hp (fun _ hk => hk) trivial (Below.refl _ _) (Nat.le_refl _) (by simp) ?_; (case hd => rfl); (case hg => rfl); (case hr => first | (go_simp; done) | (go_simp; rfl)); (case hp => exact (Reps.one (show Kd.M (Kd.int .i64) _ _ _ a1 [.int .i64 a1] from rfl) (Reps.none _ _))); intro v310 w9 ho10 hb hg_ hnew_; clear hg_ hnew_; (first | rw [← Ny309.out] at ho10 | (simp only [Int.reduceToNat] at ho10; rw [← Ny309.out] at ho10)); have n0_ := Aside0.mk (Kd.R_lower ho10 (below_size (by repeat (first | (with_reducible first | exact HB.out | apply below_alloc | apply pw_below_drewN | apply below_drew1 | refine below_set ?_ GE308.out) | exact HB.out)))); have n1_ := Aside0.mk (blk_below (g := gb308) (o := .cells #[.int .i64 a0_0, .int .i64 a0_1, .slice A0_2 l0_2.length c0_2] 28 (0, 0)) (by (with_reducible repeat (first | refine blk_drewN ?_ _ | refine blk_drew ?_ | refine blk_alloc ?_ _)); exact BK308.out) hb); have n2_ := Aside0.mk (below_step (by repeat (first | (with_reducible first | exact HB.out | apply below_alloc | apply pw_below_drewN | apply below_drew1 | refine below_set ?_ GE308.out) | exact HB.out)) hb); clear BK308; clear HB; have HO311 := n0_; have BK308 := n1_; have HB := n2_; clear n0_ n1_ n2_; clear hb ho10; obtain ⟨Ao11, co11, eo11⟩ := Kd.R_slice HO311.out; subst eo11) | ((with_reducible refine gate_callee (f := 14) rfl ?_); refine goesL_ (some 9) rfl rfl Try.func14 (by kernel_rfl) rfl #[.agg #[.int .i64 a0_0, .int .i64 a0_1, .slice A0_2 l0_2.length c0_2], .slice Ao11 y309.length co11] rfl (by (try simp only [List.map_toArray, List.map_cons, List.map_nil]); first | done | rfl | (simp only [List.length_drop, List.length_take]; rfl)) ?_; (with_reducible refine (impl_hasAreas.calls k a0_0 a0_1 _ _ l0_2 _ _ y309 true _ ?side1 ?side2 ?side3 ?side4 A3.out).mono ?_); (case side1 => repeat (first | exact (Kd.C_below HR0_2.out HB.out) | (with_reducible refine Kd.C_alloc ?_ _) | (with_reducible refine Kd.C_drewN ?_ _) | (with_reducible refine Kd.C_drew ?_))); (case side2 => exact HC0_2.out); (case side3 => repeat (first | exact (Kd.R_reads' HO311.out).2.2 | (with_reducible refine Kd.C_alloc ?_ _) | (with_reducible refine Kd.C_drewN ?_ _) | (with_reducible refine Kd.C_drew ?_))); (case side4 => exact (Kd.R_reads' HO311.out).2.1); rintro e w12 ⟨rfl, hb⟩; refine ⟨_, rfl, ?_⟩; have n0_ := Aside0.mk (Kd.R_below (by (with_reducible repeat (first | apply Kd.R_alloc | apply Kd.R_drewN | apply Kd.R_drew)); exact HO311.out) hb); have n1_ := Aside0.mk (blk_below (g := gb308) (o := .cells #[.int .i64 a0_0, .int .i64 a0_1, .slice A0_2 l0_2.length c0_2] 28 (0, 0)) (by (with_reducible repeat (first | refine blk_drewN ?_ _ | refine blk_drew ?_ | refine blk_alloc ?_ _)); exact BK308.out) hb); have n2_ := Aside0.mk (below_step (by repeat (first | (with_reducible first | exact HB.out | apply below_alloc | apply pw_below_drewN | apply below_drew1 | refine below_set ?_ GE308.out) | exact HB.out)) hb); clear HO311; clear BK308; clear HB; have HO311 := n0_; have BK308 := n1_; have HB := n2_; clear n0_ n1_ n2_; (try clear hb); (try clear hb2); (try clear hk); (try clear hi)))
  have n0_ := Aside0.mk (Kd.R_drew HO311.out)
  have n1_ := Aside0.mk (blk_drew BK308.out)
  have n2_ := Aside0.mk (below_drew1 HB.out)
  clear HO311
  clear BK308
  clear HB
  have HO311 := n0_
  have BK308 := n1_
  have HB := n2_
  clear n0_ n1_ n2_
  refine start_ (n := 10) (S := fun w' => w'.cell? ⟨gb308, 0, none⟩ = some (.int .i64 a0_0) ∧ w'.cell? ⟨gb308, 1, none⟩ = some (.int .i64 a0_1) ∧ w'.cell? ⟨gb308, 2, none⟩ = some (.slice A0_2 l0_2.length c0_2)) (ds := []) #[false, false, false, false, false, false, false, false, false, false] (by kernel_rfl) rfl rfl ⟨(blk_cell BK308.out 0).trans rfl, (blk_cell BK308.out 1).trans rfl, (blk_cell BK308.out 2).trans rfl⟩ (fun hHeld => ?_); refine with_tabW impl_IsConnectedArea.tab3 impl_IsConnectedArea.bits3 (fun HT_ HW_ => ?_)
  generalize w12.drew = w13 at HO311 BK308 HB hHeld ⊢
  refine pure_ (i := 0) (N := some 11) (v := ?_) (a' := ?_) #[true, false, false, false, false, false, false, false, false, false] rfl rfl (any_of HT_.out (by kernel_rfl)) (fun _ _ _ h => h) (Or.inl ⟨by rfl, ?_⟩) ?_ ?_
  rotate_left
  ·
   intro w'
   go_simp
   with_reducible rfl
  rotate_left
  ·
   simp only [Act.put, List.setIfInBounds_toArray, List.set_cons_zero, List.set_cons_succ, i64_w, i32_w]
   rfl
  refine pure_ (i := 3) (N := some 14) (v := ?_) (a' := ?_) #[true, false, false, true, false, false, false, false, false, false] rfl rfl (any_of HT_.out (by kernel_rfl)) (fun _ _ _ h => h) (Or.inl ⟨by rfl, ?_⟩) ?_ ?_
  rotate_left
  ·
   intro w'
   go_simp
   with_reducible rfl
  rotate_left
  ·
   simp only [Act.put, List.setIfInBounds_toArray, List.set_cons_zero, List.set_cons_succ, i64_w, i32_w]
   rfl
  refine take_ (i := 1) (N := some 12) (v := ?_) (a' := ?_) #[true, true, false, true, false, false, false, false, false, false] rfl rfl (take_ofW HT_.out HW_.out (by kernel_rfl)) (fun _ _ _ h => h) (Or.inl ⟨by rfl, ?_⟩) hHeld ?_ ?_
  rotate_left
  ·
   rintro w' ⟨s0, s1, s2⟩
   go_simp
   with_reducible rfl
  rotate_left
  ·
   simp only [Act.put, List.setIfInBounds_toArray, List.set_cons_zero, List.set_cons_succ, i64_w, i32_w]
   rfl
  refine take_ (i := 2) (N := some 13) (v := ?_) (a' := ?_) #[true, true, true, true, false, false, false, false, false, false] rfl rfl (take_ofW HT_.out HW_.out (by kernel_rfl)) (fun _ _ _ h => h) (Or.inl ⟨by rfl, ?_⟩) hHeld ?_ ?_
  rotate_left
  ·
   rintro w' ⟨s0, s1, s2⟩
   go_simp
   with_reducible rfl
  rotate_left
  ·
   simp only [Act.put, List.setIfInBounds_toArray, List.set_cons_zero, List.set_cons_succ, i64_w, i32_w]
   rfl
  refine one_ (i := 4) (N := some 15) #[true, true, true, true, true, false, false, false, false, false] rfl rfl (one_of HT_.out (by kernel_rfl)) (by decide) (fun K hK => ?_)
  refine goes_ Try.func16 (by kernel_rfl) rfl #[.agg #[.int .i64 a0_0, .int .i64 a0_1, .slice A0_2 l0_2.length c0_2], .int .i64 a1] (by rfl) rfl rfl (by (try simp only [List.map_toArray, List.map_cons, List.map_nil]); first | done | rfl | (simp only [List.length_drop, List.length_take]; rfl)) ?_
  with_reducible refine (impl_cellsOf.calls k a0_0 a0_1 _ _ l0_2 a1 t313 _ ?side1 ?side2 A5.out).mono ?_
  (case side1 => repeat (first | exact (Kd.C_below HR0_2.out HB.out) | (with_reducible refine Kd.C_alloc ?_ _) | (with_reducible refine Kd.C_drewN ?_ _) | (with_reducible refine Kd.C_drew ?_)))
  (case side2 => exact HC0_2.out)
  rintro e w14 ⟨v314, rfl, ho0, hb⟩
  refine ⟨_, rfl, ?_⟩
  have n0_ := Aside0.mk (Kd.R_elder' (by (with_reducible repeat (first | apply Kd.R_alloc | apply Kd.R_drewN | apply Kd.R_drew)); exact HO311.out) (Kd.R_base ho0) hb)
  have n1_ := Aside0.mk (Kd.R_lower (Kd.R_new' ho0 (Kd.R_lt (by (with_reducible repeat (first | apply Kd.R_alloc | apply Kd.R_drewN | apply Kd.R_drew)); exact HO311.out))) (below_size (by repeat (first | (with_reducible first | exact HB.out | apply below_alloc | apply pw_below_drewN | apply below_drew1 | refine below_set ?_ GE308.out) | exact HB.out))))
  have n2_ := Aside0.mk (blk_below (g := gb308) (o := .cells #[.int .i64 a0_0, .int .i64 a0_1, .slice A0_2 l0_2.length c0_2] 28 (0, 0)) (by (with_reducible repeat (first | refine blk_drewN ?_ _ | refine blk_drew ?_ | refine blk_alloc ?_ _)); exact BK308.out) hb)
  have n3_ := Aside0.mk (below_step (by repeat (first | (with_reducible first | exact HB.out | apply below_alloc | apply pw_below_drewN | apply below_drew1 | refine below_set ?_ GE308.out) | exact HB.out)) hb)
  clear HO311
  clear BK308
  clear HB
  have HO311 := n0_
  have HO315 := n1_
  have BK308 := n2_
  have HB := n3_
  clear n0_ n1_ n2_ n3_
  (try clear hb)
  (try clear hb2)
  (try clear hk)
  (try clear hi)
  (try clear ho0)
  obtain ⟨Ao15, co15, eo15⟩ := Kd.R_slice HO315.out
  (first | subst eo15 | (injection eo15 with f1_ f2_ f3_; have f4_ := f1_.symm; have f5_ := f3_.symm; clear f1_ f2_ f3_; subst f4_; subst f5_))
  refine hK.out _ _ ⟨(blk_cell BK308.out 0).trans rfl, (blk_cell BK308.out 1).trans rfl, (blk_cell BK308.out 2).trans rfl⟩ (fun hHeld => ?_)
  clear hK K
  refine norm_ (a' := ?_) ?_ ?_
  rotate_left
  ·
   show Act.put _ (some 15) _ = _
   simp only [Act.put, List.setIfInBounds_toArray, List.set_cons_zero, List.set_cons_succ, i64_w, i32_w]
   rfl
  refine one_ (i := 5) (N := some 16) #[true, true, true, true, true, true, false, false, false, false] rfl rfl (one_of HT_.out (by kernel_rfl)) (by decide) (fun K hK => ?_)
  refine goes_ Try.func15 (by kernel_rfl) rfl #[.int .i64 a0_0, .slice Ao15 t313.length co15] (by rfl) rfl rfl (by (try simp only [List.map_toArray, List.map_cons, List.map_nil]); first | done | rfl | (simp only [List.length_drop, List.length_take]; rfl)) ?_
  with_reducible refine (impl_regionParts.calls a0_0 _ _ t313 t316 _ ?side1 ?side2 A6.out).mono ?_
  (case side1 => repeat (first | exact (Kd.R_reads' HO315.out).2.2 | (with_reducible refine Kd.C_alloc ?_ _) | (with_reducible refine Kd.C_drewN ?_ _) | (with_reducible refine Kd.C_drew ?_)))
  (case side2 => exact (Kd.R_reads' HO315.out).2.1)
  rintro e w16 ⟨v317, rfl, ho0, hb⟩
  refine ⟨_, rfl, ?_⟩
  have n0_ := Aside0.mk (Kd.R_below (by (with_reducible repeat (first | apply Kd.R_alloc | apply Kd.R_drewN | apply Kd.R_drew)); exact HO311.out) hb)
  have n1_ := Aside0.mk (Kd.R_below (by (with_reducible repeat (first | apply Kd.R_alloc | apply Kd.R_drewN | apply Kd.R_drew)); exact HO315.out) hb)
  have n2_ := Aside0.mk (Kd.S_lower (Kd.S_new' (Kd.S_new' ho0 (Kd.R_lt (by (with_reducible repeat (first | apply Kd.R_alloc | apply Kd.R_drewN | apply Kd.R_drew)); exact HO311.out))) (Kd.R_lt (by (with_reducible repeat (first | apply Kd.R_alloc | apply Kd.R_drewN | apply Kd.R_drew)); exact HO315.out))) (below_size (by repeat (first | (with_reducible first | exact HB.out | apply below_alloc | apply pw_below_drewN | apply below_drew1 | refine below_set ?_ GE308.out) | exact HB.out))))
  have n3_ := Aside0.mk (blk_below (g := gb308) (o := .cells #[.int .i64 a0_0, .int .i64 a0_1, .slice A0_2 l0_2.length c0_2] 28 (0, 0)) (by (with_reducible repeat (first | refine blk_drewN ?_ _ | refine blk_drew ?_ | refine blk_alloc ?_ _)); exact BK308.out) hb)
  have n4_ := Aside0.mk (below_step (by repeat (first | (with_reducible first | exact HB.out | apply below_alloc | apply pw_below_drewN | apply below_drew1 | refine below_set ?_ GE308.out) | exact HB.out)) hb)
  clear HO311
  clear HO315
  clear BK308
  clear HB
  have HO311 := n0_
  have HO315 := n1_
  have HO318 := n2_
  have BK308 := n3_
  have HB := n4_
  clear n0_ n1_ n2_ n3_ n4_
  (try clear hb)
  (try clear hb2)
  (try clear hk)
  (try clear hi)
  (try clear ho0)
  obtain ⟨Ao17, co17, eo17⟩ := Kd.S_slice HO318.out
  (first | subst eo17 | (injection eo17 with f1_ f2_ f3_; have f4_ := f1_.symm; have f5_ := f3_.symm; clear f1_ f2_ f3_; subst f4_; subst f5_))
  refine hK.out _ _ ⟨(blk_cell BK308.out 0).trans rfl, (blk_cell BK308.out 1).trans rfl, (blk_cell BK308.out 2).trans rfl⟩ (fun hHeld => ?_)
  clear hK K
  refine norm_ (a' := ?_) ?_ ?_
  rotate_left
  ·
   show Act.put _ (some 16) _ = _
   simp only [Act.put, List.setIfInBounds_toArray, List.set_cons_zero, List.set_cons_succ, i64_w, i32_w]
   rfl
  refine pure_ (i := 6) (N := some 17) (v := ?_) (a' := ?_) #[true, true, true, true, true, true, true, false, false, false] rfl rfl (any_of HT_.out (by kernel_rfl)) (fun _ _ _ h => h) (Or.inl ⟨by rfl, ?_⟩) ?_ ?_
  rotate_left
  ·
   intro w'
   go_simp
   with_reducible rfl
  rotate_left
  ·
   simp only [Act.put, List.setIfInBounds_toArray, List.set_cons_zero, List.set_cons_succ, i64_w, i32_w]
   rfl
  refine pure_ (i := 7) (N := some 18) (v := ?_) (a' := ?_) #[true, true, true, true, true, true, true, true, false, false] rfl rfl (any_of HT_.out (by kernel_rfl)) (fun _ _ _ h => h) (Or.inl ⟨by rfl, ?_⟩) ?_ ?_
  rotate_left
  ·
   intro w'
   go_simp
   with_reducible rfl
  rotate_left
  ·
   simp only [Act.put, List.setIfInBounds_toArray, List.set_cons_zero, List.set_cons_succ, i64_w, i32_w]
   rfl
  refine pure_ (i := 8) (N := some 4) (v := ?_) (a' := ?_) #[true, true, true, true, true, true, true, true, true, false] rfl rfl (any_of HT_.out (by kernel_rfl)) (fun _ _ _ h => h) (Or.inl ⟨by rfl, ?_⟩) ?_ ?_
  rotate_left
  ·
   intro w'
   go_simp
   with_reducible rfl
  rotate_left
  ·
   simp only [Act.put, List.setIfInBounds_toArray, List.set_cons_zero, List.set_cons_succ, i64_w, i32_w]
   rfl
  refine pure_ (i := 9) (N := some 5) (v := ?_) (a' := ?_) #[true, true, true, true, true, true, true, true, true, true] rfl rfl (any_of HT_.out (by kernel_rfl)) (fun _ _ _ h => h) (Or.inl ⟨by rfl, ?_⟩) ?_ ?_
  rotate_left
  ·
   intro w'
   go_simp
   with_reducible rfl
  rotate_left
  ·
   simp only [Act.put, List.setIfInBounds_toArray, List.set_cons_zero, List.set_cons_succ, i64_w, i32_w]
   rfl
  refine done_ (done_of HT_.out (by kernel_rfl)) ?_
  try go_wp2
  go_ret2
  exact ⟨by first | rfl | (simp [errW_none, errW_some] <;> rfl) | (simp [*, errW_none, errW_some] <;> rfl), by repeat (first | (with_reducible first | exact HB.out | apply below_alloc | apply pw_below_drewN | apply below_drew1 | refine below_set ?_ GE308.out) | exact HB.out)⟩
 ·
  replace c4 := Bool.eq_false_iff.mpr c4
  subst c4
  have H1 : (some (false, false)) = some (r1, r2) := by rw [if_neg (show ¬ (false = true) by decide)] at H; exact H
  clear H
  have H := H1
  clear H1
  simp only [Option.some.injEq, Prod.mk.injEq] at H
  obtain ⟨rfl, rfl⟩ := H
  go_enter Try.func7, Try.ntmps7
  go_wp2_with (first | ((with_reducible refine gate_dst (N := 2) rfl ?_); refine box_event ?hg (N := 2) ?hd (cs := #[.int .i64 a0_0, .int .i64 a0_1, .slice A0_2 l0_2.length c0_2]) (t := 28) ?hr ?_; (case hd => rfl); (case hg => rfl); (case hr => first | (go_simp; done) | (go_simp; rfl)); intro gb308 hg w18 hbox hb; have n0_ := Aside0.mk (below_step (by repeat (first | (with_reducible first | exact HB.out | apply below_alloc | apply pw_below_drewN | apply below_drew1) | exact HB.out)) hb); have n1_ := Aside0.mk (hbox); have n2_ := Aside0.mk ((by rw [hg]; exact (below_size (by repeat (first | (with_reducible first | exact HB.out | apply below_alloc | apply pw_below_drewN | apply below_drew1) | exact HB.out))) : w.heap.size ≤ gb308)); have n3_ := Aside0.mk ((by rw [hg]; exact (below_size (by repeat (first | (with_reducible first | exact HB.out | apply below_alloc | apply pw_below_drewN | apply below_drew1) | exact HB.out))) : w.heap.size ≤ gb308)); clear HB; have HB := n0_; have BK308 := n1_; have GW308 := n2_; have GE308 := n3_; clear n0_ n1_ n2_ n3_; clear hb hbox hg; have hcz19_0 : w18.cell? ⟨gb308, 0, none⟩ = some (.int .i64 a0_0) := (blk_cell BK308.out 0).trans rfl; have hcz19_1 : w18.cell? ⟨gb308, 1, none⟩ = some (.int .i64 a0_1) := (blk_cell BK308.out 1).trans rfl; have hcz19_2 : w18.cell? ⟨gb308, 2, none⟩ = some (.slice A0_2 l0_2.length c0_2) := (blk_cell BK308.out 2).trans rfl; have hfz19_0 := blk_frozen BK308.out 0; have hfz19_1 := blk_frozen BK308.out 1; have hfz19_2 := blk_frozen BK308.out 2) | ((with_reducible refine gate_dst (N := 8) rfl ?_); refine Kd.R_lit (Kd.int .i64) _ 3 ?hg (N := 8) ?hd (xs := ([a1] : List Int)) (inner := [.int .i64 a1]) (ok := fun _ => True) (okp := fun _ => True) ?hr ?hp (fun _ hk => hk) trivial (Below.refl _ _) (Nat.le_refl _) (by simp) ?_; (case hd => rfl); (case hg => rfl); (case hr => first | (go_simp; done) | (go_simp; rfl)); (case hp => exact (Reps.one (show Kd.M (Kd.int .i64) _ _ _ a1 [.int .i64 a1] from rfl) (Reps.none _ _))); intro v310 w20 ho21 hb hg_ hnew_; clear hg_ hnew_; (first | rw [← Ny309.out] at ho21 | (simp only [Int.reduceToNat] at ho21; rw [← Ny309.out] at ho21)); have n0_ := Aside0.mk (Kd.R_lower ho21 (below_size (by repeat (first | (with_reducible first | exact HB.out | apply below_alloc | apply pw_below_drewN | apply below_drew1 | refine below_set ?_ GE308.out) | exact HB.out)))); have n1_ := Aside0.mk (blk_below (g := gb308) (o := .cells #[.int .i64 a0_0, .int .i64 a0_1, .slice A0_2 l0_2.length c0_2] 28 (0, 0)) (by (with_reducible repeat (first | refine blk_drewN ?_ _ | refine blk_drew ?_ | refine blk_alloc ?_ _)); exact BK308.out) hb); have n2_ := Aside0.mk (below_step (by repeat (first | (with_reducible first | exact HB.out | apply below_alloc | apply pw_below_drewN | apply below_drew1 | refine below_set ?_ GE308.out) | exact HB.out)) hb); clear BK308; clear HB; have HO311 := n0_; have BK308 := n1_; have HB := n2_; clear n0_ n1_ n2_; clear hb ho21; obtain ⟨Ao22, co22, eo22⟩ := Kd.R_slice HO311.out; subst eo22) | ((with_reducible refine gate_callee (f := 14) rfl ?_); refine goesL_ (some 9) rfl rfl Try.func14 (by kernel_rfl) rfl #[.agg #[.int .i64 a0_0, .int .i64 a0_1, .slice A0_2 l0_2.length c0_2], .slice Ao22 y309.length co22] rfl (by (try simp only [List.map_toArray, List.map_cons, List.map_nil]); first | done | rfl | (simp only [List.length_drop, List.length_take]; rfl)) ?_; (with_reducible refine (impl_hasAreas.calls k a0_0 a0_1 _ _ l0_2 _ _ y309 false _ ?side1 ?side2 ?side3 ?side4 A3.out).mono ?_); (case side1 => repeat (first | exact (Kd.C_below HR0_2.out HB.out) | (with_reducible refine Kd.C_alloc ?_ _) | (with_reducible refine Kd.C_drewN ?_ _) | (with_reducible refine Kd.C_drew ?_))); (case side2 => exact HC0_2.out); (case side3 => repeat (first | exact (Kd.R_reads' HO311.out).2.2 | (with_reducible refine Kd.C_alloc ?_ _) | (with_reducible refine Kd.C_drewN ?_ _) | (with_reducible refine Kd.C_drew ?_))); (case side4 => exact (Kd.R_reads' HO311.out).2.1); rintro e w23 ⟨rfl, hb⟩; refine ⟨_, rfl, ?_⟩; have n0_ := Aside0.mk (Kd.R_below (by (with_reducible repeat (first | apply Kd.R_alloc | apply Kd.R_drewN | apply Kd.R_drew)); exact HO311.out) hb); have n1_ := Aside0.mk (blk_below (g := gb308) (o := .cells #[.int .i64 a0_0, .int .i64 a0_1, .slice A0_2 l0_2.length c0_2] 28 (0, 0)) (by (with_reducible repeat (first | refine blk_drewN ?_ _ | refine blk_drew ?_ | refine blk_alloc ?_ _)); exact BK308.out) hb); have n2_ := Aside0.mk (below_step (by repeat (first | (with_reducible first | exact HB.out | apply below_alloc | apply pw_below_drewN | apply below_drew1 | refine below_set ?_ GE308.out) | exact HB.out)) hb); clear HO311; clear BK308; clear HB; have HO311 := n0_; have BK308 := n1_; have HB := n2_; clear n0_ n1_ n2_; (try clear hb); (try clear hb2); (try clear hk); (try clear hi)))
  go_ret2
  exact ⟨by first | rfl | (simp [errW_none, errW_some] <;> rfl) | (simp [*, errW_none, errW_some] <;> rfl), by repeat (first | (with_reducible first | exact HB.out | apply below_alloc | apply pw_below_drewN | apply below_drew1 | refine below_set ?_ GE308.out) | exact HB.out)⟩

end Go.Proofs.Ytgdpgoeddnnaaaa.Q
namespace Go.Proofs.Ytgdpgoeddnnaaaa.Q
open Go.RowKit Go.Proofs.YtgdpgoeddnnaaaaW.PrintWords Go.Proofs.YtgdpgoeddnnaaaaW.PrintLast Go.Proofs.YtgdpgoeddnnaaaaW.PrintMore
attribute [local go_sem] max2_int min2_int max_two min_two max_three min_three max_four min_four   -- for this text's walks alone
set_option linter.unusedVariables false
set_option linter.unusedSimpArgs false

/-! ### laws_eqIntS: function 17 -/
def laws_eqIntS.l0 : Nat → List Int → List Int → Int → Option (Bool)
 | 0, _, _, _ => none
 | k + 1, x0, x1, x5 => if x5 < (x0.length : Int) then (if 0 ≤ x5 then (if x5 < (x1.length : Int) then (if (rd x0 x5) = (rd x1 x5) then (laws_eqIntS.l0 k x0 x1 (wrap64 (x5 + 1))) else (some false)) else (none)) else (none)) else (some true)
def laws_eqIntS.f (k : Nat) (l0 : List Int) (l1 : List Int) : Option (Bool) := if (l0.length : Int) = (l1.length : Int) then (laws_eqIntS.l0 k l0 l1 0) else (some false)
theorem laws_eqIntS.mono_l : ∀ k, (∀ y0 y1 y2, LeO (laws_eqIntS.l0 k y0 y1 y2) (laws_eqIntS.l0 (k + 1) y0 y1 y2))
 | 0 => fun _ _ _ r h => by simp [laws_eqIntS.l0] at h
 | k + 1 => by
  have ih0 := laws_eqIntS.mono_l k
  ·
   intro y0 y1 y2
   unfold laws_eqIntS.l0
   repeat' first
   | (with_reducible exact ih0 _ _ _)
   | (with_reducible exact LeO.refl _)
   | (with_reducible exact LeO.none _)
   | (with_reducible refine LeO.ite ?_ ?_)
   | (with_reducible refine LeO.bind ?_ (fun _ => ?_))
   | exact ih0 _ _ _
   | exact LeO.none _
   | refine LeO.ite ?_ ?_
   | refine LeO.bind ?_ (fun _ => ?_)
theorem laws_eqIntS.mono : ∀ a0 a1 k, LeO (laws_eqIntS.f k a0 a1) (laws_eqIntS.f (k + 1) a0 a1) := by
 intro a0 a1 k
 have ih0 := laws_eqIntS.mono_l k
 unfold laws_eqIntS.f
 repeat' first
   | (with_reducible exact ih0 _ _ _)
   | (with_reducible exact LeO.refl _)
   | (with_reducible exact LeO.none _)
   | (with_reducible refine LeO.ite ?_ ?_)
   | (with_reducible refine LeO.bind ?_ (fun _ => ?_))
   | exact ih0 _ _ _
   | exact LeO.none _
   | refine LeO.ite ?_ ?_
   | refine LeO.bind ?_ (fun _ => ?_)
set_option maxHeartbeats 8000000 in
set_option maxRecDepth 100000 in
theorem laws_eqIntS.calls (k : Nat) (A0 : Option Addr) (c0 : Nat) (l0 : List Int) (A1 : Option Addr) (c1 : Nat) (l1 : List Int) (r : Bool) (w : World) (hr0 : Kd.C (Kd.int .i64) w A0 l0.length l0) (hc0 : l0.length ≤ c0) (hr1 : Kd.C (Kd.int .i64) w A1 l1.length l1) (hc1 : l1.length ≤ c1) (h : laws_eqIntS.f k l0 l1 = some r) :
  Calls Try.prog 17 #[.slice A0 l0.length c0, .slice A1 l1.length c1] w fun e w' => e = .returned (.bool r) ∧ Drawn0 w w' := by
 have HR0 := Aside0.mk hr0
 have HC0 := Aside0.mk hc0
 clear hr0 hc0
 have HR1 := Aside0.mk hr1
 have HC1 := Aside0.mk hc1
 clear hr1 hc1
 have H : (if (l0.length : Int) = (l1.length : Int) then (laws_eqIntS.l0 k l0 l1 0) else (some false)) = some r := h
 clear h
 by_cases c3 : (l0.length : Int) = (l1.length : Int)
 ·
  rw [if_pos c3] at H
  have c3b0 : ((l0.length : Int) == (l1.length : Int)) = true := beq_iff_eq.mpr c3
  have c3b1 : ((l0.length : Int) != (l1.length : Int)) = false := bne_eq_false_iff_eq.mpr c3
  have c3b2 : (l0.length == l1.length) = true := by first | simpa using c3 | (simp at c3 ⊢; omega)
  clear c3
  have H' := Aside0.mk H
  clear H
  go_enter Try.func17, Try.ntmps17
  go_wp2
  repeat (go_quiet (fail); try go_wp2)
  go_loopg [5] k (fun kq v5 w' => ∃ (x5_1 : Int), v5 = .int .i64 x5_1 ∧ Aside0 (laws_eqIntS.l0 kq l0 l1 x5_1 = some r) ∧ Aside0 (kq ≤ k) ∧ Drawn0 w w')
  case atStart => exact ⟨(0), (by first | rfl | (simp; done) | (simp [*]; done)), H', ⟨Nat.le_refl _⟩, by repeat (first | exact Drawn0.refl _ | apply Drawn0.step)⟩
  case round =>
   clear H'
   try clear c1
   try clear p2
   try clear c3
   try clear c3b0
   try clear c3b1
   try clear c3b2
   obtain ⟨x5_1, rfl, HA, HK1, ⟨m1, rfl⟩⟩ := hrel
   cases gk with
   | zero => exact absurd HA.out (by simp [laws_eqIntS.l0])
   | succ k1 =>
    have H := HA.out
    clear HA
    simp only [laws_eqIntS.l0] at H
    by_cases c4 : x5_1 < (l0.length : Int)
    ·
     rw [if_pos c4] at H
     have c4b0 : decide (x5_1 < (l0.length : Int)) = true := decide_eq_true c4
     clear c4
     by_cases c5 : 0 ≤ x5_1
     ·
      rw [if_pos c5] at H
      have c5b0 : decide (0 ≤ x5_1) = true := decide_eq_true c5
      clear c5
      by_cases c6 : x5_1 < (l1.length : Int)
      ·
       rw [if_pos c6] at H
       have c6b0 : decide (x5_1 < (l1.length : Int)) = true := decide_eq_true c6
       clear c6
       by_cases c7 : (rd l0 x5_1) = (rd l1 x5_1)
       ·
        rw [if_pos c7] at H
        have c7b0 : ((rd l0 x5_1) == (rd l1 x5_1)) = true := beq_iff_eq.mpr c7
        have c7b1 : ((rd l0 x5_1) != (rd l1 x5_1)) = false := bne_eq_false_iff_eq.mpr c7
        clear c7
        have H' := Aside0.mk H
        clear H
        have p319 : 0 ≤ (x5_1 : Int) := of_decide_eq_true (by first | (with_reducible assumption) | assumption)
        have q319 : x5_1 < (l0.length : Int) := of_decide_eq_true (by first | (with_reducible assumption) | assumption)
        obtain ⟨ad319, e319, hx319_0⟩ := Kd.at_int HR0.out x5_1 p319 q319
        cases e319
        replace p319 := eq_true p319
        replace q319 := eq_true q319
        have p320 : 0 ≤ (x5_1 : Int) := of_decide_eq_true (by first | (with_reducible assumption) | assumption)
        have q320 : x5_1 < (l1.length : Int) := of_decide_eq_true (by first | (with_reducible assumption) | assumption)
        obtain ⟨ad320, e320, hx320_0⟩ := Kd.at_int HR1.out x5_1 p320 q320
        cases e320
        replace p320 := eq_true p320
        replace q320 := eq_true q320
        go_wp2
        repeat (go_quiet (fail); try go_wp2)
        go_roundg k1
        case measure => have := HK1.out; omega
        case rel => exact ⟨(wrap64 (x5_1 + 1)), (by first | rfl | (simp; done) | (simp [*]; done)), H', ⟨by have := HK1.out; omega⟩, by repeat (first | exact Drawn0.refl _ | apply Drawn0.step)⟩
       ·
        rw [if_neg c7] at H
        have c7b0 : ((rd l0 x5_1) == (rd l1 x5_1)) = false := beq_eq_false_iff_ne.mpr c7
        have c7b1 : ((rd l0 x5_1) != (rd l1 x5_1)) = true := bne_iff_ne.mpr c7
        obtain rfl := Option.some.inj H
        have p319 : 0 ≤ (x5_1 : Int) := of_decide_eq_true (by first | (with_reducible assumption) | assumption)
        have q319 : x5_1 < (l0.length : Int) := of_decide_eq_true (by first | (with_reducible assumption) | assumption)
        obtain ⟨ad319, e319, hx319_0⟩ := Kd.at_int HR0.out x5_1 p319 q319
        cases e319
        replace p319 := eq_true p319
        replace q319 := eq_true q319
        have p320 : 0 ≤ (x5_1 : Int) := of_decide_eq_true (by first | (with_reducible assumption) | assumption)
        have q320 : x5_1 < (l1.length : Int) := of_decide_eq_true (by first | (with_reducible assumption) | assumption)
        obtain ⟨ad320, e320, hx320_0⟩ := Kd.at_int HR1.out x5_1 p320 q320
        cases e320
        replace p320 := eq_true p320
        replace q320 := eq_true q320
        go_wp2
        repeat (go_quiet (fail); try go_wp2)
        go_ret
        exact ⟨by first | rfl | (simp; done) | (simp [*]; done), by repeat (first | exact Drawn0.refl _ | apply Drawn0.step)⟩
      ·
       rw [if_neg c6] at H
       exact absurd H (by simp)
     ·
      rw [if_neg c5] at H
      exact absurd H (by simp)
    ·
     rw [if_neg c4] at H
     have c4b0 : decide (x5_1 < (l0.length : Int)) = false := decide_eq_false c4
     clear c4
     obtain rfl := Option.some.inj H
     go_wp2
     repeat (go_quiet (fail); try go_wp2)
     go_ret
     exact ⟨by first | rfl | (simp; done) | (simp [*]; done), by repeat (first | exact Drawn0.refl _ | apply Drawn0.step)⟩
 ·
  rw [if_neg c3] at H
  have c3b0 : ((l0.length : Int) == (l1.length : Int)) = false := beq_eq_false_iff_ne.mpr c3
  have c3b1 : ((l0.length : Int) != (l1.length : Int)) = true := bne_iff_ne.mpr c3
  have c3b2 : (l0.length == l1.length) = false := by first | simpa using c3 | (simp at c3 ⊢; omega)
  obtain rfl := Option.some.inj H
  go_enter Try.func17, Try.ntmps17
  go_wp2
  repeat (go_quiet (fail); try go_wp2)
  go_ret
  exact ⟨by first | rfl | (simp; done) | (simp [*]; done), by repeat (first | exact Drawn0.refl _ | apply Drawn0.step)⟩

end Go.Proofs.Ytgdpgoeddnnaaaa.Q
namespace Go.Proofs.Ytgdpgoeddnnaaaa.Q
open Go.RowKit Go.Proofs.YtgdpgoeddnnaaaaW.PrintWords Go.Proofs.YtgdpgoeddnnaaaaW.PrintLast Go.Proofs.YtgdpgoeddnnaaaaW.PrintMore
attribute [local go_sem] max2_int min2_int max_two min_two max_three min_three max_four min_four   -- for this text's walks alone
set_option linter.unusedVariables false
set_option linter.unusedSimpArgs false

/-! ### laws_eqAreaMap: function 8 -/
def laws_eqAreaMap.f (k : Nat) (a0_0 : Int) (a0_1 : Int) (l0_2 : List Int) (a1_0 : Int) (a1_1 : Int) (l1_2 : List Int) : Option (Bool) := if a0_0 = a1_0 then (if a0_1 = a1_1 then ((laws_eqIntS.f k l0_2 l1_2).bind fun t323 => (if t323 = true then (some true) else (some false))) else (some false)) else (some false)
theorem laws_eqAreaMap.mono : ∀ a0 a1 a2 a3 a4 a5 k, LeO (laws_eqAreaMap.f k a0 a1 a2 a3 a4 a5) (laws_eqAreaMap.f (k + 1) a0 a1 a2 a3 a4 a5) := by
 intro a0 a1 a2 a3 a4 a5 k
 unfold laws_eqAreaMap.f
 repeat' first
   | (with_reducible exact laws_eqIntS.mono _ _ _)
   | (with_reducible exact LeO.refl _)
   | (with_reducible exact LeO.none _)
   | (with_reducible refine LeO.ite ?_ ?_)
   | (with_reducible refine LeO.bind ?_ (fun _ => ?_))
   | exact laws_eqIntS.mono _ _ _
   | exact LeO.none _
   | refine LeO.ite ?_ ?_
   | refine LeO.bind ?_ (fun _ => ?_)
set_option maxHeartbeats 8000000 in
set_option maxRecDepth 100000 in
theorem laws_eqAreaMap.calls (k : Nat) (a0_0 : Int) (a0_1 : Int) (A0_2 : Option Addr) (c0_2 : Nat) (l0_2 : List Int) (a1_0 : Int) (a1_1 : Int) (A1_2 : Option Addr) (c1_2 : Nat) (l1_2 : List Int) (r : Bool) (w : World) (hr0_2 : Kd.C (Kd.int .i64) w A0_2 l0_2.length l0_2) (hc0_2 : l0_2.length ≤ c0_2) (hr1_2 : Kd.C (Kd.int .i64) w A1_2 l1_2.length l1_2) (hc1_2 : l1_2.length ≤ c1_2) (h : laws_eqAreaMap.f k a0_0 a0_1 l0_2 a1_0 a1_1 l1_2 = some r) :
  Calls Try.prog 8 #[.agg #[.int .i64 a0_0, .int .i64 a0_1, .slice A0_2 l0_2.length c0_2], .agg #[.int .i64 a1_0, .int .i64 a1_1, .slice A1_2 l1_2.length c1_2]] w fun e w' => e = .returned (.bool r) ∧ Below w.heap.size w w' := by
 have hu28 := Try.underlying28
 have HR0_2 := Aside0.mk hr0_2
 have HC0_2 := Aside0.mk hc0_2
 clear hr0_2 hc0_2
 have HR1_2 := Aside0.mk hr1_2
 have HC1_2 := Aside0.mk hc1_2
 clear hr1_2 hc1_2
 have HB := Aside0.mk (Below.refl w.heap.size w)
 have H : (if a0_0 = a1_0 then (if a0_1 = a1_1 then ((laws_eqIntS.f k l0_2 l1_2).bind fun t323 => (if t323 = true then (some true) else (some false))) else (some false)) else (some false)) = some r := h
 clear h
 by_cases c3 : a0_0 = a1_0
 ·
  rw [if_pos c3] at H
  have c3b0 : (a0_0 == a1_0) = true := beq_iff_eq.mpr c3
  have c3b1 : (a0_0 != a1_0) = false := bne_eq_false_iff_eq.mpr c3
  clear c3
  by_cases c4 : a0_1 = a1_1
  ·
   rw [if_pos c4] at H
   have c4b0 : (a0_1 == a1_1) = true := beq_iff_eq.mpr c4
   have c4b1 : (a0_1 != a1_1) = false := bne_eq_false_iff_eq.mpr c4
   clear c4
   replace H := Option.bind_eq_some_iff.mp H
   obtain ⟨t323, A50, H⟩ := H
   replace H : (if t323 = true then (some true) else (some false)) = some r := H
   have A5 := Aside0.mk A50
   clear A50
   by_cases c6 : t323 = true
   ·
    subst c6
    have H1 : (some true) = some r := by rw [if_pos rfl] at H; exact H
    clear H
    have H := H1
    clear H1
    obtain rfl := Option.some.inj H
    go_enter Try.func8, Try.ntmps8
    go_wp2_with (first | ((with_reducible refine gate_dst (N := 2) rfl ?_); refine box_event ?hg (N := 2) ?hd (cs := #[.int .i64 a0_0, .int .i64 a0_1, .slice A0_2 l0_2.length c0_2]) (t := 28) ?hr ?_; (case hd => rfl); (case hg => rfl); (case hr => first | (go_simp; done) | (go_simp; rfl)); intro gb321 hg w7 hbox hb; have n0_ := Aside0.mk (below_step (by repeat (first | (with_reducible first | exact HB.out | apply below_alloc | apply pw_below_drewN | apply below_drew1) | exact HB.out)) hb); have n1_ := Aside0.mk (hbox); have n2_ := Aside0.mk ((by rw [hg]; exact (below_size (by repeat (first | (with_reducible first | exact HB.out | apply below_alloc | apply pw_below_drewN | apply below_drew1) | exact HB.out))) : w.heap.size ≤ gb321)); have n3_ := Aside0.mk ((by rw [hg]; exact (below_size (by repeat (first | (with_reducible first | exact HB.out | apply below_alloc | apply pw_below_drewN | apply below_drew1) | exact HB.out))) : w.heap.size ≤ gb321)); clear HB; have HB := n0_; have BK321 := n1_; have GW321 := n2_; have GE321 := n3_; clear n0_ n1_ n2_ n3_; clear hb hbox hg) | ((with_reducible refine gate_dst (N := 3) rfl ?_); refine box_event ?hg (N := 3) ?hd (cs := #[.int .i64 a1_0, .int .i64 a1_1, .slice A1_2 l1_2.length c1_2]) (t := 28) ?hr ?_; (case hd => rfl); (case hg => rfl); (case hr => first | (go_simp; done) | (go_simp; rfl)); intro gb322 hg w8 hbox hb; have n0_ := Aside0.mk (blk_below (g := gb321) (o := .cells #[.int .i64 a0_0, .int .i64 a0_1, .slice A0_2 l0_2.length c0_2] 28 (0, 0)) (by (with_reducible repeat (first | refine blk_drewN ?_ _ | refine blk_drew ?_ | refine blk_alloc ?_ _)); exact BK321.out) hb); have n1_ := Aside0.mk (below_step (by repeat (first | (with_reducible first | exact HB.out | apply below_alloc | apply pw_below_drewN | apply below_drew1 | refine below_set ?_ GE321.out) | exact HB.out)) hb); have n2_ := Aside0.mk (hbox); have n3_ := Aside0.mk ((by rw [hg]; exact (below_size (by repeat (first | (with_reducible first | exact HB.out | apply below_alloc | apply pw_below_drewN | apply below_drew1 | refine below_set ?_ GE321.out) | exact HB.out))) : w.heap.size ≤ gb322)); have n4_ := Aside0.mk ((by rw [hg]; exact (below_size (by repeat (first | (with_reducible first | exact HB.out | apply below_alloc | apply pw_below_drewN | apply below_drew1 | refine below_set ?_ GE321.out) | exact HB.out))) : w.heap.size ≤ gb322)); have n5_ := Aside0.mk ((by rw [hg]; exact Nat.ne_of_lt (blk_lt (g := gb321) (o := .cells #[.int .i64 a0_0, .int .i64 a0_1, .slice A0_2 l0_2.length c0_2] 28 (0, 0)) (by (with_reducible repeat (first | refine blk_drewN ?_ _ | refine blk_drew ?_ | refine blk_alloc ?_ _)); exact BK321.out)) : gb321 ≠ gb322)); have n6_ := Aside0.mk ((by rw [hg]; exact Nat.ne_of_gt (blk_lt (g := gb321) (o := .cells #[.int .i64 a0_0, .int .i64 a0_1, .slice A0_2 l0_2.length c0_2] 28 (0, 0)) (by (with_reducible repeat (first | refine blk_drewN ?_ _ | refine blk_drew ?_ | refine blk_alloc ?_ _)); exact BK321.out)) : gb322 ≠ gb321)); clear BK321; clear HB; have BK321 := n0_; have HB := n1_; have BK322 := n2_; have GW322 := n3_; have GE322 := n4_; have NB321_322 := n5_; have NB322_321 := n6_; clear n0_ n1_ n2_ n3_ n4_ n5_ n6_; clear hb hbox hg; have hnb9 := NB321_322.out; have hnc9 := NB322_321.out; have hcz10_0 : w8.cell? ⟨gb321, 0, none⟩ = some (.int .i64 a0_0) := (blk_cell BK321.out 0).trans rfl; have hcz10_1 : w8.cell? ⟨gb321, 1, none⟩ = some (.int .i64 a0_1) := (blk_cell BK321.out 1).trans rfl; have hcz10_2 : w8.cell? ⟨gb321, 2, none⟩ = some (.slice A0_2 l0_2.length c0_2) := (blk_cell BK321.out 2).trans rfl; have hfz10_0 := blk_frozen BK321.out 0; have hfz10_1 := blk_frozen BK321.out 1; have hfz10_2 := blk_frozen BK321.out 2; have hcz11_0 : w8.cell? ⟨gb322, 0, none⟩ = some (.int .i64 a1_0) := (blk_cell BK322.out 0).trans rfl; have hcz11_1 : w8.cell? ⟨gb322, 1, none⟩ = some (.int .i64 a1_1) := (blk_cell BK322.out 1).trans rfl; have hcz11_2 : w8.cell? ⟨gb322, 2, none⟩ = some (.slice A1_2 l1_2.length c1_2) := (blk_cell BK322.out 2).trans rfl; have hfz11_0 := blk_frozen BK322.out 0; have hfz11_1 := blk_frozen BK322.out 1; have hfz11_2 := blk_frozen BK322.out 2) | ((with_reducible refine gate_callee (f := 17) rfl ?_); refine goesL_ (some 19) rfl rfl Try.func17 (by kernel_rfl) rfl #[.slice A0_2 l0_2.length c0_2, .slice A1_2 l1_2.length c1_2] rfl (by (try simp only [List.map_toArray, List.map_cons, List.map_nil]); first | done | rfl | (simp only [List.length_drop, List.length_take]; rfl)) ?_; (with_reducible refine (laws_eqIntS.calls k _ _ l0_2 _ _ l1_2 true _ ?side1 ?side2 ?side3 ?side4 A5.out).mono ?_); (case side1 => repeat (first | exact (Kd.C_below HR0_2.out HB.out) | (with_reducible refine Kd.C_alloc ?_ _) | (with_reducible refine Kd.C_drewN ?_ _) | (with_reducible refine Kd.C_drew ?_))); (case side2 => exact HC0_2.out); (case side3 => repeat (first | exact (Kd.C_below HR1_2.out HB.out) | (with_reducible refine Kd.C_alloc ?_ _) | (with_reducible refine Kd.C_drewN ?_ _) | (with_reducible refine Kd.C_drew ?_))); (case side4 => exact HC1_2.out); rintro e w' ⟨rfl, ⟨nd, rfl⟩⟩; refine ⟨_, rfl, ?_⟩))
    go_ret
    exact ⟨by first | rfl | (simp [errW_none, errW_some] <;> rfl) | (simp [*, errW_none, errW_some] <;> rfl), by repeat (first | (with_reducible first | exact HB.out | apply below_alloc | apply pw_below_drewN | apply below_drew1 | refine below_set ?_ GE321.out | refine below_set ?_ GE322.out) | exact HB.out)⟩
   ·
    replace c6 := Bool.eq_false_iff.mpr c6
    subst c6
    have H1 : (some false) = some r := by rw [if_neg (show ¬ (false = true) by decide)] at H; exact H
    clear H
    have H := H1
    clear H1
    obtain rfl := Option.some.inj H
    go_enter Try.func8, Try.ntmps8
    go_wp2_with (first | ((with_reducible refine gate_dst (N := 2) rfl ?_); refine box_event ?hg (N := 2) ?hd (cs := #[.int .i64 a0_0, .int .i64 a0_1, .slice A0_2 l0_2.length c0_2]) (t := 28) ?hr ?_; (case hd => rfl); (case hg => rfl); (case hr => first | (go_simp; done) | (go_simp; rfl)); intro gb321 hg w12 hbox hb; have n0_ := Aside0.mk (below_step (by repeat (first | (with_reducible first | exact HB.out | apply below_alloc | apply pw_below_drewN | apply below_drew1) | exact HB.out)) hb); have n1_ := Aside0.mk (hbox); have n2_ := Aside0.mk ((by rw [hg]; exact (below_size (by repeat (first | (with_reducible first | exact HB.out | apply below_alloc | apply pw_below_drewN | apply below_drew1) | exact HB.out))) : w.heap.size ≤ gb321)); have n3_ := Aside0.mk ((by rw [hg]; exact (below_size (by repeat (first | (with_reducible first | exact HB.out | apply below_alloc | apply pw_below_drewN | apply below_drew1) | exact HB.out))) : w.heap.size ≤ gb321)); clear HB; have HB := n0_; have BK321 := n1_; have GW321 := n2_; have GE321 := n3_; clear n0_ n1_ n2_ n3_; clear hb hbox hg) | ((with_reducible refine gate_dst (N := 3) rfl ?_); refine box_event ?hg (N := 3) ?hd (cs := #[.int .i64 a1_0, .int .i64 a1_1, .slice A1_2 l1_2.length c1_2]) (t := 28) ?hr ?_; (case hd => rfl); (case hg => rfl); (case hr => first | (go_simp; done) | (go_simp; rfl)); intro gb322 hg w13 hbox hb; have n0_ := Aside0.mk (blk_below (g := gb321) (o := .cells #[.int .i64 a0_0, .int .i64 a0_1, .slice A0_2 l0_2.length c0_2] 28 (0, 0)) (by (with_reducible repeat (first | refine blk_drewN ?_ _ | refine blk_drew ?_ | refine blk_alloc ?_ _)); exact BK321.out) hb); have n1_ := Aside0.mk (below_step (by repeat (first | (with_reducible first | exact HB.out | apply below_alloc | apply pw_below_drewN | apply below_drew1 | refine below_set ?_ GE321.out) | exact HB.out)) hb); have n2_ := Aside0.mk (hbox); have n3_ := Aside0.mk ((by rw [hg]; exact (below_size (by repeat (first | (with_reducible first | exact HB.out | apply below_alloc | apply pw_below_drewN | apply below_drew1 | refine below_set ?_ GE321.out) | exact HB.out))) : w.heap.size ≤ gb322)); have n4_ := Aside0.mk ((by rw [hg]; exact (below_size (by repeat (first | (with_reducible first | exact HB.out | apply below_alloc | apply pw_below_drewN | apply below_drew1 | refine below_set ?_ GE321.out) | exact HB.out))) : w.heap.size ≤ gb322)); have n5_ := Aside0.mk ((by rw [hg]; exact Nat.ne_of_lt (blk_lt (g := gb321) (o := .cells #[.int .i64 a0_0, .int .i64 a0_1, .slice A0_2 l0_2.length c0_2] 28 (0, 0)) (by (with_reducible repeat (first | refine blk_drewN ?_ _ | refine blk_drew ?_ | refine blk_alloc ?_ _)); exact BK321.out)) : gb321 ≠ gb322)); have n6_ := Aside0.mk ((by rw [hg]; exact Nat.ne_of_gt (blk_lt (g := gb321) (o := .cells #[.int .i64 a0_0, .int .i64 a0_1, .slice A0_2 l0_2.length c0_2] 28 (0, 0)) (by (with_reducible repeat (first | refine blk_drewN ?_ _ | refine blk_drew ?_ | refine blk_alloc ?_ _)); exact BK321.out)) : gb322 ≠ gb321)); clear BK321; clear HB; have BK321 := n0_; have HB := n1_; have BK322 := n2_; have GW322 := n3_; have GE322 := n4_; have NB321_322 := n5_; have NB322_321 := n6_; clear n0_ n1_ n2_ n3_ n4_ n5_ n6_; clear hb hbox hg; have hnb14 := NB321_322.out; have hnc14 := NB322_321.out; have hcz15_0 : w13.cell? ⟨gb321, 0, none⟩ = some (.int .i64 a0_0) := (blk_cell BK321.out 0).trans rfl; have hcz15_1 : w13.cell? ⟨gb321, 1, none⟩ = some (.int .i64 a0_1) := (blk_cell BK321.out 1).trans rfl; have hcz15_2 : w13.cell? ⟨gb321, 2, none⟩ = some (.slice A0_2 l0_2.length c0_2) := (blk_cell BK321.out 2).trans rfl; have hfz15_0 := blk_frozen BK321.out 0; have hfz15_1 := blk_frozen BK321.out 1; have hfz15_2 := blk_frozen BK321.out 2; have hcz16_0 : w13.cell? ⟨gb322, 0, none⟩ = some (.int .i64 a1_0) := (blk_cell BK322.out 0).trans rfl; have hcz16_1 : w13.cell? ⟨gb322, 1, none⟩ = some (.int .i64 a1_1) := (blk_cell BK322.out 1).trans rfl; have hcz16_2 : w13.cell? ⟨gb322, 2, none⟩ = some (.slice A1_2 l1_2.length c1_2) := (blk_cell BK322.out 2).trans rfl; have hfz16_0 := blk_frozen BK322.out 0; have hfz16_1 := blk_frozen BK322.out 1; have hfz16_2 := blk_frozen BK322.out 2) | ((with_reducible refine gate_callee (f := 17) rfl ?_); refine goesL_ (some 19) rfl rfl Try.func17 (by kernel_rfl) rfl #[.slice A0_2 l0_2.length c0_2, .slice A1_2 l1_2.length c1_2] rfl (by (try simp only [List.map_toArray, List.map_cons, List.map_nil]); first | done | rfl | (simp only [List.length_drop, List.length_take]; rfl)) ?_; (with_reducible refine (laws_eqIntS.calls k _ _ l0_2 _ _ l1_2 false _ ?side1 ?side2 ?side3 ?side4 A5.out).mono ?_); (case side1 => repeat (first | exact (Kd.C_below HR0_2.out HB.out) | (with_reducible refine Kd.C_alloc ?_ _) | (with_reducible refine Kd.C_drewN ?_ _) | (with_reducible refine Kd.C_drew ?_))); (case side2 => exact HC0_2.out); (case side3 => repeat (first | exact (Kd.C_below HR1_2.out HB.out) | (with_reducible refine Kd.C_alloc ?_ _) | (with_reducible refine Kd.C_drewN ?_ _) | (with_reducible refine Kd.C_drew ?_))); (case side4 => exact HC1_2.out); rintro e w' ⟨rfl, ⟨nd, rfl⟩⟩; refine ⟨_, rfl, ?_⟩))
    go_ret
    exact ⟨by first | rfl | (simp [errW_none, errW_some] <;> rfl) | (simp [*, errW_none, errW_some] <;> rfl), by repeat (first | (with_reducible first | exact HB.out | apply below_alloc | apply pw_below_drewN | apply below_drew1 | refine below_set ?_ GE321.out | refine below_set ?_ GE322.out) | exact HB.out)⟩
  ·
   rw [if_neg c4] at H
   have c4b0 : (a0_1 == a1_1) = false := beq_eq_false_iff_ne.mpr c4
   have c4b1 : (a0_1 != a1_1) = true := bne_iff_ne.mpr c4
   obtain rfl := Option.some.inj H
   go_enter Try.func8, Try.ntmps8
   go_wp2_with (first | ((with_reducible refine gate_dst (N := 2) rfl ?_); refine box_event ?hg (N := 2) ?hd (cs := #[.int .i64 a0_0, .int .i64 a0_1, .slice A0_2 l0_2.length c0_2]) (t := 28) ?hr ?_; (case hd => rfl); (case hg => rfl); (case hr => first | (go_simp; done) | (go_simp; rfl)); intro gb321 hg w17 hbox hb; have n0_ := Aside0.mk (below_step (by repeat (first | (with_reducible first | exact HB.out | apply below_alloc | apply pw_below_drewN | apply below_drew1) | exact HB.out)) hb); have n1_ := Aside0.mk (hbox); have n2_ := Aside0.mk ((by rw [hg]; exact (below_size (by repeat (first | (with_reducible first | exact HB.out | apply below_alloc | apply pw_below_drewN | apply below_drew1) | exact HB.out))) : w.heap.size ≤ gb321)); have n3_ := Aside0.mk ((by rw [hg]; exact (below_size (by repeat (first | (with_reducible first | exact HB.out | apply below_alloc | apply pw_below_drewN | apply below_drew1) | exact HB.out))) : w.heap.size ≤ gb321)); clear HB; have HB := n0_; have BK321 := n1_; have GW321 := n2_; have GE321 := n3_; clear n0_ n1_ n2_ n3_; clear hb hbox hg) | ((with_reducible refine gate_dst (N := 3) rfl ?_); refine box_event ?hg (N := 3) ?hd (cs := #[.int .i64 a1_0, .int .i64 a1_1, .slice A1_2 l1_2.length c1_2]) (t := 28) ?hr ?_; (case hd => rfl); (case hg => rfl); (case hr => first | (go_simp; done) | (go_simp; rfl)); intro gb322 hg w18 hbox hb; have n0_ := Aside0.mk (blk_below (g := gb321) (o := .cells #[.int .i64 a0_0, .int .i64 a0_1, .slice A0_2 l0_2.length c0_2] 28 (0, 0)) (by (with_reducible repeat (first | refine blk_drewN ?_ _ | refine blk_drew ?_ | refine blk_alloc ?_ _)); exact BK321.out) hb); have n1_ := Aside0.mk (below_step (by repeat (first | (with_reducible first | exact HB.out | apply below_alloc | apply pw_below_drewN | apply below_drew1 | refine below_set ?_ GE321.out) | exact HB.out)) hb); have n2_ := Aside0.mk (hbox); have n3_ := Aside0.mk ((by rw [hg]; exact (below_size (by repeat (first | (with_reducible first | exact HB.out | apply below_alloc | apply pw_below_drewN | apply below_drew1 | refine below_set ?_ GE321.out) | exact HB.out))) : w.heap.size ≤ gb322)); have n4_ := Aside0.mk ((by rw [hg]; exact (below_size (by repeat (first | (with_reducible first | exact HB.out | apply below_alloc | apply pw_below_drewN | apply below_drew1 | refine below_set ?_ GE321.out) | exact HB.out))) : w.heap.size ≤ gb322)); have n5_ := Aside0.mk ((by rw [hg]; exact Nat.ne_of_lt (blk_lt (g := gb321) (o := .cells #[.int .i64 a0_0, .int .i64 a0_1, .slice A0_2 l0_2.length c0_2] 28 (0, 0)) (by (with_reducible repeat (first | refine blk_drewN ?_ _ | refine blk_drew ?_ | refine blk_alloc ?_ _)); exact BK321.out)) : gb321 ≠ gb322)); have n6_ := Aside0.mk ((by rw [hg]; exact Nat.ne_of_gt (blk_lt (g := gb321) (o := .cells #[.int .i64 a0_0, .int .i64 a0_1, .slice A0_2 l0_2.length c0_2] 28 (0, 0)) (by (with_reducible repeat (first | refine blk_drewN ?_ _ | refine blk_drew ?_ | refine blk_alloc ?_ _)); exact BK321.out)) : gb322 ≠ gb321)); clear BK321; clear HB; have BK321 := n0_; have HB := n1_; have BK322 := n2_; have GW322 := n3_; have GE322 := n4_; have NB321_322 := n5_; have NB322_321 := n6_; clear n0_ n1_ n2_ n3_ n4_ n5_ n6_; clear hb hbox hg; have hnb19 := NB321_322.out; have hnc19 := NB322_321.out; have hcz20_0 : w18.cell? ⟨gb321, 0, none⟩ = some (.int .i64 a0_0) := (blk_cell BK321.out 0).trans rfl; have hcz20_1 : w18.cell? ⟨gb321, 1, none⟩ = some (.int .i64 a0_1) := (blk_cell BK321.out 1).trans rfl; have hcz20_2 : w18.cell? ⟨gb321, 2, none⟩ = some (.slice A0_2 l0_2.length c0_2) := (blk_cell BK321.out 2).trans rfl; have hfz20_0 := blk_frozen BK321.out 0; have hfz20_1 := blk_frozen BK321.out 1; have hfz20_2 := blk_frozen BK321.out 2; have hcz21_0 : w18.cell? ⟨gb322, 0, none⟩ = some (.int .i64 a1_0) := (blk_cell BK322.out 0).trans rfl; have hcz21_1 : w18.cell? ⟨gb322, 1, none⟩ = some (.int .i64 a1_1) := (blk_cell BK322.out 1).trans rfl; have hcz21_2 : w18.cell? ⟨gb322, 2, none⟩ = some (.slice A1_2 l1_2.length c1_2) := (blk_cell BK322.out 2).trans rfl; have hfz21_0 := blk_frozen BK322.out 0; have hfz21_1 := blk_frozen BK322.out 1; have hfz21_2 := blk_frozen BK322.out 2))
   go_ret
   exact ⟨by first | rfl | (simp [errW_none, errW_some] <;> rfl) | (simp [*, errW_none, errW_some] <;> rfl), by repeat (first | (with_reducible first | exact HB.out | apply below_alloc | apply pw_below_drewN | apply below_drew1 | refine below_set ?_ GE321.out | refine below_set ?_ GE322.out) | exact HB.out)⟩
 ·
  rw [if_neg c3] at H
  have c3b0 : (a0_0 == a1_0) = false := beq_eq_false_iff_ne.mpr c3
  have c3b1 : (a0_0 != a1_0) = true := bne_iff_ne.mpr c3
  obtain rfl := Option.some.inj H
  go_enter Try.func8, Try.ntmps8
  go_wp2_with (first | ((with_reducible refine gate_dst (N := 2) rfl ?_); refine box_event ?hg (N := 2) ?hd (cs := #[.int .i64 a0_0, .int .i64 a0_1, .slice A0_2 l0_2.length c0_2]) (t := 28) ?hr ?_; (case hd => rfl); (case hg => rfl); (case hr => first | (go_simp; done) | (go_simp; rfl)); intro gb321 hg w22 hbox hb; have n0_ := Aside0.mk (below_step (by repeat (first | (with_reducible first | exact HB.out | apply below_alloc | apply pw_below_drewN | apply below_drew1) | exact HB.out)) hb); have n1_ := Aside0.mk (hbox); have n2_ := Aside0.mk ((by rw [hg]; exact (below_size (by repeat (first | (with_reducible first | exact HB.out | apply below_alloc | apply pw_below_drewN | apply below_drew1) | exact HB.out))) : w.heap.size ≤ gb321)); have n3_ := Aside0.mk ((by rw [hg]; exact (below_size (by repeat (first | (with_reducible first | exact HB.out | apply below_alloc | apply pw_below_drewN | apply below_drew1) | exact HB.out))) : w.heap.size ≤ gb321)); clear HB; have HB := n0_; have BK321 := n1_; have GW321 := n2_; have GE321 := n3_; clear n0_ n1_ n2_ n3_; clear hb hbox hg) | ((with_reducible refine gate_dst (N := 3) rfl ?_); refine box_event ?hg (N := 3) ?hd (cs := #[.int .i64 a1_0, .int .i64 a1_1, .slice A1_2 l1_2.length c1_2]) (t := 28) ?hr ?_; (case hd => rfl); (case hg => rfl); (case hr => first | (go_simp; done) | (go_simp; rfl)); intro gb322 hg w23 hbox hb; have n0_ := Aside0.mk (blk_below (g := gb321) (o := .cells #[.int .i64 a0_0, .int .i64 a0_1, .slice A0_2 l0_2.length c0_2] 28 (0, 0)) (by (with_reducible repeat (first | refine blk_drewN ?_ _ | refine blk_drew ?_ | refine blk_alloc ?_ _)); exact BK321.out) hb); have n1_ := Aside0.mk (below_step (by repeat (first | (with_reducible first | exact HB.out | apply below_alloc | apply pw_below_drewN | apply below_drew1 | refine below_set ?_ GE321.out) | exact HB.out)) hb); have n2_ := Aside0.mk (hbox); have n3_ := Aside0.mk ((by rw [hg]; exact (below_size (by repeat (first | (with_reducible first | exact HB.out | apply below_alloc | apply pw_below_drewN | apply below_drew1 | refine below_set ?_ GE321.out) | exact HB.out))) : w.heap.size ≤ gb322)); have n4_ := Aside0.mk ((by rw [hg]; exact (below_size (by repeat (first | (with_reducible first | exact HB.out | apply below_alloc | apply pw_below_drewN | apply below_drew1 | refine below_set ?_ GE321.out) | exact HB.out))) : w.heap.size ≤ gb322)); have n5_ := Aside0.mk ((by rw [hg]; exact Nat.ne_of_lt (blk_lt (g := gb321) (o := .cells #[.int .i64 a0_0, .int .i64 a0_1, .slice A0_2 l0_2.length c0_2] 28 (0, 0)) (by (with_reducible repeat (first | refine blk_drewN ?_ _ | refine blk_drew ?_ | refine blk_alloc ?_ _)); exact BK321.out)) : gb321 ≠ gb322)); have n6_ := Aside0.mk ((by rw [hg]; exact Nat.ne_of_gt (blk_lt (g := gb321) (o := .cells #[.int .i64 a0_0, .int .i64 a0_1, .slice A0_2 l0_2.length c0_2] 28 (0, 0)) (by (with_reducible repeat (first | refine blk_drewN ?_ _ | refine blk_drew ?_ | refine blk_alloc ?_ _)); exact BK321.out)) : gb322 ≠ gb321)); clear BK321; clear HB; have BK321 := n0_; have HB := n1_; have BK322 := n2_; have GW322 := n3_; have GE322 := n4_; have NB321_322 := n5_; have NB322_321 := n6_; clear n0_ n1_ n2_ n3_ n4_ n5_ n6_; clear hb hbox hg; have hnb24 := NB321_322.out; have hnc24 := NB322_321.out; have hcz25_0 : w23.cell? ⟨gb321, 0, none⟩ = some (.int .i64 a0_0) := (blk_cell BK321.out 0).trans rfl; have hcz25_1 : w23.cell? ⟨gb321, 1, none⟩ = some (.int .i64 a0_1) := (blk_cell BK321.out 1).trans rfl; have hcz25_2 : w23.cell? ⟨gb321, 2, none⟩ = some (.slice A0_2 l0_2.length c0_2) := (blk_cell BK321.out 2).trans rfl; have hfz25_0 := blk_frozen BK321.out 0; have hfz25_1 := blk_frozen BK321.out 1; have hfz25_2 := blk_frozen BK321.out 2; have hcz26_0 : w23.cell? ⟨gb322, 0, none⟩ = some (.int .i64 a1_0) := (blk_cell BK322.out 0).trans rfl; have hcz26_1 : w23.cell? ⟨gb322, 1, none⟩ = some (.int .i64 a1_1) := (blk_cell BK322.out 1).trans rfl; have hcz26_2 : w23.cell? ⟨gb322, 2, none⟩ = some (.slice A1_2 l1_2.length c1_2) := (blk_cell BK322.out 2).trans rfl; have hfz26_0 := blk_frozen BK322.out 0; have hfz26_1 := blk_frozen BK322.out 1; have hfz26_2 := blk_frozen BK322.out 2))
  go_ret
  exact ⟨by first | rfl | (simp [errW_none, errW_some] <;> rfl) | (simp [*, errW_none, errW_some] <;> rfl), by repeat (first | (with_reducible first | exact HB.out | apply below_alloc | apply pw_below_drewN | apply below_drew1 | refine below_set ?_ GE321.out | refine below_set ?_ GE322.out) | exact HB.out)⟩

end Go.Proofs.Ytgdpgoeddnnaaaa.Q
