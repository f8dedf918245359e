/- Texts of this claim, put together: walks of the program's functions, and plain facts. -/
import Derived.Test.YtpdeapefekbdpaaZFnTracks
import Derived.Test.YtpdeapefekbdpaaBFnTracks0
import Derived.Test.YtpdeapefekbdpaaBFnTracks2
namespace Go.Proofs.Ytpdeapefekbdpaa.Q
open Go.RowKit Go.Proofs.YtpdeapefekbdpaaW.PrintWords Go.Proofs.YtpdeapefekbdpaaW.PrintLast Go.Proofs.YtpdeapefekbdpaaW.PrintMore
attribute [local go_sem] max2_int min2_int max_two min_two max_three min_three max_four min_four
set_option linter.unusedVariables false
set_option linter.unusedSimpArgs false
theorem cell_drewP {w : World} {a : Addr} {v : Value} (h : w.cell? a = some v) : w.drew.cell? a = some v := by simpa using h
def RPF1.c.T1 : Bool × List (List Nat × List Nat) := (true, [([], []), ([], []), ([], []), ([1, 2], [1, 2]), ([3], [3]), ([], []), ([0, 4, 5], [0, 4, 5]), ([6, 6, 0, 1, 2, 3, 4, 5, 6], [6])])
def RPF1.c.B1 : List Nat := [0, 0, 0, 6, 14, 0, 63, 127]
theorem RPF1.c.tab1 : rtab .any (opsOf Try.f61 1) = RPF1.c.T1 := by kernel_rfl
theorem RPF1.c.bits1 : waitsOk RPF1.c.T1.2 RPF1.c.B1 = true := by kernel_rfl
set_option maxHeartbeats 4000000 in
set_option maxRecDepth 100000 in
theorem RPF1.calls (wide x y : Int) (b : Bool) (i : Nat) (part : List Int) (Bw Bp Bi gb cap : Nat) (okP : Nat → Prop) (w0 W : World) (hB : Below w0.heap.size w0 W) (hbp : w0.heap.size ≤ Bp)
  (hw : W.cell? ⟨Bw, 0, none⟩ = some (.int .i64 wide)) (hi : W.cell? ⟨Bi, 0, none⟩ = some (.int .i64 (i : Int))) (hp : W.cell? ⟨Bp, 0, none⟩ = some (.slice (some ⟨gb, 0, none⟩) part.length cap)) (hf : W.frozen? ⟨Bp, 0, none⟩ = false)
  (hr : Kd.R (Kd.int .i64) 3 W w0.heap.size okP (.slice (some ⟨gb, 0, none⟩) part.length cap) part) (hfr : ∀ k, W.heap.size ≤ k → okP k) (hok : ∀ k, okP k → k ≠ Bp ∧ k ≠ Bi ∧ k ≠ Bw) (hpi : Bp ≠ Bi ∧ Bp ≠ Bw)
  (hil : i < part.length) (hl : part.length ≤ 1000000) (hyv : part.getD i 0 = y) (ha : impl_areConnected.f wide y x = some b) :
  Calls Try.prog 61 #[.int .i64 x, .pointer (some ⟨Bw, 0, none⟩), .pointer (some ⟨Bp, 0, none⟩), .pointer (some ⟨Bi, 0, none⟩)] W fun e w' => e = .returned (.bool b) ∧ Below w0.heap.size w0 w' ∧ Kept W w' (fun k => k = Bp ∨ k = gb) ∧
   w'.cell? ⟨Bw, 0, none⟩ = some (.int .i64 wide) ∧ w'.cell? ⟨Bi, 0, none⟩ = some (.int .i64 (i : Int)) ∧ w'.frozen? ⟨Bp, 0, none⟩ = false ∧
   ∃ gb' cap', w'.cell? ⟨Bp, 0, none⟩ = some (.slice (some ⟨gb', 0, none⟩) (if b = true then part ++ [x] else part).length cap') ∧ Kd.R (Kd.int .i64) 3 w' w0.heap.size okP (.slice (some ⟨gb', 0, none⟩) (if b = true then part ++ [x] else part).length cap') (if b = true then part ++ [x] else part) ∧ (gb' = gb ∨ W.heap.size ≤ gb') := by
 have hy : W.cell? ⟨gb, i, none⟩ = some (.int .i64 y) := by
  have := (Kd.R_celln 0 hr (i : Int) (by omega) (by omega)).1
  rw [Int.toNat_natCast, show rdOf 0 part (i : Int) = part.getD i 0 from rfl, hyv] at this
  exact this
 have HA := Aside0.mk ha
 have HBB := Aside0.mk hB
 have HR := Aside0.mk hr
 have HF := Aside0.mk hf
 have HFR := Aside0.mk hfr
 have HOK := Aside0.mk hok
 have b1 : (0 : Int) ≤ (i : Int) := by omega
 have b2 : (i : Int) < (part.length : Int) := by omega
 have d1 : decide ((0 : Int) ≤ (i : Int)) = true := decide_eq_true b1
 have d2 : decide ((i : Int) < (part.length : Int)) = true := decide_eq_true b2
 replace b1 := eq_true b1
 replace b2 := eq_true b2
 have HB := Aside0.mk (Below.refl W.heap.size W).drew
 clear ha hB hr hf hfr hok hyv
 go_enter Try.func61, Try.ntmps61
 go_wp2_with fail
 refine start_ (n := 8) (S := fun w' => w'.cell? ⟨Bw, 0, none⟩ = some (.int .i64 wide) ∧ w'.cell? ⟨Bp, 0, none⟩ = some (.slice (some ⟨gb, 0, none⟩) part.length cap) ∧ w'.cell? ⟨Bi, 0, none⟩ = some (.int .i64 (i : Int)) ∧ w'.cell? ⟨gb, i, none⟩ = some (.int .i64 y)) (ds := []) #[false, false, false, false, false, false, false, false] (by kernel_rfl) rfl rfl ⟨(cell_drewP hw), (cell_drewP hp), (cell_drewP hi), (cell_drewP hy)⟩ (fun hHeld => ?_)
 refine with_tabW RPF1.c.tab1 RPF1.c.bits1 (fun HT_ HW_ => ?_)
 generalize hw1_ : W.drew = w1 at HB hHeld ⊢
 have HW1 := Aside0.mk hw1_
 clear hw1_
 refine zP 5 (some 12) #[zf, zf, zf, zf, zf, zt, zf, zf] ?_ rfl rfl HT_ (Or.inl ⟨by rfl, ?_⟩) ?_ ?_ ?_
 rotate_left; · exact zqB
 rotate_left; · exact zqA
 refine zT 0 (some 7) #[zt, zf, zf, zf, zf, zt, zf, zf] ?_ rfl rfl HT_ HW_ (Or.inl ⟨by rfl, ?_⟩) hHeld ?_ ?_ ?_
 rotate_left
 ·
  rintro w' ⟨s0, s1, s2, s3⟩
  go_simp
  with_reducible rfl
 rotate_left; · exact zqA
 refine zT 1 (some 8) #[zt, zt, zf, zf, zf, zt, zf, zf] ?_ rfl rfl HT_ HW_ (Or.inl ⟨by rfl, ?_⟩) hHeld ?_ ?_ ?_
 rotate_left
 ·
  rintro w' ⟨s0, s1, s2, s3⟩
  go_simp
  with_reducible rfl
 rotate_left; · exact zqA
 refine zT 2 (some 9) #[zt, zt, zt, zf, zf, zt, zf, zf] ?_ rfl rfl HT_ HW_ (Or.inl ⟨by rfl, ?_⟩) hHeld ?_ ?_ ?_
 rotate_left
 ·
  rintro w' ⟨s0, s1, s2, s3⟩
  go_simp
  with_reducible rfl
 rotate_left; · exact zqA
 refine zP 3 (some 10) #[zt, zt, zt, zt, zf, zt, zf, zf] ?_ rfl rfl HT_ (Or.inl ⟨by rfl, ?_⟩) ?_ ?_ ?_
 rotate_left; · exact zqB
 rotate_left; · exact zqA
 refine zT 4 (some 11) #[zt, zt, zt, zt, zt, zt, zf, zf] ?_ rfl rfl HT_ HW_ (Or.inl ⟨by rfl, ?_⟩) hHeld ?_ ?_ ?_
 rotate_left
 ·
  rintro w' ⟨s0, s1, s2, s3⟩
  go_simp
  with_reducible rfl
 rotate_left; · exact zqA
 refine one_ (i := 6) (N := some 13) #[zt, zt, zt, zt, zt, zt, zt, zf] rfl rfl (one_of HT_.out (by kernel_rfl)) (by decide) (fun K hK => ?_)
 refine goes_ Try.func62 (by kernel_rfl) rfl #[.int .i64 wide, .int .i64 y, .int .i64 x] (by rfl) rfl rfl zq42 ?_
 refine (impl_areConnected.calls wide y x b _ HA.out).mono ?_
 rintro e w2 ⟨rfl, nd1, rfl⟩
 have hb := pw_below_drewN (Below.refl w1.heap.size w1) nd1
 refine ⟨_, rfl, ?_⟩
 obtain ⟨s0, s1, s2, s3⟩ := hHeld
 have HB_ := Aside0.mk (HB.out.trans (hb.mono HB.out.size))
 clear HB
 have HB := HB_
 clear HB_
 refine hK.out _ _ ⟨(hb.cell (World.block_lt_of_cell? _ _ s0)).trans s0, (hb.cell (World.block_lt_of_cell? _ _ s1)).trans s1, (hb.cell (World.block_lt_of_cell? _ _ s2)).trans s2, (hb.cell (World.block_lt_of_cell? _ _ s3)).trans s3⟩ (fun hHeld => ?_)
 clear hK K hb s0 s1 s2 s3
 refine norm_ (a' := ?_) ?_ ?_
 rotate_left
 ·
  show Act.put _ (some 13) _ = _
  simp only [Act.put, List.setIfInBounds_toArray, List.set_cons_zero, List.set_cons_succ, i64_w, i32_w]
  rfl
 refine zP 7 (some 6) #[zt, zt, zt, zt, zt, zt, zt, zt] ?_ rfl rfl HT_ (Or.inl ⟨by rfl, ?_⟩) ?_ ?_ ?_
 rotate_left; · exact zqB
 rotate_left; · exact zqA
 refine done_ (done_of HT_.out (by kernel_rfl)) ?_
 have e_ := HW1.out
 subst e_
 clear HW1
 obtain ⟨s0, s1, s2, s3⟩ := hHeld
 have hf2 : (W.drew.drewN nd1).frozen? ⟨Bp, 0, none⟩ = false := HF.out
 cases b with
 | false =>
  go_wp2
  go_ret
  exact ⟨rfl, (by repeat (first | (with_reducible first | exact HBB.out | apply pw_below_drewN | apply below_drew1) | exact HBB.out)), (by repeat (first | exact Kept.refl _ _ | apply Kept.drewN | apply Kept.drew)), by first | exact s0 | simpa using s0, by first | exact s2 | simpa using s2, HF.out, gb, cap, by first | exact s1 | simpa using s1, by (with_reducible repeat (first | apply Kd.R_drewN | apply Kd.R_drew)); exact HR.out, .inl rfl⟩
 | true =>
  have hRW : Aside0 (Kd.R (Kd.int .i64) 3 (W.drew.drewN nd1) w0.heap.size okP (.slice (some ⟨gb, 0, none⟩) part.length cap) part) := ⟨Kd.R_drewN (Kd.R_drew HR.out) nd1⟩
  have hgb : okP gb := HR.out.1 gb rfl
  obtain ⟨n1, n2, n3⟩ := HOK.out gb hgb
  go_wp2_with ((with_reducible refine gate_builtin (b := .append) (xs := #[.tmp 15, .tmp 17]) rfl ?_); at_builtin; refine Kd.R_append (Kd.int .i64) (w0 := w0) w0.heap.size rfl (.tmp 15) (.tmp 17) 22 3 (.int .i64 0) 8 rfl Try.underlying22 info3 rfl (by decide) (by omega) (.slice (some ⟨gb, 0, none⟩) part.length cap) part x [.int .i64 x] okP (fun _ => False) rfl rfl ?aP (fun _ hk => hk.elim) ?aF ?aO ?aB ?aS ?aL ?_; (case aP => exact rfl); (case aF => intro k hk; exact HFR.out k hk); (case aO => (with_reducible repeat (first | apply Kd.R_alloc | apply Kd.R_drewN | apply Kd.R_drew)); exact HR.out); (case aB => exact (by repeat (first | (with_reducible first | exact HBB.out | apply below_alloc | apply pw_below_drewN | apply below_drew1) | exact HBB.out))); (case aS => exact HBB.out.size); (case aL => omega); intro v1 w3 ho3 hb3 hg3 hat3; have hp3 := cell_grown hg3 s1 (fun e => n1 (by injection e with e; exact e.symm)); have hw3 := cell_grown hg3 s0 (fun e => n3 (by injection e with e; exact e.symm)); have hi3 := cell_grown hg3 s2 (fun e => n2 (by injection e with e; exact e.symm)); have hf3 : w3.frozen? ⟨Bp, 0, none⟩ = false := (World.frozen?_of_block (a := ⟨Bp, 0, none⟩) (hg3.block Bp (World.block_lt_of_cell? _ _ s1) (fun e => n1 (by injection e with e; exact e.symm)))).trans hf2; obtain ⟨gb', cap', ev, hgb', hlt', cells', hcells'⟩ := Kd.R_form ho3 (by rw [List.length_append]; exact Nat.succ_pos _); subst ev)
  go_ret
  have hRk := Kd.R_kept ho3 (Kept.setCell (p := ⟨Bp, 0, none⟩) (Kept.refl w3 (fun k => k = Bp)) (.inl rfl) (.slice (some ⟨gb', 0, none⟩) (part.length + 1) cap')) (fun k hk e => (HOK.out k hk).1 e)
  refine ⟨rfl, hb3.setCell (p := ⟨Bp, 0, none⟩) hbp _, Kept.setCell (p := ⟨Bp, 0, none⟩) (Kept.of_grown hg3 ((Kept.refl W _).drew.drewN nd1) (fun k e => .inl (.inr (by injection e with e; exact e.symm)))) (.inl (.inl rfl)) _,
   (cell_far (p := ⟨Bp, 0, none⟩) (fun e => hpi.2 e.symm) _).trans hw3, (cell_far (p := ⟨Bp, 0, none⟩) (fun e => hpi.1 e.symm) _).trans hi3, by rw [World.frozen?_setCell]; exact hf3, gb', cap', World.cell?_setCell_same' _ _ _ (by rw [hp3]; rfl), by simpa using hRk, ?_⟩
  rcases hat3 with h | ⟨b', h, hle⟩
  ·
   exact .inl (by injection h)
  ·
   exact .inr (by injection h with h; have h5 : gb' = b' := h; rw [h5]; exact hle)
def PartAt (w0 W : World) (wide : Int) (Bw Bp Bi gl i : Nat) (part : List Int) (gp : Nat) : Prop := ∃ cap : Nat, W.cell? ⟨Bw, 0, none⟩ = some (.int .i64 wide) ∧ W.cell? ⟨Bi, 0, none⟩ = some (.int .i64 (i : Int)) ∧ W.cell? ⟨Bp, 0, none⟩ = some (.slice (some ⟨gp, 0, none⟩) part.length cap) ∧ W.frozen? ⟨Bp, 0, none⟩ = false ∧
 Kd.R (Kd.int .i64) 3 W w0.heap.size (fun k => k ≠ Bp ∧ k ≠ Bi ∧ k ≠ Bw ∧ k ≠ gl) (.slice (some ⟨gp, 0, none⟩) part.length cap) part
set_option maxHeartbeats 4000000 in
theorem partRound.calls (p : Int → Bool) (wide : Int) (i : Nat) (part left : List Int) (Bw Bp Bi gl off cl gp : Nat) (w0 W : World) (hB : Below w0.heap.size w0 W) (hbp : w0.heap.size ≤ Bp) (hgl : w0.heap.size ≤ gl)
  (d1 : Bp ≠ Bi ∧ Bp ≠ Bw) (d2 : gl ≠ Bp ∧ gl ≠ Bi ∧ gl ≠ Bw) (hP : PartAt w0 W wide Bw Bp Bi gl i part gp) (hR : RowAt W gl off left) (hc : left.length ≤ cl) (hoff : off ≤ 1000) (hil : i < part.length) (hl : part.length + left.length ≤ 1000)
  (hn : ∀ x ∈ left, impl_areConnected.f wide (part.getD i 0) x = some (p x)) :
  Calls Try.prog 60 #[.slice (some ⟨gl, off, none⟩) left.length cl, .func (.func 61) #[] #[.pointer (some ⟨Bw, 0, none⟩), .pointer (some ⟨Bp, 0, none⟩), .pointer (some ⟨Bi, 0, none⟩)]] W fun e w' =>
   e = .returned (.slice (some ⟨gl, off, none⟩) (left.filter fun x => !p x).length cl) ∧ RowAt w' gl off (left.filter fun x => !p x) ∧ Below w0.heap.size w0 w' ∧ Kept W w' (fun k => k = gl ∨ (k = Bp ∨ W.heap.size ≤ k ∨ k = gp)) ∧ W.heap.size ≤ w'.heap.size ∧
   ∃ gp', (gp' = gp ∨ W.heap.size ≤ gp') ∧ PartAt w0 w' wide Bw Bp Bi gl i (part ++ left.filter p) gp' := by
 have hgp : gp ≠ gl := by
  obtain ⟨cap, _, _, _, _, h5⟩ := hP
  exact (h5.1 gp rfl).2.2.2
 have hltp : Bp < W.heap.size ∧ Bi < W.heap.size ∧ Bw < W.heap.size := by
  obtain ⟨cap, h1, h2, h3, _, _⟩ := hP
  exact ⟨World.block_lt_of_cell? W _ h3, World.block_lt_of_cell? W _ h2, World.block_lt_of_cell? W _ h1⟩
 have hltl := hR.lt
 refine (DeleteFuncA.calls 61 _ p (enters_of Try.func61 (by kernel_rfl) rfl) (fun k => k = Bp ∨ W.heap.size ≤ k ∨ k = gp)
  (fun pre W' => W.heap.size ≤ W'.heap.size ∧ ∃ gb, (gb = gp ∨ W.heap.size ≤ gb) ∧ PartAt w0 W' wide Bw Bp Bi gl i (part ++ pre.filter p) gb) gl off cl left w0 W (fun h => ?_) hgl hc ?_ hB hR (by omega) (by omega) ?_ ?_).mono ?_
 ·
  rcases h with h | h | h
  ·
   exact d2.1 h
  ·
   omega
  ·
   exact hgp h.symm
 ·
  rintro pre W1 j v ⟨hs, gb, hg, cap, h1, h2, h3, h4, h5⟩
  refine ⟨by simpa [World.setCell] using hs, gb, hg, cap, (cell_far (p := ⟨gl, j, none⟩) (fun e => d2.2.2 e.symm) _).trans h1, (cell_far (p := ⟨gl, j, none⟩) (fun e => d2.2.1 e.symm) _).trans h2, (cell_far (p := ⟨gl, j, none⟩) (fun e => d2.1 e.symm) _).trans h3, by rw [World.frozen?_setCell]; exact h4, ?_⟩
  exact Kd.R_kept h5 (Kept.setCell (p := ⟨gl, j, none⟩) (Kept.refl W1 (fun k => k = gl)) (.inl rfl) v) (fun k hk e => hk.2.2.2 e)
 ·
  refine ⟨Nat.le_refl _, gp, .inl rfl, ?_⟩
  rw [List.filter_nil, List.append_nil]
  exact hP
 ·
  rintro pre x post W1 e hB1 ⟨hs, gb, hg, cap, h1, h2, h3, h4, h5⟩
  have hxl : x ∈ left := by rw [e]; simp
  have hpl : pre.length ≤ left.length := by rw [e, List.length_append]; omega
  have hfl := List.length_filter_le p pre
  refine (RPF1.calls wide x (part.getD i 0) (p x) i (part ++ pre.filter p) Bw Bp Bi gb cap (fun k => k ≠ Bp ∧ k ≠ Bi ∧ k ≠ Bw ∧ k ≠ gl) w0 W1 hB1 hbp h1 h2 h3 h4 h5 (fun k hk => ⟨by omega, by omega, by omega, by omega⟩) (fun k hk => ⟨hk.1, hk.2.1, hk.2.2.1⟩) d1
   (by rw [List.length_append]; omega) (by rw [List.length_append]; omega) (by rw [List.getD_eq_getElem?_getD, List.getElem?_append_left hil, ← List.getD_eq_getElem?_getD]) (hn x hxl)).mono ?_
  rintro e' w' ⟨r1, r2, r3, r4, r5, r6, gb', cap', r7, r8, r9⟩
  have hcomb : (if p x = true then part ++ pre.filter p ++ [x] else part ++ pre.filter p) = part ++ (pre ++ [x]).filter p := by
   rw [List.filter_append]
   cases hq : p x with
   | true => rw [if_pos rfl, List.append_assoc, List.filter_cons, hq]; rfl
   | false => rw [if_neg (by decide), List.filter_cons, hq]; simp
  rw [hcomb] at r7 r8
  refine ⟨r1, ⟨Nat.le_trans hs r3.1, gb', ?_, cap', r4, r5, r7, r6, r8⟩, r2, r3.mono (fun k hk => ?_)⟩
  ·
   rcases r9 with r9 | r9
   ·
    rw [r9]; exact hg
   ·
    exact .inr (Nat.le_trans hs r9)
  ·
   rcases hk with hk | hk
   ·
    exact .inl hk
   ·
    rcases hg with hg | hg
    ·
     exact .inr (.inr (hk.trans hg))
    ·
     exact .inr (.inl (by omega))
 ·
  rintro e' w' ⟨r1, r2, ⟨r3, gb', r4, r5⟩, r6, r7⟩
  exact ⟨r1, r2, r6, r7, r3, gb', r4, r5⟩
def growP (near : Int → Int → Bool) : Nat → List Int → List Int → Nat → List Int × List Int
 | 0, part, left, _ => (part, left)
 | n + 1, part, left, i => if i < part.length then growP near n (part ++ left.filter (near (part.getD i 0))) (left.filter fun x => !near (part.getD i 0) x) (i + 1) else (part, left)
def partsS (near : Int → Int → Bool) : Nat → List Int → List (List Int)
 | 0, _ => []
 | _ + 1, [] => []
 | n + 1, c :: r => ((growP near (r.length + 1) [c] r 0).1.mergeSort fun x y => decide (x ≤ y)) :: partsS near n (growP near (r.length + 1) [c] r 0).2
theorem growP_done (near : Int → Int → Bool) {part : List Int} {i : Nat} (h : ¬ i < part.length) (left : List Int) : ∀ n, growP near n part left i = (part, left)
 | 0 => rfl
 | n + 1 => by unfold growP; rw [if_neg h]
theorem length_split (p : Int → Bool) : ∀ l : List Int, l.length = (l.filter p).length + (l.filter fun x => !p x).length
 | [] => rfl
 | x :: r => by
  have := length_split p r
  cases h : p x <;> simp [List.filter_cons, h] <;> omega
theorem partsS_nil (near : Int → Int → Bool) : ∀ n, partsS near n [] = []
 | 0 => rfl
 | _ + 1 => rfl
theorem getD_mem {l : List Int} {i : Nat} (h : i < l.length) : l.getD i 0 ∈ l := by
 rw [Gen.getD_lt l 0 i h]; exact List.getElem_mem h
theorem R_one (W : World) (base : Nat) (ok : Nat → Prop) (x : Int) (hb : base ≤ W.heap.size) (hok : ok W.heap.size) : Kd.R (Kd.int .i64) 3 (W.alloc (.cells #[.int .i64 x] 3)) base ok (.slice (some ⟨W.heap.size, 0, none⟩) 1 1) [x] :=
 Kd.R_of_own (own_lit W base 3 .i64 [x] hb (by simp)) (fun k hk => by
  have : W.heap.size = k := by simpa [Value.ownBlock] using hk
  rw [← this]; exact hok)
theorem R_int_ok {W : World} {b g n c : Nat} {ok ok' : Nat → Prop} {xs : List Int} (h : Kd.R (Kd.int .i64) 3 W b ok (.slice (some ⟨g, 0, none⟩) n c) xs) (hg : ok' g) : Kd.R (Kd.int .i64) 3 W b ok' (.slice (some ⟨g, 0, none⟩) n c) xs :=
 Kd.R_of_own (Kd.own_of_R h) (fun k hk => by
  have : g = k := by simpa [Value.ownBlock] using hk
  rw [← this]; exact hg)
theorem sortI.calls (P0_ : Nat → Prop) (u : Value) (l0 : List Int) (w0 w : World) (hB : Below w0.heap.size w0 w) (ho0 : Kd.R (Kd.int .i64) 3 w w0.heap.size P0_ u l0) (h0 : 0 < l0.length) (hs : l0.length < 4611686018427387904) :
  Calls Try.prog 63 #[u] w fun e w' => e = .returned (.tuple #[]) ∧ Kd.R (Kd.int .i64) 3 w' w0.heap.size P0_ u (l0.mergeSort fun x y => decide (x ≤ y)) ∧ Below w0.heap.size w0 w' ∧ w.grownBy w' u.ownBlock := by
 have hok := ho0.1
 have ho := Kd.own_of_R ho0
 obtain ⟨hlen, hor⟩ := ho
 rcases hor with ⟨rfl, hn⟩ | ⟨g, cap, cur, rfl, hg, hh, hncap, hcap, hcs, htk⟩
 ·
  omega
 rw [Nat.mul_one] at htk
 refine (Try.slices_Sort_int g 0 cap l0 w (Go.holds_of_blockI hh htk) (blk_lt hh) hs).mono ?_
 rintro e w' ⟨rfl, n, os, rfl⟩
 have hl : (l0.mergeSort fun x y => decide (x ≤ y)).length = l0.length := List.length_mergeSort _
 refine ⟨rfl, Kd.R_of_own ?_ hok, hB.grown (Go.grownBy_sortedI _) hB.size (fun k hk => by cases hk; exact hg), Go.grownBy_sortedI _⟩
 rw [hl]
 exact Go.ownsRow_sortedI hl hg hh hncap hcap hcs
theorem PartAt_new (w0 W : World) (wide c : Int) (Bw gl : Nat) (hw : W.cell? ⟨Bw, 0, none⟩ = some (.int .i64 wide)) (hb : w0.heap.size ≤ W.heap.size) (hgl : gl < W.heap.size) (e : Nat) :
  PartAt w0 (((W.alloc (.cells #[.int .i64 c] 3)).alloc (.cells #[.slice (some ⟨W.heap.size, 0, none⟩) 1 1] e)).alloc (.cells #[.int .i64 0] 3)) wide Bw (W.heap.size + 1) (W.heap.size + 2) gl 0 [c] W.heap.size := by
 have hlt : Bw < W.heap.size := World.block_lt_of_cell? W _ hw
 obtain ⟨W1, hW1⟩ : ∃ W1, W1 = W.alloc (.cells #[.int .i64 c] 3) := ⟨_, rfl⟩
 obtain ⟨W2, hW2⟩ : ∃ W2, W2 = W1.alloc (.cells #[.slice (some ⟨W.heap.size, 0, none⟩) 1 1] e) := ⟨_, rfl⟩
 have s1 : W1.heap.size = W.heap.size + 1 := by rw [hW1, World.size_alloc]
 have s2 : W2.heap.size = W.heap.size + 2 := by rw [hW2, World.size_alloc, s1]
 have b1 : Below W.heap.size W W1 := by rw [hW1]; exact (Below.refl _ W).alloc (Nat.le_refl _) _
 have b2 : Below W1.heap.size W1 W2 := by rw [hW2]; exact (Below.refl _ W1).alloc (Nat.le_refl _) _
 have b3 : Below W2.heap.size W2 (W2.alloc (.cells #[.int .i64 0] 3)) := (Below.refl _ W2).alloc (Nat.le_refl _) _
 have n2 : W2.heap[W1.heap.size]? = some (.cells #[.slice (some ⟨W.heap.size, 0, none⟩) 1 1] e (0, 0)) := by rw [hW2]; exact heap_alloc_new W1 _
 have n3 : (W2.alloc (.cells #[.int .i64 0] 3)).heap[W2.heap.size]? = some (.cells #[.int .i64 0] 3 (0, 0)) := heap_alloc_new W2 _
 have r1 := R_one W w0.heap.size (fun k => k ≠ W.heap.size + 1 ∧ k ≠ W.heap.size + 2 ∧ k ≠ Bw ∧ k ≠ gl) c hb ⟨by omega, by omega, by omega, by omega⟩
 rw [← hW1] at r1 ⊢
 rw [← hW2]
 rw [s2] at n3
 rw [s1] at n2
 have n4 := blk_below n2 b3
 exact ⟨1, (b3.cell (p := ⟨Bw, 0, none⟩) (by show Bw < _; omega)).trans ((b2.cell (p := ⟨Bw, 0, none⟩) (by show Bw < _; omega)).trans ((b1.cell (p := ⟨Bw, 0, none⟩) hlt).trans hw)), blk_cell n3 0, blk_cell n4 0, blk_frozen n4 0, Kd.R_below (Kd.R_below r1 b2) b3⟩
set_option maxHeartbeats 8000000 in
set_option maxRecDepth 1000000 in
theorem regionPartsW.calls
  (near : Int → Int → Bool) (wide : Int) (A0 : Option Addr) (c0 : Nat) (l : List Int) (w : World) (hr0 : Kd.C (Kd.int .i64) w A0 l.length l) (hc0 : l.length ≤ c0) (hl : l.length ≤ 999) (hnear : ∀ a ∈ l, ∀ x ∈ l, impl_areConnected.f wide a x = some (near a x)) :
  Calls Try.prog 31 #[.int .i64 wide, .slice A0 l.length c0] w fun e w' => ∃ v0_ : Value, e = .returned v0_ ∧ Kd.S (Kd.slice 3 (Kd.int .i64)) 22 w' w.heap.size (fun _ => True) v0_ (partsS near l.length l) ∧ Below w.heap.size w w' := by
 have HN := Aside0.mk hnear
 have HR := Aside0.mk hr0
 have HC := Aside0.mk hc0
 obtain ⟨W1, hW1⟩ : ∃ W1, W1 = w.alloc (.cells #[.int .i64 wide] 3) := ⟨_, rfl⟩
 have hB1 : Below w.heap.size w W1 := by rw [hW1]; exact (Below.refl _ w).alloc (Nat.le_refl _) _
 have hN1 : W1.heap[w.heap.size]? = some (.cells #[.int .i64 wide] 3 (0, 0)) := by rw [hW1]; exact heap_alloc_new w _
 have HW := Aside0.mk hW1
 have HB1 := Aside0.mk hB1
 have HN1 := Aside0.mk hN1
 clear hnear hr0 hc0 hW1 hB1 hN1
 go_enter Try.func31, Try.ntmps31
 go_wp2_with (go_at_call 59; rw [← HW.out]; refine (slices_Clone_int_int.calls A0 c0 l l W1 (Kd.C_below HR.out HB1.out) HC.out (if_pos (by omega))).mono ?_; rintro e w2 ⟨v2, rfl, ho2, hb2⟩)
 obtain ⟨Al0, cl0, ev2⟩ := Kd.R_slice ho2
 subst ev2
 have hBw2 : w2.heap[w.heap.size]? = some (.cells #[.int .i64 wide] 3 (0, 0)) := blk_below HN1.out hb2
 have HB2 := Aside0.mk (below_step HB1.out hb2)
 have hW1s : W1.heap.size = w.heap.size + 1 := by rw [HW.out, World.size_alloc]
 obtain ⟨gl, hgl, hfirst⟩ : ∃ gl : Nat, gl < w2.heap.size ∧ (0 < l.length → w.heap.size < gl ∧ ∃ off : Nat, Al0 = some ⟨gl, off, none⟩ ∧ RowAt w2 gl off l ∧ off + l.length ≤ 1000) := by
  by_cases h : 0 < l.length
  ·
   obtain ⟨g, cap, ev, hg, hlt, cs, hcs⟩ := Kd.R_form ho2 h
   injection ev with e1 _ _
   refine ⟨g, hlt, fun _ => ⟨by omega, 0, e1, ⟨cs, hcs, fun t ht => ?_⟩, by omega⟩⟩
   subst e1
   have := (Kd.R_celln 0 ho2 (t : Int) (by omega) (by omega)).1
   rw [Int.toNat_natCast] at this
   rw [Nat.zero_add]
   exact (blk_cell hcs t).symm.trans this
  ·
   exact ⟨w.heap.size, blk_lt hBw2, fun h2 => absurd h2 h⟩
 have HF := Aside0.mk hfirst
 have hcl0 := (Kd.R_reads' ho2).2.1
 have hgl2 := Aside0.mk hgl
 clear hfirst ho2 hb2 hW1s hgl
 have hbw := Aside0.mk hBw2
 clear hBw2
 go_loopg [5, 6] (l.length + 1) (fun gg s5 s6 wr => ∃ (left : List Int) (Al : Option Addr) (cl : Nat) (pl : List (List Int)), s6 = .slice Al left.length cl ∧ left.length < gg ∧ left.length ≤ cl ∧ pl.length + left.length ≤ l.length ∧ Aside0 (∀ x ∈ left, x ∈ l) ∧
  Aside0 (0 < left.length → w.heap.size < gl ∧ ∃ off : Nat, Al = some ⟨gl, off, none⟩ ∧ RowAt wr gl off left ∧ off + left.length ≤ 1000) ∧ Aside0 (gl < wr.heap.size) ∧ Aside0 (Kd.S (Kd.slice 3 (Kd.int .i64)) 22 wr w.heap.size (fun k => k ≠ gl ∧ k ≠ w.heap.size) s5 pl) ∧
  Aside0 (∃ n, left.length ≤ n ∧ pl ++ partsS near n left = partsS near l.length l) ∧ Aside0 (wr.heap[w.heap.size]? = some (.cells #[.int .i64 wide] 3 (0, 0))) ∧ Aside0 (Below w.heap.size w wr))
 case atStart => exact ⟨l, Al0, cl0, [], rfl, by omega, hcl0, by rw [List.length_nil]; omega, ⟨fun x h => h⟩, HF, hgl2, ⟨Kd.S_nil _ _ _ _ _⟩, ⟨l.length, Nat.le_refl _, rfl⟩, hbw, HB2⟩
 case round =>
  obtain ⟨left, Al, cl, pl, rfl, hgg, hlc, hhl, HL, HA, HGL, HP, HQ, HW2, HB⟩ := hrel
  cases left with
  | nil =>
   go_wp2
   go_ret
   obtain ⟨n, hn, he⟩ := HQ.out
   rw [partsS_nil, List.append_nil] at he
   exact ⟨_, rfl, by rw [← he]; exact Kd.S_mono HP.out (fun _ _ => trivial), HB.out⟩
  | cons c r =>
   obtain ⟨hglw, off, rfl, hrow, hoff⟩ := HA.out (by simp)
   have hx0 := (hrow.cell (t := 0) (by simp)).1
   rw [Nat.add_zero] at hx0
   have HM1 : Aside0 ((c :: r).length = r.length + 1) := ⟨List.length_cons⟩
   generalize hmE : (c :: r).length = m at hgg hlc hhl hoff HM1 hx0 ⊢
   have hm1 : 0 < m := by have := HM1.out; omega
   have hm2 : ((m : Int) > 0) = True := eq_true (by omega)
   have hm3 : ((1 : Int) ≤ (m : Int)) = True := eq_true (by omega)
   clear hmE
   have HM : Aside0 (∀ x, x ∈ [c] ∨ x ∈ r → x ∈ l) := ⟨fun x hx => HL.out x (by rcases hx with h | h; exact List.mem_cons.2 (.inl (List.mem_singleton.1 h)); exact List.mem_cons.2 (.inr h))⟩
   have HROW := Aside0.mk hrow
   have hgl3 := hrow.lt
   have hwr := HB.out.size
   have HPART := Aside0.mk (PartAt_new w wr wide c w.heap.size gl (blk_cell HW2.out 0) hwr hgl3 22)
   clear HA
   by_cases hcl : cl = 1
   ·
    subst hcl
    have hmv : m = 1 := by omega
    subst hmv
    have HR0 : Aside0 (r.length = 1 - 1) := ⟨by have := HM1.out; omega⟩
    have HROF : Aside0 (RowAt wr gl off r) := ⟨by rw [List.eq_nil_of_length_eq_zero HR0.out]; exact hrow.take 0⟩
    clear hrow
    go_wp2
    obtain ⟨fo, hfo⟩ : ∃ fo, fo = gk := ⟨_, rfl⟩
    subst hfo
    obtain ⟨wo, hwo⟩ : ∃ wo, wo = wr := ⟨_, rfl⟩
    subst hwo
    go_loopg [6, 8] (1 + 1) (fun gg s6 s8 wi => ∃ (i gp Bi : Nat) (part left2 : List Int), s6 = .slice (some ⟨gl, off, none⟩) left2.length 0 ∧ s8 = .pointer (some ⟨Bi, 0, none⟩) ∧ part.length + left2.length = 1 ∧ 1 ≤ part.length ∧ i ≤ part.length ∧ 1 + 1 - i ≤ gg ∧ wo.heap.size ≤ gp ∧ wo.heap.size + 2 ≤ Bi ∧
     Aside0 (∀ x, x ∈ part ∨ x ∈ left2 → x ∈ l) ∧ Aside0 (growP near (1 - i) part left2 i = growP near (r.length + 1) [c] r 0) ∧ Aside0 (PartAt w wi wide w.heap.size (wo.heap.size + 1) Bi gl i part gp) ∧ Aside0 (RowAt wi gl off left2) ∧ Aside0 (Below w.heap.size w wi) ∧ Aside0 (Kept wo wi (fun k => k = gl)))
    case atStart =>
     refine ⟨0, wo.heap.size, wo.heap.size + 2, [c], r, by rw [HR0.out], rfl, by have := HR0.out; rw [List.length_singleton]; omega, by simp, by simp, by omega, Nat.le_refl _, Nat.le_refl _, ⟨HM.out⟩, ⟨congrArg (fun n => growP near n [c] r 0) (show 1 - 0 = r.length + 1 by have := HR0.out; omega)⟩, HPART, ?_, ?_, ?_⟩
     ·
      exact ⟨HROF.out.kept (((Kept.refl wo (fun _ => False)).alloc _).alloc _ |>.alloc _) (fun h => h)⟩
     ·
      exact ⟨((HB.out.alloc hwr _).alloc (by simp; omega) _).alloc (by simp; omega) _⟩
     ·
      exact ⟨((Kept.refl wo _).alloc _).alloc _ |>.alloc _⟩
    case round =>
     obtain ⟨i, gp, Bi, part, left2, rfl, rfl, hpl, hp1, hil, hgi, hgp, hBi, HMi, HGi, HPi, HRi, HBi, HKi⟩ := hrel
     obtain ⟨cap, c1, c2, c3, c4, c5⟩ := HPi.out
     by_cases hlt : i < part.length
     ·
      have hltz : ((i : Int) < (part.length : Int)) = True := eq_true (by omega)
      obtain ⟨y, hy⟩ : ∃ y, part.getD i 0 = y := ⟨_, rfl⟩
      have HY := Aside0.mk hy
      clear hy
      go_wp2_with (go_at_call 60; refine (partRound.calls (near y) wide i part left2 w.heap.size (wo.heap.size + 1) Bi gl off 0 gp w wr HBi.out (by omega) (by omega) ⟨by omega, by omega⟩ ⟨by omega, by omega, by omega⟩ HPi.out HRi.out (by omega) (by omega) hlt (by omega) (fun x hx => by rw [HY.out]; exact HN.out _ (HMi.out _ (.inl (by rw [← HY.out]; exact getD_mem hlt))) _ (HMi.out _ (.inr hx)))).mono ?_; rintro e w3 ⟨rfl, k1, k2, k3, k4, gp3, k5, cap3, b1, b2, b3, b4, b5⟩)
      have hs3 : wo.heap.size ≤ wr.heap.size := HKi.out.1
      have hlen := length_split (near y) left2
      have hgrow : growP near (1 - (i + 1)) (part ++ left2.filter (near y)) (left2.filter fun x => !near y x) (i + 1) = growP near (r.length + 1) [c] r 0 := by
       rw [← HGi.out, show 1 - i = (1 - (i + 1)) + 1 by omega, growP, if_pos hlt, HY.out]
      obtain ⟨W5, hW5⟩ : ∃ W5, W5 = w3.alloc (.cells #[.int .i64 ((i : Int) + 1)] 3) := ⟨_, rfl⟩
      have q1 : Below w3.heap.size w3 W5 := by rw [hW5]; exact (Below.refl _ w3).alloc (Nat.le_refl _) _
      have q2 : W5.heap[w3.heap.size]? = some (.cells #[.int .i64 ((i : Int) + 1)] 3 (0, 0)) := by rw [hW5]; exact heap_alloc_new w3 _
      rw [← hW5]
      go_roundg (1 + 1 - (i + 1))
      case measure => omega
      case rel =>
       have l1 : w.heap.size < w3.heap.size := by omega
       have l2 : wo.heap.size + 1 < w3.heap.size := World.block_lt_of_cell? w3 _ b3
       have l4 : gl < w3.heap.size := k1.lt
       refine ⟨i + 1, gp3, w3.heap.size, part ++ left2.filter (near y), left2.filter fun x => !near y x, rfl, rfl, by rw [List.length_append]; omega, by rw [List.length_append]; omega, by rw [List.length_append]; omega, by omega, by omega, by omega, ⟨?_⟩, ⟨hgrow⟩, ⟨cap3, ?_, ?_, ?_, ?_, ?_⟩, ⟨?_⟩, ⟨?_⟩, ⟨?_⟩⟩
       ·
        intro x hx
        rcases hx with h | h
        ·
         rcases List.mem_append.1 h with h | h
         ·
          exact HMi.out x (.inl h)
         ·
          exact HMi.out x (.inr (List.mem_filter.1 h).1)
        ·
         exact HMi.out x (.inr (List.mem_filter.1 h).1)
       ·
        exact (q1.cell (p := ⟨w.heap.size, 0, none⟩) l1).trans b1
       ·
        rw [Int.natCast_add]; exact blk_cell q2 0
       ·
        exact (q1.cell (p := ⟨wo.heap.size + 1, 0, none⟩) l2).trans b3
       ·
        exact (World.frozen?_of_block (a := ⟨wo.heap.size + 1, 0, none⟩) (q1.block _ l2)).trans b4
       ·
        have l5 := b5.1 gp3 rfl
        have l6 := Kd.R_lt b5 gp3 rfl
        exact R_int_ok (Kd.R_below b5 q1) ⟨l5.1, by omega, l5.2.2.1, l5.2.2.2⟩
       ·
        exact k1.kept (Kept.of_below q1 (fun _ => False)) (fun h => h)
       ·
        exact k2.trans (q1.mono (by omega))
       ·
        exact (HKi.out.then_ k3 (fun k hk => by rcases hk with h | h | h | h; exact .inl h; exact .inr (by omega); exact .inr (by omega); exact .inr (by omega))).below q1
     ·
      have hltz : ((i : Int) < (part.length : Int)) = False := eq_false (by omega)
      have hs5 := Kd.S_lt HP.out
      have hgp1 := (c5.1 gp rfl).1
      have hsz := HKi.out.1
      have hne1 : some (wo.heap.size + 1) ≠ (Value.slice (some ⟨gp, 0, none⟩) part.length cap).ownBlock := fun e => hgp1 (by injection e with e; exact e.symm)
      go_wp2_with (first
       | (go_at_call 63; refine (sortI.calls _ _ part w wr HBi.out c5 (by omega) (by omega)).mono ?_; rintro e w3 ⟨rfl, k1, k2, k3⟩; have b3 := cell_grown (a := ⟨wo.heap.size + 1, 0, none⟩) k3 c3 hne1; have k4 := k3.size)
       | ((with_reducible refine gate_builtin (b := .append) (xs := #[.tmp 32, .tmp 34]) rfl ?_); at_builtin; refine Kd.S_append (Kd.slice 3 (Kd.int .i64)) (w0 := w) w.heap.size rfl (.tmp 32) (.tmp 34) 53 22 (.slice none 0 0) 24 rfl Try.underlying53 info22 rfl (by decide) (by omega) u5 pl (part.mergeSort fun x y => decide (x ≤ y)) [.slice (some ⟨gp, 0, none⟩) part.length cap] (fun k => k ≠ gl ∧ k ≠ w.heap.size) (fun k => k = gp) rfl rfl ?aP ?aK ?aF ?aO ?aB ?aS ?aL ?_; (case aP => exact ⟨_, rfl, R_int_ok k1 rfl⟩); (case aK => intro k hk; subst hk; exact ⟨⟨by omega, by omega⟩, fun e => absurd (hs5 _ e.symm) (by omega)⟩); (case aF => intro k hk; exact ⟨by omega, by omega⟩); (case aO => exact Kd.S_mono (Kd.S_step (Kd.S_bound HP.out) (fun k hk hk2 => (k3.block k (by omega) (fun e => by have e2 : some k = some gp := e; injection e2 with e3; omega)).trans (HKi.out.2 k hk2 hk.1.1))) (fun k hk => ⟨hk.1, fun e => by have := hk.2.2.1; omega⟩)); (case aB => exact k2); (case aS => exact k2.size); (case aL => omega); intro v9 w9 ho9 hb9 hg9 hat9))
      have hdone : (part, left2) = growP near (r.length + 1) [c] r 0 := by rw [← HGi.out]; exact (growP_done near hlt left2 _).symm
      have hbig : ∀ k, k < wr.heap.size → k ≠ gp → u5.ownBlock ≠ some k → w9.heap[k]? = wr.heap[k]? := fun k q1 q2 q3 => (hg9.block k (by omega) (fun e => q3 e.symm)).trans (k3.block k q1 (fun e => by have e2 : some k = some gp := e; injection e2 with e3; omega))
      have hn1 : u5.ownBlock ≠ some gl := fun e => ((Kd.S_R HP.out).1 gl e).1 rfl
      have hn2 : u5.ownBlock ≠ some w.heap.size := fun e => ((Kd.S_R HP.out).1 _ e).2 rfl
      have hgpx := c5.1 gp rfl
      have hsz9 := hg9.size
      have hglr := HRi.out.lt
      have hw0 := World.block_lt_of_cell? wr _ c1
      go_roundg 1
      case measure => omega
      case rel =>
       refine ⟨left2, some ⟨gl, off, none⟩, 0, pl ++ [part.mergeSort fun x y => decide (x ≤ y)], rfl, by omega, by omega, by rw [List.length_append, List.length_singleton]; omega, ⟨fun x hx => HMi.out x (.inr hx)⟩, ⟨fun _ => ⟨hglw, off, rfl, ?_, by omega⟩⟩, ⟨by omega⟩, ⟨ho9⟩, ⟨?_⟩, ⟨?_⟩, ⟨hb9⟩⟩
       ·
        obtain ⟨cs, h1, h2⟩ := HRi.out
        exact ⟨cs, (hbig gl hglr (fun e => hgpx.2.2.2 e.symm) hn1).trans h1, h2⟩
       ·
        obtain ⟨n, hn, he⟩ := HQ.out
        rw [List.length_cons] at hn
        obtain ⟨n', rfl⟩ : ∃ n', n = n' + 1 := ⟨n - 1, by omega⟩
        have hM1 := HM1.out
        refine ⟨n', by omega, ?_⟩
        rw [← he, partsS, ← hdone, List.append_assoc]
        rfl
       ·
        refine (hbig w.heap.size (by omega) (fun e => hgpx.2.2.1 e.symm) hn2).trans ?_
        exact (HKi.out.2 _ (by omega) (by omega)).trans HW2.out
   ·
    have HR0 : Aside0 (r.length = m - 1) := ⟨by have := HM1.out; omega⟩
    have HROF : Aside0 (RowAt wr gl (off + 1) r) := ⟨hrow.tail⟩
    clear hrow
    go_wp2
    obtain ⟨fo, hfo⟩ : ∃ fo, fo = gk := ⟨_, rfl⟩
    subst hfo
    obtain ⟨wo, hwo⟩ : ∃ wo, wo = wr := ⟨_, rfl⟩
    subst hwo
    go_loopg [6, 8] (m + 1) (fun gg s6 s8 wi => ∃ (i gp Bi : Nat) (part left2 : List Int), s6 = .slice (some ⟨gl, (off + 1), none⟩) left2.length (cl - 1) ∧ s8 = .pointer (some ⟨Bi, 0, none⟩) ∧ part.length + left2.length = m ∧ 1 ≤ part.length ∧ i ≤ part.length ∧ m + 1 - i ≤ gg ∧ wo.heap.size ≤ gp ∧ wo.heap.size + 2 ≤ Bi ∧
     Aside0 (∀ x, x ∈ part ∨ x ∈ left2 → x ∈ l) ∧ Aside0 (growP near (m - i) part left2 i = growP near (r.length + 1) [c] r 0) ∧ Aside0 (PartAt w wi wide w.heap.size (wo.heap.size + 1) Bi gl i part gp) ∧ Aside0 (RowAt wi gl (off + 1) left2) ∧ Aside0 (Below w.heap.size w wi) ∧ Aside0 (Kept wo wi (fun k => k = gl)))
    case atStart =>
     refine ⟨0, wo.heap.size, wo.heap.size + 2, [c], r, by rw [HR0.out], rfl, by have := HR0.out; rw [List.length_singleton]; omega, by simp, by simp, by omega, Nat.le_refl _, Nat.le_refl _, ⟨HM.out⟩, ⟨congrArg (fun n => growP near n [c] r 0) (show m - 0 = r.length + 1 by have := HR0.out; omega)⟩, HPART, ?_, ?_, ?_⟩
     ·
      exact ⟨HROF.out.kept (((Kept.refl wo (fun _ => False)).alloc _).alloc _ |>.alloc _) (fun h => h)⟩
     ·
      exact ⟨((HB.out.alloc hwr _).alloc (by simp; omega) _).alloc (by simp; omega) _⟩
     ·
      exact ⟨((Kept.refl wo _).alloc _).alloc _ |>.alloc _⟩
    case round =>
     obtain ⟨i, gp, Bi, part, left2, rfl, rfl, hpl, hp1, hil, hgi, hgp, hBi, HMi, HGi, HPi, HRi, HBi, HKi⟩ := hrel
     obtain ⟨cap, c1, c2, c3, c4, c5⟩ := HPi.out
     by_cases hlt : i < part.length
     ·
      have hltz : ((i : Int) < (part.length : Int)) = True := eq_true (by omega)
      obtain ⟨y, hy⟩ : ∃ y, part.getD i 0 = y := ⟨_, rfl⟩
      have HY := Aside0.mk hy
      clear hy
      go_wp2_with (go_at_call 60; refine (partRound.calls (near y) wide i part left2 w.heap.size (wo.heap.size + 1) Bi gl (off + 1) (cl - 1) gp w wr HBi.out (by omega) (by omega) ⟨by omega, by omega⟩ ⟨by omega, by omega, by omega⟩ HPi.out HRi.out (by omega) (by omega) hlt (by omega) (fun x hx => by rw [HY.out]; exact HN.out _ (HMi.out _ (.inl (by rw [← HY.out]; exact getD_mem hlt))) _ (HMi.out _ (.inr hx)))).mono ?_; rintro e w3 ⟨rfl, k1, k2, k3, k4, gp3, k5, cap3, b1, b2, b3, b4, b5⟩)
      have hs3 : wo.heap.size ≤ wr.heap.size := HKi.out.1
      have hlen := length_split (near y) left2
      have hgrow : growP near (m - (i + 1)) (part ++ left2.filter (near y)) (left2.filter fun x => !near y x) (i + 1) = growP near (r.length + 1) [c] r 0 := by
       rw [← HGi.out, show m - i = (m - (i + 1)) + 1 by omega, growP, if_pos hlt, HY.out]
      obtain ⟨W5, hW5⟩ : ∃ W5, W5 = w3.alloc (.cells #[.int .i64 ((i : Int) + 1)] 3) := ⟨_, rfl⟩
      have q1 : Below w3.heap.size w3 W5 := by rw [hW5]; exact (Below.refl _ w3).alloc (Nat.le_refl _) _
      have q2 : W5.heap[w3.heap.size]? = some (.cells #[.int .i64 ((i : Int) + 1)] 3 (0, 0)) := by rw [hW5]; exact heap_alloc_new w3 _
      rw [← hW5]
      go_roundg (m + 1 - (i + 1))
      case measure => omega
      case rel =>
       have l1 : w.heap.size < w3.heap.size := by omega
       have l2 : wo.heap.size + 1 < w3.heap.size := World.block_lt_of_cell? w3 _ b3
       have l4 : gl < w3.heap.size := k1.lt
       refine ⟨i + 1, gp3, w3.heap.size, part ++ left2.filter (near y), left2.filter fun x => !near y x, rfl, rfl, by rw [List.length_append]; omega, by rw [List.length_append]; omega, by rw [List.length_append]; omega, by omega, by omega, by omega, ⟨?_⟩, ⟨hgrow⟩, ⟨cap3, ?_, ?_, ?_, ?_, ?_⟩, ⟨?_⟩, ⟨?_⟩, ⟨?_⟩⟩
       ·
        intro x hx
        rcases hx with h | h
        ·
         rcases List.mem_append.1 h with h | h
         ·
          exact HMi.out x (.inl h)
         ·
          exact HMi.out x (.inr (List.mem_filter.1 h).1)
        ·
         exact HMi.out x (.inr (List.mem_filter.1 h).1)
       ·
        exact (q1.cell (p := ⟨w.heap.size, 0, none⟩) l1).trans b1
       ·
        rw [Int.natCast_add]; exact blk_cell q2 0
       ·
        exact (q1.cell (p := ⟨wo.heap.size + 1, 0, none⟩) l2).trans b3
       ·
        exact (World.frozen?_of_block (a := ⟨wo.heap.size + 1, 0, none⟩) (q1.block _ l2)).trans b4
       ·
        have l5 := b5.1 gp3 rfl
        have l6 := Kd.R_lt b5 gp3 rfl
        exact R_int_ok (Kd.R_below b5 q1) ⟨l5.1, by omega, l5.2.2.1, l5.2.2.2⟩
       ·
        exact k1.kept (Kept.of_below q1 (fun _ => False)) (fun h => h)
       ·
        exact k2.trans (q1.mono (by omega))
       ·
        exact (HKi.out.then_ k3 (fun k hk => by rcases hk with h | h | h | h; exact .inl h; exact .inr (by omega); exact .inr (by omega); exact .inr (by omega))).below q1
     ·
      have hltz : ((i : Int) < (part.length : Int)) = False := eq_false (by omega)
      have hs5 := Kd.S_lt HP.out
      have hgp1 := (c5.1 gp rfl).1
      have hsz := HKi.out.1
      have hne1 : some (wo.heap.size + 1) ≠ (Value.slice (some ⟨gp, 0, none⟩) part.length cap).ownBlock := fun e => hgp1 (by injection e with e; exact e.symm)
      go_wp2_with (first
       | (go_at_call 63; refine (sortI.calls _ _ part w wr HBi.out c5 (by omega) (by omega)).mono ?_; rintro e w3 ⟨rfl, k1, k2, k3⟩; have b3 := cell_grown (a := ⟨wo.heap.size + 1, 0, none⟩) k3 c3 hne1; have k4 := k3.size)
       | ((with_reducible refine gate_builtin (b := .append) (xs := #[.tmp 32, .tmp 34]) rfl ?_); at_builtin; refine Kd.S_append (Kd.slice 3 (Kd.int .i64)) (w0 := w) w.heap.size rfl (.tmp 32) (.tmp 34) 53 22 (.slice none 0 0) 24 rfl Try.underlying53 info22 rfl (by decide) (by omega) u5 pl (part.mergeSort fun x y => decide (x ≤ y)) [.slice (some ⟨gp, 0, none⟩) part.length cap] (fun k => k ≠ gl ∧ k ≠ w.heap.size) (fun k => k = gp) rfl rfl ?aP ?aK ?aF ?aO ?aB ?aS ?aL ?_; (case aP => exact ⟨_, rfl, R_int_ok k1 rfl⟩); (case aK => intro k hk; subst hk; exact ⟨⟨by omega, by omega⟩, fun e => absurd (hs5 _ e.symm) (by omega)⟩); (case aF => intro k hk; exact ⟨by omega, by omega⟩); (case aO => exact Kd.S_mono (Kd.S_step (Kd.S_bound HP.out) (fun k hk hk2 => (k3.block k (by omega) (fun e => by have e2 : some k = some gp := e; injection e2 with e3; omega)).trans (HKi.out.2 k hk2 hk.1.1))) (fun k hk => ⟨hk.1, fun e => by have := hk.2.2.1; omega⟩)); (case aB => exact k2); (case aS => exact k2.size); (case aL => omega); intro v9 w9 ho9 hb9 hg9 hat9))
      have hdone : (part, left2) = growP near (r.length + 1) [c] r 0 := by rw [← HGi.out]; exact (growP_done near hlt left2 _).symm
      have hbig : ∀ k, k < wr.heap.size → k ≠ gp → u5.ownBlock ≠ some k → w9.heap[k]? = wr.heap[k]? := fun k q1 q2 q3 => (hg9.block k (by omega) (fun e => q3 e.symm)).trans (k3.block k q1 (fun e => by have e2 : some k = some gp := e; injection e2 with e3; omega))
      have hn1 : u5.ownBlock ≠ some gl := fun e => ((Kd.S_R HP.out).1 gl e).1 rfl
      have hn2 : u5.ownBlock ≠ some w.heap.size := fun e => ((Kd.S_R HP.out).1 _ e).2 rfl
      have hgpx := c5.1 gp rfl
      have hsz9 := hg9.size
      have hglr := HRi.out.lt
      have hw0 := World.block_lt_of_cell? wr _ c1
      go_roundg m
      case measure => omega
      case rel =>
       refine ⟨left2, some ⟨gl, (off + 1), none⟩, (cl - 1), pl ++ [part.mergeSort fun x y => decide (x ≤ y)], rfl, by omega, by omega, by rw [List.length_append, List.length_singleton]; omega, ⟨fun x hx => HMi.out x (.inr hx)⟩, ⟨fun _ => ⟨hglw, (off + 1), rfl, ?_, by omega⟩⟩, ⟨by omega⟩, ⟨ho9⟩, ⟨?_⟩, ⟨?_⟩, ⟨hb9⟩⟩
       ·
        obtain ⟨cs, h1, h2⟩ := HRi.out
        exact ⟨cs, (hbig gl hglr (fun e => hgpx.2.2.2 e.symm) hn1).trans h1, h2⟩
       ·
        obtain ⟨n, hn, he⟩ := HQ.out
        rw [List.length_cons] at hn
        obtain ⟨n', rfl⟩ : ∃ n', n = n' + 1 := ⟨n - 1, by omega⟩
        have hM1 := HM1.out
        refine ⟨n', by omega, ?_⟩
        rw [← he, partsS, ← hdone, List.append_assoc]
        rfl
       ·
        refine (hbig w.heap.size (by omega) (fun e => hgpx.2.2.1 e.symm) hn2).trans ?_
        exact (HKi.out.2 _ (by omega) (by omega)).trans HW2.out
def nearF (wide a x : Int) : Bool := (impl_areConnected.f wide a x).getD false
def impl_regionParts.f (a0 : Int) (l1 : List Int) : Option (List (List Int)) := if l1.length ≤ 999 ∧ (∀ a ∈ l1, ∀ x ∈ l1, (impl_areConnected.f a0 a x).isSome = true) then some (partsS (nearF a0) l1.length l1) else none
theorem impl_regionParts.calls (a0 : Int) (A1 : Option Addr) (c1 : Nat) (l1 : List Int) (r : List (List Int)) (w : World) (hr1 : Kd.C (Kd.int .i64) w A1 l1.length l1) (hc1 : l1.length ≤ c1) (h : impl_regionParts.f a0 l1 = some r) :
  Calls Try.prog 31 #[.int .i64 a0, .slice A1 l1.length c1] w fun e w' => ∃ v0_ : Value, e = .returned v0_ ∧ Kd.S (Kd.slice 3 (Kd.int .i64)) 22 w' w.heap.size (fun _ => True) v0_ r ∧ Below w.heap.size w w' := by
 unfold impl_regionParts.f at h
 split at h
 ·
  rename_i hg
  obtain rfl := Option.some.inj h
  refine regionPartsW.calls (nearF a0) a0 A1 c1 l1 w hr1 hc1 hg.1 (fun a ha x hx => ?_)
  unfold nearF
  exact (Option.some_get (hg.2 a ha x hx)).symm.trans (by rw [Option.get_eq_getD (fallback := false)])
 ·
  exact absurd h (by simp)
def impl_regionAbove.l0 : Nat → Int → List Int → List Int → Int → Int → Option (List Int)
 | 0, _, _, _, _, _ => none
 | k + 1, x1, x5, x9, x10, x11 => if x11 < x10 then (if 0 ≤ x11 then (if x11 < (x9.length : Int) then (if (rd x9 x11) = (-9999) then (impl_regionAbove.l0 k x1 x5 x9 x10 (wrap64 (x11 + 1))) else (if (rd x9 x11) > x1 then (if x5.length < 17592186044416 then (impl_regionAbove.l0 k x1 (x5 ++ [x11]) x9 x10 (wrap64 (x11 + 1))) else (none)) else (impl_regionAbove.l0 k x1 x5 x9 x10 (wrap64 (x11 + 1))))) else (none)) else (none)) else (some x5)
def impl_regionAbove.f (k : Nat) (a0_0 : Int) (a0_1 : Int) (l0_2 : List Int) (a1 : Int) : Option (List Int) := impl_regionAbove.l0 k a1 ([] : List Int) l0_2 (l0_2.length : Int) 0
set_option maxHeartbeats 8000000 in
set_option maxRecDepth 100000 in
theorem impl_regionAbove.calls (k : Nat) (a0_0 : Int) (a0_1 : Int) (A0_2 : Option Addr) (c0_2 : Nat) (l0_2 : List Int) (a1 : Int) (r : List Int) (w : World) (hr0_2 : Kd.C (Kd.int .i64) w A0_2 l0_2.length l0_2) (hc0_2 : l0_2.length ≤ c0_2) (h : impl_regionAbove.f k a0_0 a0_1 l0_2 a1 = some r) :
  Calls Try.prog 32 #[.agg #[.int .i64 a0_0, .int .i64 a0_1, .slice A0_2 l0_2.length c0_2], .int .i64 a1] w fun e w' => ∃ v0_ : Value, e = .returned (v0_) ∧ Kd.R (Kd.int .i64) 3 w' w.heap.size (fun _ => True) v0_ r ∧ Below w.heap.size w w' := by
 have hu29 := Try.underlying29
 have HR0_2 := Aside0.mk hr0_2
 have HC0_2 := Aside0.mk hc0_2
 clear hr0_2 hc0_2
 have HB := Aside0.mk (Below.refl w.heap.size w)
 have H : (impl_regionAbove.l0 k a1 ([] : List Int) l0_2 (l0_2.length : Int) 0) = some r := h
 clear h
 have H' := Aside0.mk H
 clear H
 go_enter Try.func32, Try.ntmps32
 go_wp2_with (first | ((with_reducible refine gate_dst (N := 2) rfl ?_); refine box_event ?hg (N := 2) ?hd (cs := #[.int .i64 a0_0, .int .i64 a0_1, .slice A0_2 l0_2.length c0_2]) (t := 29) ?hr ?_; (case hd => rfl); (case hg => rfl); (case hr => exact zqS); intro gb315 hg w3 hbox hb; have BK315 := Aside0.mk (hbox); have GW315 := Aside0.mk ((by rw [hg]; exact (below_size zq0) : w.heap.size ≤ gb315)); replace HB := Aside0.mk (below_step zq0 hb); have GE315 := GW315; clear hb hbox hg; have hcz4_0 := bz BK315.out 0 (.int .i64 a0_0); have hcz4_1 := bz BK315.out 1 (.int .i64 a0_1); have hcz4_2 := bz BK315.out 2 (.slice A0_2 l0_2.length c0_2); have hfz4_0 := blk_frozen BK315.out 0; have hfz4_1 := blk_frozen BK315.out 1; have hfz4_2 := blk_frozen BK315.out 2))
 go_loopg [5, 11] k (fun kq v5 v11 w' => ∃ (x5_1 : List Int) (x11_1 : Int), v11 = .int .i64 x11_1 ∧ Aside0 (impl_regionAbove.l0 kq a1 x5_1 l0_2 (l0_2.length : Int) x11_1 = some r) ∧ Aside0 (kq ≤ k) ∧ Aside0 (Kd.R (Kd.int .i64) 3 w' w.heap.size (fun _ => True) v5 x5_1) ∧ Aside0 (w'.heap[gb315]? = some (.cells #[.int .i64 a0_0, .int .i64 a0_1, (.slice A0_2 l0_2.length c0_2)] 29 (0, 0))) ∧ Aside0 (Below w.heap.size w w'))
 case atStart => exact ⟨(([] : List Int)), (0), (by first | rfl | (simp; done) | (simp [*]; done)), H', ⟨Nat.le_refl _⟩, ⟨by first | exact Kd.R_nil _ _ _ _ _ | exact Kd.N_nil _ _ _ _ _ | exact Kd.V_nil _ _ _ _ _ | exact Kd.Q_nil _ _ _ _ _ | exact Kd.S_nil _ _ _ _ _⟩, ⟨by (with_reducible repeat (first | refine blk_drewN ?_ _ | refine blk_drew ?_ | refine blk_alloc ?_ _)); exact BK315.out⟩, ⟨zq28⟩⟩
 clear H'
 try clear p2
 try clear c3
 try clear hcz4_0
 try clear hcz4_1
 try clear hcz4_2
 try clear hfz4_0
 try clear hfz4_1
 try clear hfz4_2
 obtain ⟨x5_1, x11_1, rfl, HA, HK1, HO_5, BK315, HB⟩ := hrel
 cases gk with
 | zero => exact absurd HA.out (by simp [impl_regionAbove.l0])
 | succ k1 =>
  have H := HA.out
  clear HA
  simp only [impl_regionAbove.l0] at H
  by_cases c5 : x11_1 < (l0_2.length : Int)
  case neg =>
   rw [if_neg c5] at H
   have c5b0 : decide (x11_1 < (l0_2.length : Int)) = false := decide_eq_false c5
   clear c5
   obtain rfl := Option.some.inj H
   go_wp2
   go_ret
   exact ⟨_, by first | rfl | (simp [errW_none, errW_some] <;> rfl) | (simp [*, errW_none, errW_some] <;> rfl), zqR HO_5.out, zq28⟩
  rw [if_pos c5] at H
  have c5b0 : decide (x11_1 < (l0_2.length : Int)) = true := decide_eq_true c5
  clear c5
  by_cases c6 : 0 ≤ x11_1
  case neg =>
   rw [if_neg c6] at H
   exact absurd H (by simp)
  rw [if_pos c6] at H
  have c6b0 : decide (0 ≤ x11_1) = true := decide_eq_true c6
  clear c6
  by_cases c7 : x11_1 < (l0_2.length : Int)
  case neg =>
   rw [if_neg c7] at H
   exact absurd H (by simp)
  rw [if_pos c7] at H
  have c7b0 : decide (x11_1 < (l0_2.length : Int)) = true := decide_eq_true c7
  clear c7
  by_cases c8 : (rd l0_2 x11_1) = (-9999)
  case pos =>
   rw [if_pos c8] at H
   have c8b0 : ((rd l0_2 x11_1) == (-9999)) = true := beq_iff_eq.mpr c8
   have c8b1 : ((rd l0_2 x11_1) != (-9999)) = false := bne_eq_false_iff_eq.mpr c8
   clear c8
   have H' := Aside0.mk H
   clear H
   have p316 : 0 ≤ (x11_1 : Int) := of_decide_eq_true zq2
   have q316 : x11_1 < (l0_2.length : Int) := of_decide_eq_true zq2
   obtain ⟨ad316, e316, hx316_0⟩ := Kd.at_int HR0_2.out x11_1 p316 q316
   cases e316
   replace hx316_0 := bx HB.out hx316_0
   replace p316 := eq_true p316
   replace q316 := eq_true q316
   go_wp2
   go_roundg k1
   case measure => have := HK1.out; omega
   case rel => exact ⟨(x5_1), (wrap64 (x11_1 + 1)), (by first | rfl | (simp; done) | (simp [*]; done)), H', ⟨by have := HK1.out; omega⟩, ⟨zqR HO_5.out⟩, ⟨by (with_reducible repeat (first | refine blk_drewN ?_ _ | refine blk_drew ?_ | refine blk_alloc ?_ _)); exact BK315.out⟩, ⟨zq28⟩⟩
  rw [if_neg c8] at H
  have c8b0 : ((rd l0_2 x11_1) == (-9999)) = false := beq_eq_false_iff_ne.mpr c8
  have c8b1 : ((rd l0_2 x11_1) != (-9999)) = true := bne_iff_ne.mpr c8
  by_cases c9 : (rd l0_2 x11_1) > a1
  case neg =>
   rw [if_neg c9] at H
   have c9b0 : decide (a1 < (rd l0_2 x11_1)) = false := decide_eq_false c9
   clear c9
   have H' := Aside0.mk H
   clear H
   have p316 : 0 ≤ (x11_1 : Int) := of_decide_eq_true zq2
   have q316 : x11_1 < (l0_2.length : Int) := of_decide_eq_true zq2
   obtain ⟨ad316, e316, hx316_0⟩ := Kd.at_int HR0_2.out x11_1 p316 q316
   cases e316
   replace hx316_0 := bx HB.out hx316_0
   replace p316 := eq_true p316
   replace q316 := eq_true q316
   go_wp2
   go_roundg k1
   case measure => have := HK1.out; omega
   case rel => exact ⟨(x5_1), (wrap64 (x11_1 + 1)), (by first | rfl | (simp; done) | (simp [*]; done)), H', ⟨by have := HK1.out; omega⟩, ⟨zqR HO_5.out⟩, ⟨by (with_reducible repeat (first | refine blk_drewN ?_ _ | refine blk_drew ?_ | refine blk_alloc ?_ _)); exact BK315.out⟩, ⟨zq28⟩⟩
  rw [if_pos c9] at H
  have c9b0 : decide (a1 < (rd l0_2 x11_1)) = true := decide_eq_true c9
  clear c9
  by_cases c10 : x5_1.length < 17592186044416
  case neg =>
   rw [if_neg c10] at H
   exact absurd H (by simp)
  rw [if_pos c10] at H
  have LMc10 := Aside0.mk c10
  clear c10
  obtain ⟨y317, hy317⟩ : ∃ y_ : List Int, y_ = (x5_1 ++ [x11_1]) := ⟨_, rfl⟩
  replace H : (impl_regionAbove.l0 k1 a1 y317 l0_2 (l0_2.length : Int) (wrap64 (x11_1 + 1))) = some r := zqH hy317 H
  have Ny317 := Aside0.mk hy317
  clear hy317
  have H' := Aside0.mk H
  clear H
  have p316 : 0 ≤ (x11_1 : Int) := of_decide_eq_true zq2
  have q316 : x11_1 < (l0_2.length : Int) := of_decide_eq_true zq2
  obtain ⟨ad316, e316, hx316_0⟩ := Kd.at_int HR0_2.out x11_1 p316 q316
  cases e316
  replace hx316_0 := bx HB.out hx316_0
  replace p316 := eq_true p316
  replace q316 := eq_true q316
  go_wp2_with (first | ((with_reducible refine gate_builtin (b := .append) (xs := #[.tmp 23, .tmp 25]) rfl ?_); at_builtin; refine Kd.R_append (Kd.int .i64) (w0 := w) w.heap.size rfl (.tmp 23) (.tmp 25) 22 3 (.int .i64 0) 8 rfl Try.underlying22 info3 rfl (by decide) (by omega) u5 x5_1 x11_1 [.int .i64 x11_1] (fun _ => True) (fun _ => False) rfl rfl ?aP (fun _ hk => hk.elim) ?aF ?aO ?aB ?aS ?aL ?_; (case aP => exact rfl); (case aB => exact zq28); (case aF => exact (fun _ _ => trivial)); (case aO => exact (zqR HO_5.out)); (case aS => exact (below_size zq28)); (case aL => have := LMc10.out; omega); intro v318 w11 ho hb hg hat; rw [← Ny317.out] at ho; replace BK315 := Aside0.mk (blk_grown (g := gb315) (o := .cells #[.int .i64 a0_0, .int .i64 a0_1, .slice (some ad316) l0_2.length c0_2] 29 (0, 0)) (zqK BK315.out) hg (Kd.R_ne HO_5.out BK315.out (by decide))); replace HB := Aside0.mk (hb); have HO319 := Aside0.mk (ho); clear HO_5; clear ho hb hg hat))
  go_roundg k1
  case measure => have := HK1.out; omega
  case rel => exact ⟨(y317), (wrap64 (x11_1 + 1)), (by first | rfl | (simp; done) | (simp [*]; done)), H', ⟨by have := HK1.out; omega⟩, ⟨zqR HO319.out⟩, ⟨by (with_reducible repeat (first | refine blk_drewN ?_ _ | refine blk_drew ?_ | refine blk_alloc ?_ _)); exact BK315.out⟩, ⟨zq28⟩⟩
mutual
def impl_StormsOf.l0 : Nat → List (S49) → List (List Int) → Int → Int → Int → Int → List Int → Option ((List (S49)) × Bool)
 | 0, _, _, _, _, _, _, _ => none
 | k + 1, x6, x20, x21, x22, x321000, x321001, x321002 => if x22 < x21 then (if 0 ≤ x22 then (if x22 < (x20.length : Int) then (if 0 < ((rd_L1 x20 x22).length : Int) then (impl_StormsOf.l1 k x6 (rd_L1 x20 x22) (rd (rd_L1 x20 x22) 0) x20 x21 x22 (rd_L1 x20 x22) ((rd_L1 x20 x22).length : Int) 0 x321000 x321001 x321002) else (none)) else (none)) else (none)) else (if (x6.length : Int) > 5 then (some (([] : List (S49)), false)) else (some (x6, true)))
def impl_StormsOf.l1 : Nat → List (S49) → List Int → Int → List (List Int) → Int → Int → List Int → Int → Int → Int → Int → List Int → Option ((List (S49)) × Bool)
 | 0, _, _, _, _, _, _, _, _, _, _, _, _ => none
 | k + 1, x6, x8, x9, x20, x21, x22, x29, x30, x31, x321000, x321001, x321002 => if x31 < x30 then (if 0 ≤ x31 then (if x31 < (x29.length : Int) then (if 0 ≤ (rd x29 x31) then (if (rd x29 x31) < (x321002.length : Int) then (if 0 ≤ x9 then (if x9 < (x321002.length : Int) then (if (rd x321002 (rd x29 x31)) > (rd x321002 x9) then (impl_StormsOf.l1 k x6 x8 (rd x29 x31) x20 x21 x22 x29 x30 (wrap64 (x31 + 1)) x321000 x321001 x321002) else (impl_StormsOf.l1 k x6 x8 x9 x20 x21 x22 x29 x30 (wrap64 (x31 + 1)) x321000 x321001 x321002)) else (none)) else (none)) else (none)) else (none)) else (none)) else (none)) else (if x321000 = 0 then (none) else (if 0 ≤ x9 then (if x9 < (x321002.length : Int) then (if x6.length < 4398046511104 then (impl_StormsOf.l0 k (x6 ++ [(⟨Int.tmod x9 x321000, wrap64 (Int.tdiv x9 x321000), (x8.length : Int), rd x321002 x9⟩ : S49)]) x20 x21 (wrap64 (x22 + 1)) x321000 x321001 x321002) else (none)) else (none)) else (none)))
end
def impl_StormsOf.f (k : Nat) (a0_0 : Int) (a0_1 : Int) (l0_2 : List Int) (a1 : Int) : Option ((List (S49)) × Bool) := (impl_IsValidField.f a0_0 a0_1 l0_2).bind fun t321 => (if t321 = true then ((impl_regionAbove.f k a0_0 a0_1 l0_2 a1).bind fun t322 => ((impl_regionParts.f a0_0 t322).bind fun t325 => (impl_StormsOf.l0 k ([] : List (S49)) t325 (t325.length : Int) 0 a0_0 a0_1 l0_2))) else (some (([] : List (S49)), false)))
def impl_StormsOf.T4 : Bool × List (List Nat × List Nat) := (true, [([], []), ([0], [0]), ([], []), ([], []), ([2, 3], [2, 3]), ([1, 4, 4], [1, 4]), ([5], [5]), ([], [])])
def impl_StormsOf.B4 : List Nat := [0, 1, 0, 0, 12, 31, 63, 0]
theorem impl_StormsOf.tab4 : rtab .any (opsOf Try.f8 4) = impl_StormsOf.T4 := by kernel_rfl
theorem impl_StormsOf.bits4 : waitsOk impl_StormsOf.T4.2 impl_StormsOf.B4 = true := by kernel_rfl
def impl_StormsOf.T11 : Bool × List (List Nat × List Nat) := (true, [([], []), ([0], [0]), ([], []), ([1, 2], [1, 2]), ([3], [3]), ([], []), ([5], [5]), ([], []), ([6, 7], [6, 7]), ([8], [8]), ([4, 9], [4, 9])])
def impl_StormsOf.B11 : List Nat := [0, 1, 0, 7, 15, 0, 32, 0, 224, 480, 1023]
theorem impl_StormsOf.tab11 : rtab .any (opsOf Try.f8 11) = impl_StormsOf.T11 := by kernel_rfl
theorem impl_StormsOf.bits11 : waitsOk impl_StormsOf.T11.2 impl_StormsOf.B11 = true := by kernel_rfl
def impl_StormsOf.T14 : Bool × List (List Nat × List Nat) := (true, [([], []), ([], []), ([], []), ([2], [2]), ([1, 3], [1, 3]), ([], []), ([], []), ([6], [6]), ([5, 7], [5, 7]), ([], []), ([9], [9]), ([], []), ([11], [11]), ([], []), ([12, 13], [12, 13]), ([14], [14]), ([4, 8, 10, 15], [4, 8, 10, 15]), ([16], [16]), ([0, 17], [0, 17]), ([18, 18, 0, 1, 2, 3, 4, 5, 6, 7, 8, 9, 10, 11, 12, 13, 14, 15, 16, 17, 18], [0, 18])])
def impl_StormsOf.B14 : List Nat := [0, 0, 0, 4, 14, 0, 0, 64, 224, 0, 512, 0, 2048, 0, 14336, 30720, 65534, 131070, 262143, 524287]
theorem impl_StormsOf.tab14 : rtab .any (opsOf Try.f8 14) = impl_StormsOf.T14 := by kernel_rfl
theorem impl_StormsOf.bits14 : waitsOk impl_StormsOf.T14.2 impl_StormsOf.B14 = true := by kernel_rfl
set_option maxHeartbeats 8000000 in
set_option maxRecDepth 100000 in
theorem impl_StormsOf.calls (k : Nat) (a0_0 : Int) (a0_1 : Int) (A0_2 : Option Addr) (c0_2 : Nat) (l0_2 : List Int) (a1 : Int) (r1 : List (S49)) (r2 : Bool) (w : World) (hr0_2 : Kd.C (Kd.int .i64) w A0_2 l0_2.length l0_2) (hc0_2 : l0_2.length ≤ c0_2) (h : impl_StormsOf.f k a0_0 a0_1 l0_2 a1 = some (r1, r2)) :
  Calls Try.prog 8 #[.agg #[.int .i64 a0_0, .int .i64 a0_1, .slice A0_2 l0_2.length c0_2], .int .i64 a1] w fun e w' => ∃ v0_ : Value, e = .returned (.tuple #[v0_, .bool r2]) ∧ Kd.R k49 49 w' w.heap.size (fun _ => True) v0_ r1 ∧ Below w.heap.size w w' := by
 have hu29 := Try.underlying29
 have hu49 := Try.underlying49
 have HR0_2 := Aside0.mk hr0_2
 have HC0_2 := Aside0.mk hc0_2
 clear hr0_2 hc0_2
 have HB := Aside0.mk (Below.refl w.heap.size w)
 have H : ((impl_IsValidField.f a0_0 a0_1 l0_2).bind fun t321 => (if t321 = true then ((impl_regionAbove.f k a0_0 a0_1 l0_2 a1).bind fun t322 => ((impl_regionParts.f a0_0 t322).bind fun t325 => (impl_StormsOf.l0 k ([] : List (S49)) t325 (t325.length : Int) 0 a0_0 a0_1 l0_2))) else (some (([] : List (S49)), false)))) = some (r1, r2) := h
 clear h
 replace H := Option.bind_eq_some_iff.mp H
 obtain ⟨t321, A30, H⟩ := H
 replace H : (if t321 = true then ((impl_regionAbove.f k a0_0 a0_1 l0_2 a1).bind fun t322 => ((impl_regionParts.f a0_0 t322).bind fun t325 => (impl_StormsOf.l0 k ([] : List (S49)) t325 (t325.length : Int) 0 a0_0 a0_1 l0_2))) else (some (([] : List (S49)), false))) = some (r1, r2) := H
 have A3 := Aside0.mk A30
 clear A30
 by_cases c4 : t321 = true
 case neg =>
  replace c4 := Bool.eq_false_iff.mpr c4
  subst c4
  have H1 : (some (([] : List (S49)), false)) = some (r1, r2) := by rw [if_neg (show ¬ (false = true) by decide)] at H; exact H
  clear H
  have H := H1
  clear H1
  simp only [Option.some.injEq, Prod.mk.injEq] at H
  obtain ⟨rfl, rfl⟩ := H
  go_enter Try.func8, Try.ntmps8
  go_wp2_with (first | ((with_reducible refine gate_dst (N := 2) rfl ?_); refine box_event ?hg (N := 2) ?hd (cs := #[.int .i64 a0_0, .int .i64 a0_1, .slice A0_2 l0_2.length c0_2]) (t := 29) ?hr ?_; (case hd => rfl); (case hg => rfl); (case hr => exact zqS); intro gb320 hg w38 hbox hb; have BK320 := Aside0.mk (hbox); have GW320 := Aside0.mk ((by rw [hg]; exact (below_size zq0) : w.heap.size ≤ gb320)); replace HB := Aside0.mk (below_step zq0 hb); have GE320 := GW320; clear hb hbox hg; have hcz39_0 := bz BK320.out 0 (.int .i64 a0_0); have hcz39_1 := bz BK320.out 1 (.int .i64 a0_1); have hcz39_2 := bz BK320.out 2 (.slice A0_2 l0_2.length c0_2); have hfz39_0 := blk_frozen BK320.out 0; have hfz39_1 := blk_frozen BK320.out 1; have hfz39_2 := blk_frozen BK320.out 2) | ((with_reducible refine gate_callee (f := 30) rfl ?_); refine goesL_ (some 13) rfl rfl Try.func30 (by kernel_rfl) rfl #[.agg #[.int .i64 a0_0, .int .i64 a0_1, .slice A0_2 l0_2.length c0_2]] rfl zq1 ?_; (with_reducible refine (impl_IsValidField.calls a0_0 a0_1 _ _ l0_2 false _ ?side1 ?side2 A3.out).mono ?_); (case side1 => exact zqC (Kd.C_below HR0_2.out HB.out)); (case side2 => exact HC0_2.out); rintro e w40 ⟨rfl, hb⟩; refine ⟨_, rfl, ?_⟩; replace BK320 := Aside0.mk (blk_below (g := gb320) (o := .cells #[.int .i64 a0_0, .int .i64 a0_1, .slice A0_2 l0_2.length c0_2] 29 (0, 0)) (zqK BK320.out) hb); replace HB := Aside0.mk (below_step zq15 hb); (try clear hb); (try clear hb2); (try clear hk); (try clear hi)))
  go_ret2
  exact ⟨_, by first | rfl | (simp [errW_none, errW_some] <;> rfl) | (simp [*, errW_none, errW_some] <;> rfl), by first | exact Kd.R_nil _ _ _ _ _ | exact Kd.N_nil _ _ _ _ _ | exact Kd.V_nil _ _ _ _ _ | exact Kd.Q_nil _ _ _ _ _ | exact Kd.S_nil _ _ _ _ _, zq15⟩
 subst c4
 have H1 : ((impl_regionAbove.f k a0_0 a0_1 l0_2 a1).bind fun t322 => ((impl_regionParts.f a0_0 t322).bind fun t325 => (impl_StormsOf.l0 k ([] : List (S49)) t325 (t325.length : Int) 0 a0_0 a0_1 l0_2))) = some (r1, r2) := by rw [if_pos rfl] at H; exact H
 clear H
 have H := H1
 clear H1
 replace H := Option.bind_eq_some_iff.mp H
 obtain ⟨t322, A50, H⟩ := H
 replace H : ((impl_regionParts.f a0_0 t322).bind fun t325 => (impl_StormsOf.l0 k ([] : List (S49)) t325 (t325.length : Int) 0 a0_0 a0_1 l0_2)) = some (r1, r2) := H
 have A5 := Aside0.mk A50
 clear A50
 replace H := Option.bind_eq_some_iff.mp H
 obtain ⟨t325, A60, H⟩ := H
 replace H : (impl_StormsOf.l0 k ([] : List (S49)) t325 (t325.length : Int) 0 a0_0 a0_1 l0_2) = some (r1, r2) := H
 have A6 := Aside0.mk A60
 clear A60
 have H' := Aside0.mk H
 clear H
 go_enter Try.func8, Try.ntmps8
 try go_wp2_with (first | ((with_reducible refine gate_dst (N := 2) rfl ?_); refine box_event ?hg (N := 2) ?hd (cs := #[.int .i64 a0_0, .int .i64 a0_1, .slice A0_2 l0_2.length c0_2]) (t := 29) ?hr ?_; (case hd => rfl); (case hg => rfl); (case hr => exact zqS); intro gb320 hg w7 hbox hb; have BK320 := Aside0.mk (hbox); have GW320 := Aside0.mk ((by rw [hg]; exact (below_size zq0) : w.heap.size ≤ gb320)); replace HB := Aside0.mk (below_step zq0 hb); have GE320 := GW320; clear hb hbox hg; have hcz8_0 := bz BK320.out 0 (.int .i64 a0_0); have hcz8_1 := bz BK320.out 1 (.int .i64 a0_1); have hcz8_2 := bz BK320.out 2 (.slice A0_2 l0_2.length c0_2); have hfz8_0 := blk_frozen BK320.out 0; have hfz8_1 := blk_frozen BK320.out 1; have hfz8_2 := blk_frozen BK320.out 2) | ((with_reducible refine gate_callee (f := 30) rfl ?_); refine goesL_ (some 13) rfl rfl Try.func30 (by kernel_rfl) rfl #[.agg #[.int .i64 a0_0, .int .i64 a0_1, .slice A0_2 l0_2.length c0_2]] rfl zq1 ?_; (with_reducible refine (impl_IsValidField.calls a0_0 a0_1 _ _ l0_2 true _ ?side1 ?side2 A3.out).mono ?_); (case side1 => exact zqC (Kd.C_below HR0_2.out HB.out)); (case side2 => exact HC0_2.out); rintro e w9 ⟨rfl, hb⟩; refine ⟨_, rfl, ?_⟩; replace BK320 := Aside0.mk (blk_below (g := gb320) (o := .cells #[.int .i64 a0_0, .int .i64 a0_1, .slice A0_2 l0_2.length c0_2] 29 (0, 0)) (zqK BK320.out) hb); replace HB := Aside0.mk (below_step zq15 hb); (try clear hb); (try clear hb2); (try clear hk); (try clear hi)))
 have n0_ := Aside0.mk (blk_drew BK320.out)
 have n1_ := Aside0.mk (below_drew1 HB.out)
 clear BK320
 clear HB
 have BK320 := n0_
 have HB := n1_
 clear n0_ n1_
 refine start_ (n := 8) (S := fun w' => w'.cell? ⟨gb320, 0, none⟩ = some (.int .i64 a0_0) ∧ w'.cell? ⟨gb320, 1, none⟩ = some (.int .i64 a0_1) ∧ w'.cell? ⟨gb320, 2, none⟩ = some (.slice A0_2 l0_2.length c0_2)) (ds := []) #[false, false, false, false, false, false, false, false] (by kernel_rfl) rfl rfl ⟨(blk_cell BK320.out 0).trans rfl, (blk_cell BK320.out 1).trans rfl, (blk_cell BK320.out 2).trans rfl⟩ (fun hHeld => ?_); refine with_tabW impl_StormsOf.tab4 impl_StormsOf.bits4 (fun HT_ HW_ => ?_)
 generalize w9.drew = w10 at BK320 HB hHeld ⊢
 refine zP 0 (some 15) #[zt, zf, zf, zf, zf, zf, zf, zf] ?_ rfl rfl HT_ (Or.inl ⟨by rfl, ?_⟩) ?_ ?_ ?_
 rotate_left; · exact zqB
 rotate_left; · exact zqA
 refine zP 3 (some 18) #[zt, zf, zf, zt, zf, zf, zf, zf] ?_ rfl rfl HT_ (Or.inl ⟨by rfl, ?_⟩) ?_ ?_ ?_
 rotate_left; · exact zqB
 rotate_left; · exact zqA
 refine zP 7 (some 22) #[zt, zf, zf, zt, zf, zf, zf, zt] ?_ rfl rfl HT_ (Or.inl ⟨by rfl, ?_⟩) ?_ ?_ ?_
 rotate_left; · exact zqB
 rotate_left; · exact zqA
 refine zT 1 (some 16) #[zt, zt, zf, zt, zf, zf, zf, zt] ?_ rfl rfl HT_ HW_ (Or.inl ⟨by rfl, ?_⟩) hHeld ?_ ?_ ?_
 rotate_left
 ·
  rintro w' ⟨s0, s1, s2⟩
  go_simp
  with_reducible rfl
 rotate_left; · exact zqA
 refine zT 2 (some 17) #[zt, zt, zt, zt, zf, zf, zf, zt] ?_ rfl rfl HT_ HW_ (Or.inl ⟨by rfl, ?_⟩) hHeld ?_ ?_ ?_
 rotate_left
 ·
  rintro w' ⟨s0, s1, s2⟩
  go_simp
  with_reducible rfl
 rotate_left; · exact zqA
 refine one_ (i := 4) (N := some 19) #[zt, zt, zt, zt, zt, zf, zf, zt] rfl rfl (one_of HT_.out (by kernel_rfl)) (by decide) (fun K hK => ?_)
 refine goes_ Try.func32 (by kernel_rfl) rfl #[.agg #[.int .i64 a0_0, .int .i64 a0_1, .slice A0_2 l0_2.length c0_2], .int .i64 a1] (by rfl) rfl rfl zq1 ?_
 with_reducible refine (impl_regionAbove.calls k a0_0 a0_1 _ _ l0_2 a1 t322 _ ?side1 ?side2 A5.out).mono ?_
 (case side1 => exact zqC (Kd.C_below HR0_2.out HB.out))
 (case side2 => exact HC0_2.out)
 rintro e w11 ⟨v323, rfl, ho0, hb⟩
 refine ⟨_, rfl, ?_⟩
 have n0_ := Aside0.mk (Kd.R_lower ho0 (below_size zq15))
 have n1_ := Aside0.mk (blk_below (g := gb320) (o := .cells #[.int .i64 a0_0, .int .i64 a0_1, .slice A0_2 l0_2.length c0_2] 29 (0, 0)) (zqK BK320.out) hb)
 have n2_ := Aside0.mk (below_step zq15 hb)
 clear BK320
 clear HB
 have HO324 := n0_
 have BK320 := n1_
 have HB := n2_
 clear n0_ n1_ n2_
 (try clear hb)
 (try clear hb2)
 (try clear hk)
 (try clear hi)
 (try clear ho0)
 obtain ⟨Ao12, co12, eo12⟩ := Kd.R_slice HO324.out
 (first | subst eo12 | (injection eo12 with f1_ f2_ f3_; have f4_ := f1_.symm; have f5_ := f3_.symm; clear f1_ f2_ f3_; subst f4_; subst f5_))
 refine hK.out _ _ ⟨(blk_cell BK320.out 0).trans rfl, (blk_cell BK320.out 1).trans rfl, (blk_cell BK320.out 2).trans rfl⟩ (fun hHeld => ?_)
 clear hK K
 refine norm_ (a' := ?_) ?_ ?_
 rotate_left
 ·
  show Act.put _ (some 19) _ = _
  simp only [Act.put, List.setIfInBounds_toArray, List.set_cons_zero, List.set_cons_succ, i64_w, i32_w]
  rfl
 refine one_ (i := 5) (N := some 20) #[zt, zt, zt, zt, zt, zt, zf, zt] rfl rfl (one_of HT_.out (by kernel_rfl)) (by decide) (fun K hK => ?_)
 refine goes_ Try.func31 (by kernel_rfl) rfl #[.int .i64 a0_0, .slice Ao12 t322.length co12] (by rfl) rfl rfl zq1 ?_
 with_reducible refine (impl_regionParts.calls a0_0 _ _ t322 t325 _ ?side1 ?side2 A6.out).mono ?_
 (case side1 => exact zqC (Kd.R_reads' HO324.out).2.2)
 (case side2 => exact (Kd.R_reads' HO324.out).2.1)
 rintro e w13 ⟨v326, rfl, ho0, hb⟩
 refine ⟨_, rfl, ?_⟩
 have n0_ := Aside0.mk (Kd.R_below (zqR HO324.out) hb)
 have n1_ := Aside0.mk (Kd.S_lower (Kd.S_new' ho0 (Kd.R_lt (zqR HO324.out))) (below_size zq15))
 have n2_ := Aside0.mk (blk_below (g := gb320) (o := .cells #[.int .i64 a0_0, .int .i64 a0_1, .slice A0_2 l0_2.length c0_2] 29 (0, 0)) (zqK BK320.out) hb)
 have n3_ := Aside0.mk (below_step zq15 hb)
 clear HO324
 clear BK320
 clear HB
 have HO324 := n0_
 have HO327 := n1_
 have BK320 := n2_
 have HB := n3_
 clear n0_ n1_ n2_ n3_
 (try clear hb)
 (try clear hb2)
 (try clear hk)
 (try clear hi)
 (try clear ho0)
 obtain ⟨Ao14, co14, eo14⟩ := Kd.S_slice HO327.out
 (first | subst eo14 | (injection eo14 with f1_ f2_ f3_; have f4_ := f1_.symm; have f5_ := f3_.symm; clear f1_ f2_ f3_; subst f4_; subst f5_))
 refine hK.out _ _ ⟨(blk_cell BK320.out 0).trans rfl, (blk_cell BK320.out 1).trans rfl, (blk_cell BK320.out 2).trans rfl⟩ (fun hHeld => ?_)
 clear hK K
 refine norm_ (a' := ?_) ?_ ?_
 rotate_left
 ·
  show Act.put _ (some 20) _ = _
  simp only [Act.put, List.setIfInBounds_toArray, List.set_cons_zero, List.set_cons_succ, i64_w, i32_w]
  rfl
 refine zP 6 (some 21) #[zt, zt, zt, zt, zt, zt, zt, zt] ?_ rfl rfl HT_ (Or.inl ⟨by rfl, ?_⟩) ?_ ?_ ?_
 rotate_left; · exact zqB
 rotate_left; · exact zqA
 refine done_ (done_of HT_.out (by kernel_rfl)) ?_
 try go_wp2
 go_loopg [6, 22] k (fun kq v6 v22 w' => ∃ (x6_1 : List (S49)) (x22_1 : Int), v22 = .int .i64 x22_1 ∧ Aside0 (impl_StormsOf.l0 kq x6_1 t325 (t325.length : Int) x22_1 a0_0 a0_1 l0_2 = some (r1, r2)) ∧ Aside0 (kq ≤ k) ∧ Aside0 (Kd.R k49 49 w' w.heap.size (fun _ => True) v6 x6_1) ∧ Aside0 (Kd.S (Kd.slice 3 (Kd.int .i64)) 22 w' w.heap.size (fun _ => True) (.slice Ao14 t325.length co14) t325) ∧ Aside0 (w'.heap[gb320]? = some (.cells #[.int .i64 a0_0, .int .i64 a0_1, (.slice A0_2 l0_2.length c0_2)] 29 (0, 0))) ∧ Aside0 (Below w.heap.size w w'))
 case atStart => exact ⟨(([] : List (S49))), (0), (by first | rfl | (simp; done) | (simp [*]; done)), H', ⟨Nat.le_refl _⟩, ⟨by first | exact Kd.R_nil _ _ _ _ _ | exact Kd.N_nil _ _ _ _ _ | exact Kd.V_nil _ _ _ _ _ | exact Kd.Q_nil _ _ _ _ _ | exact Kd.S_nil _ _ _ _ _⟩, ⟨by (with_reducible repeat (first | apply Kd.S_alloc | apply Kd.S_drewN | apply Kd.S_drew)); exact Kd.S_mono HO327.out (fun _ hk => trivial)⟩, ⟨by (with_reducible repeat (first | refine blk_drewN ?_ _ | refine blk_drew ?_ | refine blk_alloc ?_ _)); exact BK320.out⟩, ⟨zq15⟩⟩
 clear H'
 try clear p2
 try clear c3
 try clear c4
 try clear c8
 try clear hcz8_0
 try clear hcz8_1
 try clear hcz8_2
 try clear hfz8_0
 try clear hfz8_1
 try clear hfz8_2
 obtain ⟨x6_1, x22_1, rfl, HA, HK1, HO_6, HO_20, BK320, HB⟩ := hrel
 cases gk with
 | zero => exact absurd HA.out (by simp [impl_StormsOf.l0])
 | succ k1 =>
  have H := HA.out
  clear HA
  simp only [impl_StormsOf.l0] at H
  by_cases c15 : x22_1 < (t325.length : Int)
  case neg =>
   rw [if_neg c15] at H
   have c15b0 : decide (x22_1 < (t325.length : Int)) = false := decide_eq_false c15
   clear c15
   by_cases c35 : (x6_1.length : Int) > 5
   case neg =>
    rw [if_neg c35] at H
    have c35b0 : decide (5 < (x6_1.length : Int)) = false := decide_eq_false c35
    have c35b1 : decide (5 < x6_1.length) = false := decide_eq_false (by omega)
    clear c35
    simp only [Option.some.injEq, Prod.mk.injEq] at H
    obtain ⟨rfl, rfl⟩ := H
    obtain ⟨Ao37, co37, eo37⟩ := Kd.R_slice HO_6.out
    subst eo37
    go_wp2
    go_ret2
    exact ⟨_, by first | rfl | (simp [errW_none, errW_some] <;> rfl) | (simp [*, errW_none, errW_some] <;> rfl), zqR HO_6.out, zq15⟩
   rw [if_pos c35] at H
   have c35b0 : decide (5 < (x6_1.length : Int)) = true := decide_eq_true c35
   have c35b1 : decide (5 < x6_1.length) = true := decide_eq_true (by omega)
   clear c35
   simp only [Option.some.injEq, Prod.mk.injEq] at H
   obtain ⟨rfl, rfl⟩ := H
   obtain ⟨Ao36, co36, eo36⟩ := Kd.R_slice HO_6.out
   subst eo36
   go_wp2
   go_ret2
   exact ⟨_, by first | rfl | (simp [errW_none, errW_some] <;> rfl) | (simp [*, errW_none, errW_some] <;> rfl), by first | exact Kd.R_nil _ _ _ _ _ | exact Kd.N_nil _ _ _ _ _ | exact Kd.V_nil _ _ _ _ _ | exact Kd.Q_nil _ _ _ _ _ | exact Kd.S_nil _ _ _ _ _, zq15⟩
  rw [if_pos c15] at H
  have c15b0 : decide (x22_1 < (t325.length : Int)) = true := decide_eq_true c15
  clear c15
  by_cases c16 : 0 ≤ x22_1
  case neg =>
   rw [if_neg c16] at H
   exact absurd H (by simp)
  rw [if_pos c16] at H
  have c16b0 : decide (0 ≤ x22_1) = true := decide_eq_true c16
  clear c16
  by_cases c17 : x22_1 < (t325.length : Int)
  case neg =>
   rw [if_neg c17] at H
   exact absurd H (by simp)
  rw [if_pos c17] at H
  have c17b0 : decide (x22_1 < (t325.length : Int)) = true := decide_eq_true c17
  clear c17
  by_cases c18 : 0 < ((rd_L1 t325 x22_1).length : Int)
  case neg =>
   rw [if_neg c18] at H
   exact absurd H (by simp)
  rw [if_pos c18] at H
  have c18b0 : decide (0 < ((rd_L1 t325 x22_1).length : Int)) = true := decide_eq_true c18
  have c18b1 : decide (0 < (rd_L1 t325 x22_1).length) = true := decide_eq_true (by omega)
  clear c18
  have H' := Aside0.mk H
  clear H
  have p328 : 0 ≤ (x22_1 : Int) := of_decide_eq_true zq2
  have q328 : x22_1 < (t325.length : Int) := of_decide_eq_true zq2
  obtain ⟨ad328, A328_0, c328_0, e328, hx328_0, hl328_0, hi328_0⟩ := at_L1 (Kd.S_reads' HO_20.out).2.2 x22_1 p328 q328
  cases e328
  obtain ⟨ce328, hce328, hMe328, hcc328⟩ := Kd.S_get HO_20.out [] x22_1 p328 (by first | exact q328 | exact of_decide_eq_true zq2 | (have e_ := (Kd.S_reads' HO_20.out).1; omega))
  obtain ⟨ve328_0, rfl, ge328_0⟩ := hMe328
  have hv328_0 := hcc328 0 _ rfl
  rw [Nat.add_zero, show ((Kd.slice 3 (Kd.int .i64))).sz = 1 from rfl, Nat.mul_one] at hv328_0
  replace hv328_0 := Option.some.inj (hv328_0.symm.trans hx328_0)
  rw [hv328_0] at ge328_0
  have HL328_0 := Aside0.mk (show Kd.R (Kd.int .i64) 3 _ _ _ _ (rd_L1 t325 x22_1) from ge328_0)
  clear hv328_0 ge328_0
  clear hcc328 hce328
  have HR328_0 := Aside0.mk hi328_0
  have HC328_0 := Aside0.mk hl328_0
  clear hi328_0 hl328_0
  replace p328 := eq_true p328
  replace q328 := eq_true q328
  have p329 : 0 ≤ (0 : Int) := (by omega)
  have q329 : 0 < ((rd_L1 t325 x22_1).length : Int) := of_decide_eq_true zq2
  obtain ⟨ad329, e329, hx329_0⟩ := Kd.at_int zq38 0 p329 q329
  cases e329
  have qi329 : (0 < (rd_L1 t325 x22_1).length) = True := eq_true (by omega)
  (try rw [show ((0 : Int)).toNat = 0 from rfl] at hx329_0)
  (try rw [Addr.add_zero'] at hx329_0)
  replace p329 := eq_true p329
  replace q329 := eq_true q329
  go_wp2
  go_loopg [9, 31] k1 (fun kq v9 v31 w' => ∃ (x9_2 : Int) (x31_2 : Int), v9 = .int .i64 x9_2 ∧ v31 = .int .i64 x31_2 ∧ Aside0 (impl_StormsOf.l1 kq x6_1 (rd_L1 t325 x22_1) x9_2 t325 (t325.length : Int) x22_1 (rd_L1 t325 x22_1) ((rd_L1 t325 x22_1).length : Int) x31_2 a0_0 a0_1 l0_2 = some (r1, r2)) ∧ Aside0 (kq ≤ k1) ∧ Aside0 (Kd.R k49 49 w' w.heap.size (fun _ => True) u6 x6_1) ∧ Aside0 (Kd.S (Kd.slice 3 (Kd.int .i64)) 22 w' w.heap.size (fun _ => True) (.slice (some ad328) t325.length co14) t325) ∧ Aside0 (w'.heap[gb320]? = some (.cells #[.int .i64 a0_0, .int .i64 a0_1, (.slice A0_2 l0_2.length c0_2)] 29 (0, 0))) ∧ Aside0 (Kd.C (Kd.int .i64) w' (some ad329) (rd_L1 t325 x22_1).length (rd_L1 t325 x22_1)) ∧ Aside0 (Below w.heap.size w w'))
  case atStart => exact ⟨(rd (rd_L1 t325 x22_1) 0), (0), (by first | rfl | (simp; done) | (simp [*]; done)), (by first | rfl | (simp; done) | (simp [*]; done)), H', ⟨Nat.le_refl _⟩, ⟨zqR HO_6.out⟩, ⟨by (with_reducible repeat (first | apply Kd.S_alloc | apply Kd.S_drewN | apply Kd.S_drew)); exact HO_20.out⟩, ⟨by (with_reducible repeat (first | refine blk_drewN ?_ _ | refine blk_drew ?_ | refine blk_alloc ?_ _)); exact BK320.out⟩, ⟨zq38⟩, ⟨zq15⟩⟩
  clear H'
  try clear c1
  try clear p2
  try clear c3
  try clear p3
  try clear q3
  try clear hx3
  try clear qi3
  try clear c4
  try clear c8
  try clear c15
  try clear c15b0
  try clear c16
  try clear c16b0
  try clear c17
  try clear c17b0
  try clear c18
  try clear c18b0
  try clear c18b1
  try clear hcz8_0
  try clear hcz8_1
  try clear hcz8_2
  try clear hfz8_0
  try clear hfz8_1
  try clear hfz8_2
  try clear hx328_0
  try clear hx329_0
  try clear p2
  try clear p328
  try clear p329
  try clear q328
  try clear q329
  obtain ⟨x9_2, x31_2, rfl, rfl, HA, HK2, HO_6, HO_20, BK320, HR328_0, HB⟩ := hrel
  cases gk with
  | zero => exact absurd HA.out (by simp [impl_StormsOf.l1])
  | succ k2 =>
   have H := HA.out
   clear HA
   simp only [impl_StormsOf.l1] at H
   by_cases c19 : x31_2 < ((rd_L1 t325 x22_1).length : Int)
   case neg =>
    rw [if_neg c19] at H
    have c19b0 : decide (x31_2 < ((rd_L1 t325 x22_1).length : Int)) = false := decide_eq_false c19
    clear c19
    by_cases c29 : a0_0 = 0
    case pos =>
     rw [if_pos c29] at H
     exact absurd H (by simp)
    rw [if_neg c29] at H
    have c29b0 : (a0_0 == 0) = false := beq_eq_false_iff_ne.mpr c29
    have c29b1 : (a0_0 != 0) = true := bne_iff_ne.mpr c29
    by_cases c30 : 0 ≤ x9_2
    case neg =>
     rw [if_neg c30] at H
     exact absurd H (by simp)
    rw [if_pos c30] at H
    have c30b0 : decide (0 ≤ x9_2) = true := decide_eq_true c30
    clear c30
    by_cases c31 : x9_2 < (l0_2.length : Int)
    case neg =>
     rw [if_neg c31] at H
     exact absurd H (by simp)
    rw [if_pos c31] at H
    have c31b0 : decide (x9_2 < (l0_2.length : Int)) = true := decide_eq_true c31
    clear c31
    by_cases c32 : x6_1.length < 4398046511104
    case neg =>
     rw [if_neg c32] at H
     exact absurd H (by simp)
    rw [if_pos c32] at H
    have LMc32 := Aside0.mk c32
    clear c32
    obtain ⟨y334, hy334⟩ : ∃ y_ : List (S49), y_ = (x6_1 ++ [(⟨Int.tmod x9_2 a0_0, wrap64 (Int.tdiv x9_2 a0_0), ((rd_L1 t325 x22_1).length : Int), rd l0_2 x9_2⟩ : S49)]) := ⟨_, rfl⟩
    replace H : (impl_StormsOf.l0 k2 y334 t325 (t325.length : Int) (wrap64 (x22_1 + 1)) a0_0 a0_1 l0_2) = some (r1, r2) := zqH hy334 H
    have Ny334 := Aside0.mk hy334
    clear hy334
    have H' := Aside0.mk H
    clear H
    try go_wp2
    have n0_ := Aside0.mk (Kd.R_drew HO_6.out)
    have n1_ := Aside0.mk (Kd.S_drew HO_20.out)
    have n2_ := Aside0.mk (blk_drew BK320.out)
    have n3_ := Aside0.mk (Kd.C_drew HR328_0.out)
    have n4_ := Aside0.mk (below_drew1 HB.out)
    clear HO_6
    clear HO_20
    clear BK320
    clear HR328_0
    clear HB
    have HO_6 := n0_
    have HO_20 := n1_
    have BK320 := n2_
    have HR328_0 := n3_
    have HB := n4_
    clear n0_ n1_ n2_ n3_ n4_
    have p333 : 0 ≤ (x9_2 : Int) := of_decide_eq_true zq2
    have q333 : x9_2 < (l0_2.length : Int) := of_decide_eq_true zq2
    obtain ⟨ad333, e333, hx333_0⟩ := Kd.at_int HR0_2.out x9_2 p333 q333
    have hw333_0 := hx333_0
    cases e333
    (try replace hx333_0 := bx HB.out hx333_0)
    replace p333 := eq_true p333
    replace q333 := eq_true q333
    refine start_ (n := 20) (S := fun w' => w'.cell? ⟨gb320, 0, none⟩ = some (.int .i64 a0_0) ∧ w'.cell? ⟨gb320, 1, none⟩ = some (.int .i64 a0_1) ∧ w'.cell? ⟨gb320, 2, none⟩ = some (.slice (some ad333) l0_2.length c0_2) ∧ w'.cell? (ad333.add (x9_2).toNat) = some (.int .i64 (rd l0_2 x9_2))) (ds := []) #[false, false, false, false, false, false, false, false, false, false, false, false, false, false, false, false, false, false, false, false] (by kernel_rfl) rfl rfl ⟨(blk_cell BK320.out 0).trans rfl, (blk_cell BK320.out 1).trans rfl, (blk_cell BK320.out 2).trans rfl, ((HB.out.cell (World.block_lt_of_cell? w _ hw333_0)).trans hw333_0)⟩ (fun hHeld => ?_); refine with_tabW impl_StormsOf.tab14 impl_StormsOf.bits14 (fun HT_ HW_ => ?_)
    generalize wr.drew = w33 at HO_6 HO_20 BK320 HR328_0 HB hx333_0 hHeld ⊢
    refine zP 0 (some 48) #[zt, zf, zf, zf, zf, zf, zf, zf, zf, zf, zf, zf, zf, zf, zf, zf, zf, zf, zf, zf] ?_ rfl rfl HT_ (Or.inl ⟨by rfl, ?_⟩) ?_ ?_ ?_
    rotate_left; · exact zqB
    rotate_left; · exact zqA
    refine zP 1 (some 49) #[zt, zt, zf, zf, zf, zf, zf, zf, zf, zf, zf, zf, zf, zf, zf, zf, zf, zf, zf, zf] ?_ rfl rfl HT_ (Or.inl ⟨by rfl, ?_⟩) ?_ ?_ ?_
    rotate_left; · exact zqB
    rotate_left; · exact zqA
    refine zP 2 (some 50) #[zt, zt, zt, zf, zf, zf, zf, zf, zf, zf, zf, zf, zf, zf, zf, zf, zf, zf, zf, zf] ?_ rfl rfl HT_ (Or.inl ⟨by rfl, ?_⟩) ?_ ?_ ?_
    rotate_left; · exact zqB
    rotate_left; · exact zqA
    refine zP 5 (some 53) #[zt, zt, zt, zf, zf, zt, zf, zf, zf, zf, zf, zf, zf, zf, zf, zf, zf, zf, zf, zf] ?_ rfl rfl HT_ (Or.inl ⟨by rfl, ?_⟩) ?_ ?_ ?_
    rotate_left; · exact zqB
    rotate_left; · exact zqA
    refine zP 6 (some 54) #[zt, zt, zt, zf, zf, zt, zt, zf, zf, zf, zf, zf, zf, zf, zf, zf, zf, zf, zf, zf] ?_ rfl rfl HT_ (Or.inl ⟨by rfl, ?_⟩) ?_ ?_ ?_
    rotate_left; · exact zqB
    rotate_left; · exact zqA
    refine zP 9 (some 57) #[zt, zt, zt, zf, zf, zt, zt, zf, zf, zt, zf, zf, zf, zf, zf, zf, zf, zf, zf, zf] ?_ rfl rfl HT_ (Or.inl ⟨by rfl, ?_⟩) ?_ ?_ ?_
    rotate_left; · exact zqB
    rotate_left; · exact zqA
    refine zP 10 (some 58) #[zt, zt, zt, zf, zf, zt, zt, zf, zf, zt, zt, zf, zf, zf, zf, zf, zf, zf, zf, zf] ?_ rfl rfl HT_ (Or.inl ⟨by rfl, ?_⟩) ?_ ?_ ?_
    rotate_left; · exact zqB
    rotate_left; · exact zqA
    refine zP 11 (some 59) #[zt, zt, zt, zf, zf, zt, zt, zf, zf, zt, zt, zt, zf, zf, zf, zf, zf, zf, zf, zf] ?_ rfl rfl HT_ (Or.inl ⟨by rfl, ?_⟩) ?_ ?_ ?_
    rotate_left; · exact zqB
    rotate_left; · exact zqA
    refine zP 13 (some 61) #[zt, zt, zt, zf, zf, zt, zt, zf, zf, zt, zt, zt, zf, zt, zf, zf, zf, zf, zf, zf] ?_ rfl rfl HT_ (Or.inl ⟨by rfl, ?_⟩) ?_ ?_ ?_
    rotate_left; · exact zqB
    rotate_left; · exact zqA
    refine zT 3 (some 51) #[zt, zt, zt, zt, zf, zt, zt, zf, zf, zt, zt, zt, zf, zt, zf, zf, zf, zf, zf, zf] ?_ rfl rfl HT_ HW_ (Or.inl ⟨by rfl, ?_⟩) hHeld ?_ ?_ ?_
    rotate_left
    ·
     rintro w' ⟨s0, s1, s2, s3⟩
     go_simp
     with_reducible rfl
    rotate_left; · exact zqA
    refine zP 4 (some 52) #[zt, zt, zt, zt, zt, zt, zt, zf, zf, zt, zt, zt, zf, zt, zf, zf, zf, zf, zf, zf] ?_ rfl rfl HT_ (Or.inl ⟨by rfl, ?_⟩) ?_ ?_ ?_
    rotate_left; · exact zqB
    rotate_left; · exact zqA
    refine zT 7 (some 55) #[zt, zt, zt, zt, zt, zt, zt, zt, zf, zt, zt, zt, zf, zt, zf, zf, zf, zf, zf, zf] ?_ rfl rfl HT_ HW_ (Or.inl ⟨by rfl, ?_⟩) hHeld ?_ ?_ ?_
    rotate_left
    ·
     rintro w' ⟨s0, s1, s2, s3⟩
     go_simp
     with_reducible rfl
    rotate_left; · exact zqA
    refine zP 8 (some 56) #[zt, zt, zt, zt, zt, zt, zt, zt, zt, zt, zt, zt, zf, zt, zf, zf, zf, zf, zf, zf] ?_ rfl rfl HT_ (Or.inl ⟨by rfl, ?_⟩) ?_ ?_ ?_
    rotate_left; · exact zqB
    rotate_left; · exact zqA
    refine zT 12 (some 60) #[zt, zt, zt, zt, zt, zt, zt, zt, zt, zt, zt, zt, zt, zt, zf, zf, zf, zf, zf, zf] ?_ rfl rfl HT_ HW_ (Or.inl ⟨by rfl, ?_⟩) hHeld ?_ ?_ ?_
    rotate_left
    ·
     rintro w' ⟨s0, s1, s2, s3⟩
     go_simp
     with_reducible rfl
    rotate_left; · exact zqA
    refine zP 14 (some 62) #[zt, zt, zt, zt, zt, zt, zt, zt, zt, zt, zt, zt, zt, zt, zt, zf, zf, zf, zf, zf] ?_ rfl rfl HT_ (Or.inl ⟨by rfl, ?_⟩) ?_ ?_ ?_
    rotate_left; · exact zqB
    rotate_left; · exact zqA
    refine zT 15 (some 63) #[zt, zt, zt, zt, zt, zt, zt, zt, zt, zt, zt, zt, zt, zt, zt, zt, zf, zf, zf, zf] ?_ rfl rfl HT_ HW_ (Or.inl ⟨by rfl, ?_⟩) hHeld ?_ ?_ ?_
    rotate_left
    ·
     rintro w' ⟨s0, s1, s2, s3⟩
     go_simp
     with_reducible rfl
    rotate_left; · exact zqA
    refine zP 16 (some 64) #[zt, zt, zt, zt, zt, zt, zt, zt, zt, zt, zt, zt, zt, zt, zt, zt, zt, zf, zf, zf] ?_ rfl rfl HT_ (Or.inl ⟨by rfl, ?_⟩) ?_ ?_ ?_
    rotate_left; · exact zqB
    rotate_left; · exact zqA
    refine one_ (i := 17) (N := some 65) #[zt, zt, zt, zt, zt, zt, zt, zt, zt, zt, zt, zt, zt, zt, zt, zt, zt, zt, zf, zf] rfl rfl (one_of HT_.out (by kernel_rfl)) (by decide) (fun K hK => ?_)
    refine value_ (w1 := ?_) (v := ?_) (by rfl) rfl ?_ ?_
    rotate_left 2
    ·
     go_simp
     constructor
     ·
      rfl
     ·
      rfl
    refine hK.out _ _ ⟨(blk_cell (blk_alloc BK320.out _) 0).trans rfl, (blk_cell (blk_alloc BK320.out _) 1).trans rfl, (blk_cell (blk_alloc BK320.out _) 2).trans rfl, (World.cell?_alloc_lt _ _ _ (World.block_lt_of_cell? _ _ (((HB.out.cell (World.block_lt_of_cell? w _ hw333_0)).trans hw333_0)))).trans (((HB.out.cell (World.block_lt_of_cell? w _ hw333_0)).trans hw333_0))⟩ (fun hHeld => ?_)
    clear hK K
    refine norm_ (a' := ?_) ?_ ?_
    rotate_left
    ·
     show Act.put _ (some 65) _ = _
     simp only [Act.put, List.setIfInBounds_toArray, List.set_cons_zero, List.set_cons_succ, i64_w, i32_w]
     rfl
    refine one_ (i := 18) (N := some 66) #[zt, zt, zt, zt, zt, zt, zt, zt, zt, zt, zt, zt, zt, zt, zt, zt, zt, zt, zt, zf] rfl rfl (one_of HT_.out (by kernel_rfl)) (by decide) (fun K hK => ?_)
    refine Kd.R_append_step k49 (w0 := w) w.heap.size (by rfl) (.tmp 48) (.tmp 65) 26 49 (.agg #[(.int .i64 0), (.int .i64 0), (.int .i64 0), (.int .i64 0)]) 32 rfl Try.underlying26 info49 rfl (by decide) (by omega) u6 x6_1 (⟨Int.tmod x9_2 a0_0, wrap64 (Int.tdiv x9_2 a0_0), ((rd_L1 t325 x22_1).length : Int), rd l0_2 x9_2⟩ : S49) [.int .i64 (Int.tmod x9_2 a0_0), .int .i64 (wrap64 (Int.tdiv x9_2 a0_0)), .int .i64 ((rd_L1 t325 x22_1).length : Int), .int .i64 (rd l0_2 x9_2)] (fun _ => True) (fun _ => False) rfl rfl ?aP (fun _ hk => hk.elim) ?aF ?aO ?aB ?aS ?aL ?_
    (case aP => exact k49_mkM _ _ _ (⟨Int.tmod x9_2 a0_0, wrap64 (Int.tdiv x9_2 a0_0), ((rd_L1 t325 x22_1).length : Int), rd l0_2 x9_2⟩ : S49))
    (case aB => exact zq15)
    (case aF => exact (fun _ _ => trivial))
    (case aO => exact (zqR HO_6.out))
    (case aS => exact (below_size zq15))
    (case aL => have := LMc32.out; omega)
    intro v335 w34 ho hb hg hat
    rw [← Ny334.out] at ho
    have n0_ := Aside0.mk (Kd.S_over' (by (with_reducible repeat (first | apply Kd.S_alloc | apply Kd.S_drewN | apply Kd.S_drew)); exact HO_20.out) (Kd.R_typed (zqR HO_6.out)) (by decide) hg)
    have n1_ := Aside0.mk (blk_grown (g := gb320) (o := .cells #[.int .i64 a0_0, .int .i64 a0_1, .slice (some ad333) l0_2.length c0_2] 29 (0, 0)) (zqK BK320.out) hg (Kd.R_ne HO_6.out BK320.out (by decide)))
    have n2_ := Aside0.mk (hb)
    have n3_ := Aside0.mk (ho)
    clear HO_20
    clear BK320
    clear HB
    clear HO_6
    have HO_20 := n0_
    have BK320 := n1_
    have HB := n2_
    have HO336 := n3_
    clear n0_ n1_ n2_ n3_
    clear ho hb hg hat
    refine hK.out _ _ ⟨(blk_cell BK320.out 0).trans rfl, (blk_cell BK320.out 1).trans rfl, (blk_cell BK320.out 2).trans rfl, ((HB.out.cell (World.block_lt_of_cell? w _ hw333_0)).trans hw333_0)⟩ (fun hHeld => ?_)
    clear hK K
    refine norm_ (a' := ?_) ?_ ?_
    rotate_left
    ·
     show Act.put _ (some 66) _ = _
     simp only [Act.put, List.setIfInBounds_toArray, List.set_cons_zero, List.set_cons_succ, i64_w, i32_w]
     rfl
    refine zP 19 (some 6) #[zt, zt, zt, zt, zt, zt, zt, zt, zt, zt, zt, zt, zt, zt, zt, zt, zt, zt, zt, zt] ?_ rfl rfl HT_ (Or.inl ⟨by rfl, ?_⟩) ?_ ?_ ?_
    rotate_left; · exact zqB
    rotate_left; · exact zqA
    refine done_ (done_of HT_.out (by kernel_rfl)) ?_
    try go_wp2
    go_roundg k2
    case measure => have := HK1.out; have := HK2.out; omega
    case rel => exact ⟨(y334), (wrap64 (x22_1 + 1)), (by first | rfl | (simp; done) | (simp [*]; done)), H', ⟨by have := HK1.out; have := HK2.out; omega⟩, ⟨zqR HO336.out⟩, ⟨by (with_reducible repeat (first | apply Kd.S_alloc | apply Kd.S_drewN | apply Kd.S_drew)); exact HO_20.out⟩, ⟨by (with_reducible repeat (first | refine blk_drewN ?_ _ | refine blk_drew ?_ | refine blk_alloc ?_ _)); exact BK320.out⟩, ⟨zq15⟩⟩
   rw [if_pos c19] at H
   have c19b0 : decide (x31_2 < ((rd_L1 t325 x22_1).length : Int)) = true := decide_eq_true c19
   clear c19
   by_cases c20 : 0 ≤ x31_2
   case neg =>
    rw [if_neg c20] at H
    exact absurd H (by simp)
   rw [if_pos c20] at H
   have c20b0 : decide (0 ≤ x31_2) = true := decide_eq_true c20
   clear c20
   by_cases c21 : x31_2 < ((rd_L1 t325 x22_1).length : Int)
   case neg =>
    rw [if_neg c21] at H
    exact absurd H (by simp)
   rw [if_pos c21] at H
   have c21b0 : decide (x31_2 < ((rd_L1 t325 x22_1).length : Int)) = true := decide_eq_true c21
   clear c21
   by_cases c22 : 0 ≤ (rd (rd_L1 t325 x22_1) x31_2)
   case neg =>
    rw [if_neg c22] at H
    exact absurd H (by simp)
   rw [if_pos c22] at H
   have c22b0 : decide (0 ≤ (rd (rd_L1 t325 x22_1) x31_2)) = true := decide_eq_true c22
   clear c22
   by_cases c23 : (rd (rd_L1 t325 x22_1) x31_2) < (l0_2.length : Int)
   case neg =>
    rw [if_neg c23] at H
    exact absurd H (by simp)
   rw [if_pos c23] at H
   have c23b0 : decide ((rd (rd_L1 t325 x22_1) x31_2) < (l0_2.length : Int)) = true := decide_eq_true c23
   clear c23
   by_cases c24 : 0 ≤ x9_2
   case neg =>
    rw [if_neg c24] at H
    exact absurd H (by simp)
   rw [if_pos c24] at H
   have c24b0 : decide (0 ≤ x9_2) = true := decide_eq_true c24
   clear c24
   by_cases c25 : x9_2 < (l0_2.length : Int)
   case neg =>
    rw [if_neg c25] at H
    exact absurd H (by simp)
   rw [if_pos c25] at H
   have c25b0 : decide (x9_2 < (l0_2.length : Int)) = true := decide_eq_true c25
   clear c25
   by_cases c26 : (rd l0_2 (rd (rd_L1 t325 x22_1) x31_2)) > (rd l0_2 x9_2)
   case neg =>
    rw [if_neg c26] at H
    have c26b0 : decide ((rd l0_2 x9_2) < (rd l0_2 (rd (rd_L1 t325 x22_1) x31_2))) = false := decide_eq_false c26
    clear c26
    have H' := Aside0.mk H
    clear H
    have p330 : 0 ≤ (x31_2 : Int) := of_decide_eq_true zq2
    have q330 : x31_2 < ((rd_L1 t325 x22_1).length : Int) := of_decide_eq_true zq2
    obtain ⟨ad330, e330, hx330_0⟩ := Kd.at_int HR328_0.out x31_2 p330 q330
    obtain rfl : ad329 = ad330 := (by injection e330)
    (try replace hx330_0 := bx HB.out hx330_0)
    replace p330 := eq_true p330
    replace q330 := eq_true q330
    try go_wp2
    have n0_ := Aside0.mk (Kd.R_drew HO_6.out)
    have n1_ := Aside0.mk (Kd.S_drew HO_20.out)
    have n2_ := Aside0.mk (blk_drew BK320.out)
    have n3_ := Aside0.mk (Kd.C_drew HR328_0.out)
    have n4_ := Aside0.mk (below_drew1 HB.out)
    clear HO_6
    clear HO_20
    clear BK320
    clear HR328_0
    clear HB
    have HO_6 := n0_
    have HO_20 := n1_
    have BK320 := n2_
    have HR328_0 := n3_
    have HB := n4_
    clear n0_ n1_ n2_ n3_ n4_
    have p331 : 0 ≤ ((rd (rd_L1 t325 x22_1) x31_2) : Int) := of_decide_eq_true zq2
    have q331 : (rd (rd_L1 t325 x22_1) x31_2) < (l0_2.length : Int) := of_decide_eq_true zq2
    obtain ⟨ad331, e331, hx331_0⟩ := Kd.at_int HR0_2.out (rd (rd_L1 t325 x22_1) x31_2) p331 q331
    have hw331_0 := hx331_0
    cases e331
    (try replace hx331_0 := bx HB.out hx331_0)
    replace p331 := eq_true p331
    replace q331 := eq_true q331
    have p332 : 0 ≤ (x9_2 : Int) := of_decide_eq_true zq2
    have q332 : x9_2 < (l0_2.length : Int) := of_decide_eq_true zq2
    obtain ⟨ad332, e332, hx332_0⟩ := Kd.at_int HR0_2.out x9_2 p332 q332
    have hw332_0 := hx332_0
    obtain rfl : ad331 = ad332 := (by injection e332)
    (try replace hx332_0 := bx HB.out hx332_0)
    replace p332 := eq_true p332
    replace q332 := eq_true q332
    refine start_ (n := 11) (S := fun w' => w'.cell? ⟨gb320, 0, none⟩ = some (.int .i64 a0_0) ∧ w'.cell? ⟨gb320, 1, none⟩ = some (.int .i64 a0_1) ∧ w'.cell? ⟨gb320, 2, none⟩ = some (.slice (some ad331) l0_2.length c0_2) ∧ w'.cell? (ad331.add ((rd (rd_L1 t325 x22_1) x31_2)).toNat) = some (.int .i64 (rd l0_2 (rd (rd_L1 t325 x22_1) x31_2))) ∧ w'.cell? (ad331.add (x9_2).toNat) = some (.int .i64 (rd l0_2 x9_2))) (ds := []) #[false, false, false, false, false, false, false, false, false, false, false] (by kernel_rfl) rfl rfl ⟨(blk_cell BK320.out 0).trans rfl, (blk_cell BK320.out 1).trans rfl, (blk_cell BK320.out 2).trans rfl, ((HB.out.cell (World.block_lt_of_cell? w _ hw331_0)).trans hw331_0), ((HB.out.cell (World.block_lt_of_cell? w _ hw332_0)).trans hw332_0)⟩ (fun hHeld => ?_); refine with_tabW impl_StormsOf.tab11 impl_StormsOf.bits11 (fun HT_ HW_ => ?_)
    generalize wr.drew = w28 at HO_6 HO_20 BK320 HR328_0 HB hx331_0 hx332_0 hHeld ⊢
    refine zP 0 (some 35) #[zt, zf, zf, zf, zf, zf, zf, zf, zf, zf, zf] ?_ rfl rfl HT_ (Or.inl ⟨by rfl, ?_⟩) ?_ ?_ ?_
    rotate_left; · exact zqB
    rotate_left; · exact zqA
    refine zP 2 (some 37) #[zt, zf, zt, zf, zf, zf, zf, zf, zf, zf, zf] ?_ rfl rfl HT_ (Or.inl ⟨by rfl, ?_⟩) ?_ ?_ ?_
    rotate_left; · exact zqB
    rotate_left; · exact zqA
    refine zP 5 (some 40) #[zt, zf, zt, zf, zf, zt, zf, zf, zf, zf, zf] ?_ rfl rfl HT_ (Or.inl ⟨by rfl, ?_⟩) ?_ ?_ ?_
    rotate_left; · exact zqB
    rotate_left; · exact zqA
    refine zP 7 (some 42) #[zt, zf, zt, zf, zf, zt, zf, zt, zf, zf, zf] ?_ rfl rfl HT_ (Or.inl ⟨by rfl, ?_⟩) ?_ ?_ ?_
    rotate_left; · exact zqB
    rotate_left; · exact zqA
    refine zT 1 (some 36) #[zt, zt, zt, zf, zf, zt, zf, zt, zf, zf, zf] ?_ rfl rfl HT_ HW_ (Or.inl ⟨by rfl, ?_⟩) hHeld ?_ ?_ ?_
    rotate_left
    ·
     rintro w' ⟨s0, s1, s2, s3, s4⟩
     go_simp
     with_reducible rfl
    rotate_left; · exact zqA
    refine zP 3 (some 38) #[zt, zt, zt, zt, zf, zt, zf, zt, zf, zf, zf] ?_ rfl rfl HT_ (Or.inl ⟨by rfl, ?_⟩) ?_ ?_ ?_
    rotate_left; · exact zqB
    rotate_left; · exact zqA
    refine zT 4 (some 39) #[zt, zt, zt, zt, zt, zt, zf, zt, zf, zf, zf] ?_ rfl rfl HT_ HW_ (Or.inl ⟨by rfl, ?_⟩) hHeld ?_ ?_ ?_
    rotate_left
    ·
     rintro w' ⟨s0, s1, s2, s3, s4⟩
     go_simp
     with_reducible rfl
    rotate_left; · exact zqA
    refine zT 6 (some 41) #[zt, zt, zt, zt, zt, zt, zt, zt, zf, zf, zf] ?_ rfl rfl HT_ HW_ (Or.inl ⟨by rfl, ?_⟩) hHeld ?_ ?_ ?_
    rotate_left
    ·
     rintro w' ⟨s0, s1, s2, s3, s4⟩
     go_simp
     with_reducible rfl
    rotate_left; · exact zqA
    refine zP 8 (some 43) #[zt, zt, zt, zt, zt, zt, zt, zt, zt, zf, zf] ?_ rfl rfl HT_ (Or.inl ⟨by rfl, ?_⟩) ?_ ?_ ?_
    rotate_left; · exact zqB
    rotate_left; · exact zqA
    refine zT 9 (some 44) #[zt, zt, zt, zt, zt, zt, zt, zt, zt, zt, zf] ?_ rfl rfl HT_ HW_ (Or.inl ⟨by rfl, ?_⟩) hHeld ?_ ?_ ?_
    rotate_left
    ·
     rintro w' ⟨s0, s1, s2, s3, s4⟩
     go_simp
     with_reducible rfl
    rotate_left; · exact zqA
    refine zP 10 (some 45) #[zt, zt, zt, zt, zt, zt, zt, zt, zt, zt, zt] ?_ rfl rfl HT_ (Or.inl ⟨by rfl, ?_⟩) ?_ ?_ ?_
    rotate_left; · exact zqB
    rotate_left; · exact zqA
    refine done_ (done_of HT_.out (by kernel_rfl)) ?_
    try go_wp2
    go_roundg k2
    case measure => have := HK1.out; have := HK2.out; omega
    case rel => exact ⟨(x9_2), (wrap64 (x31_2 + 1)), (by first | rfl | (simp; done) | (simp [*]; done)), (by first | rfl | (simp; done) | (simp [*]; done)), H', ⟨by have := HK1.out; have := HK2.out; omega⟩, ⟨zqR HO_6.out⟩, ⟨by (with_reducible repeat (first | apply Kd.S_alloc | apply Kd.S_drewN | apply Kd.S_drew)); exact HO_20.out⟩, ⟨by (with_reducible repeat (first | refine blk_drewN ?_ _ | refine blk_drew ?_ | refine blk_alloc ?_ _)); exact BK320.out⟩, ⟨zq38⟩, ⟨zq15⟩⟩
   rw [if_pos c26] at H
   have c26b0 : decide ((rd l0_2 x9_2) < (rd l0_2 (rd (rd_L1 t325 x22_1) x31_2))) = true := decide_eq_true c26
   clear c26
   have H' := Aside0.mk H
   clear H
   have p330 : 0 ≤ (x31_2 : Int) := of_decide_eq_true zq2
   have q330 : x31_2 < ((rd_L1 t325 x22_1).length : Int) := of_decide_eq_true zq2
   obtain ⟨ad330, e330, hx330_0⟩ := Kd.at_int HR328_0.out x31_2 p330 q330
   obtain rfl : ad329 = ad330 := (by injection e330)
   (try replace hx330_0 := bx HB.out hx330_0)
   replace p330 := eq_true p330
   replace q330 := eq_true q330
   try go_wp2
   have n0_ := Aside0.mk (Kd.R_drew HO_6.out)
   have n1_ := Aside0.mk (Kd.S_drew HO_20.out)
   have n2_ := Aside0.mk (blk_drew BK320.out)
   have n3_ := Aside0.mk (Kd.C_drew HR328_0.out)
   have n4_ := Aside0.mk (below_drew1 HB.out)
   clear HO_6
   clear HO_20
   clear BK320
   clear HR328_0
   clear HB
   have HO_6 := n0_
   have HO_20 := n1_
   have BK320 := n2_
   have HR328_0 := n3_
   have HB := n4_
   clear n0_ n1_ n2_ n3_ n4_
   have p331 : 0 ≤ ((rd (rd_L1 t325 x22_1) x31_2) : Int) := of_decide_eq_true zq2
   have q331 : (rd (rd_L1 t325 x22_1) x31_2) < (l0_2.length : Int) := of_decide_eq_true zq2
   obtain ⟨ad331, e331, hx331_0⟩ := Kd.at_int HR0_2.out (rd (rd_L1 t325 x22_1) x31_2) p331 q331
   have hw331_0 := hx331_0
   cases e331
   (try replace hx331_0 := bx HB.out hx331_0)
   replace p331 := eq_true p331
   replace q331 := eq_true q331
   have p332 : 0 ≤ (x9_2 : Int) := of_decide_eq_true zq2
   have q332 : x9_2 < (l0_2.length : Int) := of_decide_eq_true zq2
   obtain ⟨ad332, e332, hx332_0⟩ := Kd.at_int HR0_2.out x9_2 p332 q332
   have hw332_0 := hx332_0
   obtain rfl : ad331 = ad332 := (by injection e332)
   (try replace hx332_0 := bx HB.out hx332_0)
   replace p332 := eq_true p332
   replace q332 := eq_true q332
   refine start_ (n := 11) (S := fun w' => w'.cell? ⟨gb320, 0, none⟩ = some (.int .i64 a0_0) ∧ w'.cell? ⟨gb320, 1, none⟩ = some (.int .i64 a0_1) ∧ w'.cell? ⟨gb320, 2, none⟩ = some (.slice (some ad331) l0_2.length c0_2) ∧ w'.cell? (ad331.add ((rd (rd_L1 t325 x22_1) x31_2)).toNat) = some (.int .i64 (rd l0_2 (rd (rd_L1 t325 x22_1) x31_2))) ∧ w'.cell? (ad331.add (x9_2).toNat) = some (.int .i64 (rd l0_2 x9_2))) (ds := []) #[false, false, false, false, false, false, false, false, false, false, false] (by kernel_rfl) rfl rfl ⟨(blk_cell BK320.out 0).trans rfl, (blk_cell BK320.out 1).trans rfl, (blk_cell BK320.out 2).trans rfl, ((HB.out.cell (World.block_lt_of_cell? w _ hw331_0)).trans hw331_0), ((HB.out.cell (World.block_lt_of_cell? w _ hw332_0)).trans hw332_0)⟩ (fun hHeld => ?_); refine with_tabW impl_StormsOf.tab11 impl_StormsOf.bits11 (fun HT_ HW_ => ?_)
   generalize wr.drew = w27 at HO_6 HO_20 BK320 HR328_0 HB hx331_0 hx332_0 hHeld ⊢
   refine zP 0 (some 35) #[zt, zf, zf, zf, zf, zf, zf, zf, zf, zf, zf] ?_ rfl rfl HT_ (Or.inl ⟨by rfl, ?_⟩) ?_ ?_ ?_
   rotate_left; · exact zqB
   rotate_left; · exact zqA
   refine zP 2 (some 37) #[zt, zf, zt, zf, zf, zf, zf, zf, zf, zf, zf] ?_ rfl rfl HT_ (Or.inl ⟨by rfl, ?_⟩) ?_ ?_ ?_
   rotate_left; · exact zqB
   rotate_left; · exact zqA
   refine zP 5 (some 40) #[zt, zf, zt, zf, zf, zt, zf, zf, zf, zf, zf] ?_ rfl rfl HT_ (Or.inl ⟨by rfl, ?_⟩) ?_ ?_ ?_
   rotate_left; · exact zqB
   rotate_left; · exact zqA
   refine zP 7 (some 42) #[zt, zf, zt, zf, zf, zt, zf, zt, zf, zf, zf] ?_ rfl rfl HT_ (Or.inl ⟨by rfl, ?_⟩) ?_ ?_ ?_
   rotate_left; · exact zqB
   rotate_left; · exact zqA
   refine zT 1 (some 36) #[zt, zt, zt, zf, zf, zt, zf, zt, zf, zf, zf] ?_ rfl rfl HT_ HW_ (Or.inl ⟨by rfl, ?_⟩) hHeld ?_ ?_ ?_
   rotate_left
   ·
    rintro w' ⟨s0, s1, s2, s3, s4⟩
    go_simp
    with_reducible rfl
   rotate_left; · exact zqA
   refine zP 3 (some 38) #[zt, zt, zt, zt, zf, zt, zf, zt, zf, zf, zf] ?_ rfl rfl HT_ (Or.inl ⟨by rfl, ?_⟩) ?_ ?_ ?_
   rotate_left; · exact zqB
   rotate_left; · exact zqA
   refine zT 4 (some 39) #[zt, zt, zt, zt, zt, zt, zf, zt, zf, zf, zf] ?_ rfl rfl HT_ HW_ (Or.inl ⟨by rfl, ?_⟩) hHeld ?_ ?_ ?_
   rotate_left
   ·
    rintro w' ⟨s0, s1, s2, s3, s4⟩
    go_simp
    with_reducible rfl
   rotate_left; · exact zqA
   refine zT 6 (some 41) #[zt, zt, zt, zt, zt, zt, zt, zt, zf, zf, zf] ?_ rfl rfl HT_ HW_ (Or.inl ⟨by rfl, ?_⟩) hHeld ?_ ?_ ?_
   rotate_left
   ·
    rintro w' ⟨s0, s1, s2, s3, s4⟩
    go_simp
    with_reducible rfl
   rotate_left; · exact zqA
   refine zP 8 (some 43) #[zt, zt, zt, zt, zt, zt, zt, zt, zt, zf, zf] ?_ rfl rfl HT_ (Or.inl ⟨by rfl, ?_⟩) ?_ ?_ ?_
   rotate_left; · exact zqB
   rotate_left; · exact zqA
   refine zT 9 (some 44) #[zt, zt, zt, zt, zt, zt, zt, zt, zt, zt, zf] ?_ rfl rfl HT_ HW_ (Or.inl ⟨by rfl, ?_⟩) hHeld ?_ ?_ ?_
   rotate_left
   ·
    rintro w' ⟨s0, s1, s2, s3, s4⟩
    go_simp
    with_reducible rfl
   rotate_left; · exact zqA
   refine zP 10 (some 45) #[zt, zt, zt, zt, zt, zt, zt, zt, zt, zt, zt] ?_ rfl rfl HT_ (Or.inl ⟨by rfl, ?_⟩) ?_ ?_ ?_
   rotate_left; · exact zqB
   rotate_left; · exact zqA
   refine done_ (done_of HT_.out (by kernel_rfl)) ?_
   try go_wp2
   go_roundg k2
   case measure => have := HK1.out; have := HK2.out; omega
   case rel => exact ⟨(rd (rd_L1 t325 x22_1) x31_2), (wrap64 (x31_2 + 1)), (by first | rfl | (simp; done) | (simp [*]; done)), (by first | rfl | (simp; done) | (simp [*]; done)), H', ⟨by have := HK1.out; have := HK2.out; omega⟩, ⟨zqR HO_6.out⟩, ⟨by (with_reducible repeat (first | apply Kd.S_alloc | apply Kd.S_drewN | apply Kd.S_drew)); exact HO_20.out⟩, ⟨by (with_reducible repeat (first | refine blk_drewN ?_ _ | refine blk_drew ?_ | refine blk_alloc ?_ _)); exact BK320.out⟩, ⟨zq38⟩, ⟨zq15⟩⟩
def laws_vBig.f (l0 : List Int) : Option (Bool) := some (decide ((l0.length : Int) > 65536))
set_option maxHeartbeats 8000000 in
set_option maxRecDepth 100000 in
theorem laws_vBig.calls (A0 : Option Addr) (c0 : Nat) (l0 : List Int) (r : Bool) (w : World) (hr0 : Kd.C (Kd.int .u8) w A0 l0.length l0) (hc0 : l0.length ≤ c0) (h : laws_vBig.f l0 = some r) :
  Calls Try.prog 14 #[.slice A0 l0.length c0] w fun e w' => e = .returned (.bool r) ∧ Drawn0 w w' := by
 have HR0 := Aside0.mk hr0
 have HC0 := Aside0.mk hc0
 clear hr0 hc0
 have H : (some (decide ((l0.length : Int) > 65536))) = some r := h
 clear h
 obtain rfl := Option.some.inj H
 go_enter Try.func14, Try.ntmps14
 go_wp2
 go_ret
 exact ⟨by first | rfl | (simp; done) | (simp [*]; done), zq19⟩
end Go.Proofs.Ytpdeapefekbdpaa.Q
