/- Texts of this seat, put together: Qf41, Qf11, Qf48, Qf64, Qf42, Qf38, Qf55, Qf74, Qf71, Qf59. -/
import Derived.Test.YtjidofgojijolaaBFnExactBestTracking0
namespace Go.Proofs.Ytjidofgojijolaa.Q
open Go.RowKit Go.Proofs.YtjidofgojijolaaW.PrintWords Go.Proofs.YtjidofgojijolaaW.PrintLast Go.Proofs.YtjidofgojijolaaW.PrintMore
attribute [local go_sem] max2_int min2_int max_two min_two max_three min_three max_four min_four   -- for this text's walks alone
set_option linter.unusedVariables false
set_option linter.unusedSimpArgs false

/-! ### impl_bestTracking: function 41 -/
-- called: 36 63 44
def impl_bestTracking.c.T8 : Bool × List (List Nat × List Nat) := (true, [([], []), ([], []), ([1], [1]), ([], []), ([3], [3]), ([2, 4, 2], [2, 4]), ([0, 5, 5], [0, 5])])
def impl_bestTracking.c.B8 : List Nat := [0, 0, 2, 0, 8, 30, 63]
theorem impl_bestTracking.c.tab8 : rtab .any (opsOf Try.f62 8) = impl_bestTracking.c.T8 := by kernel_rfl
theorem impl_bestTracking.c.bits8 : waitsOk impl_bestTracking.c.T8.2 impl_bestTracking.c.B8 = true := by kernel_rfl
def impl_bestTracking.d.T6 : Bool × List (List Nat × List Nat) := (true, [([], []), ([], []), ([0, 0], [0]), ([1, 2, 0, 1, 2], [1])])
def impl_bestTracking.d.B6 : List Nat := [0, 0, 1, 7]
theorem impl_bestTracking.d.tab6 : rtab .any (opsOf Try.f41 6) = impl_bestTracking.d.T6 := by kernel_rfl
theorem impl_bestTracking.d.bits6 : waitsOk impl_bestTracking.d.T6.2 impl_bestTracking.d.B6 = true := by kernel_rfl
/-- One way on from a tracking behind the other: -1 first, then each place that is not in it. -/
def btL (f : List Int → List Int × Int → Option (List Int × Int)) (tr : List Int) : Nat → Nat → List Int × Int → Option (List Int × Int)
 | 0, _, s => some s
 | d + 1, i, s => if (i : Int) - 1 < 0 ∨ ¬ ((i : Int) - 1 ∈ tr) then (f (tr ++ [(i : Int) - 1]) s).bind fun s' => btL f tr d (i + 1) s' else btL f tr d (i + 1) s
def btF (c : List Int → Option Int) (nb : Nat) : Nat → List Int → List Int × Int → Option (List Int × Int)
 | 0, tr, s => (c tr).bind fun x => some (if s.2 < 0 ∨ x < s.2 then (tr, x) else s)
 | n + 1, tr, s => btL (btF c nb n) tr (nb + 1) 0 s
theorem btL_mono {f g : List Int → List Int × Int → Option (List Int × Int)} (h : ∀ t s, LeO (f t s) (g t s)) (tr : List Int) : ∀ d i s, LeO (btL f tr d i s) (btL g tr d i s)
 | 0, _, _ => LeO.refl _
 | d + 1, i, s => by
  unfold btL
  split
  ·
   exact LeO.bind (h _ _) (fun _ => btL_mono h tr d _ _)
  ·
   exact btL_mono h tr d _ _
theorem btF_mono {c e : List Int → Option Int} (h : ∀ t, LeO (c t) (e t)) (nb : Nat) : ∀ n tr s, LeO (btF c nb n tr s) (btF e nb n tr s)
 | 0, tr, s => LeO.bind (h tr) (fun _ => LeO.refl _)
 | n + 1, tr, s => btL_mono (fun t s => btF_mono h nb n t s) tr _ _ _
def impl_bestTracking.f (k : Nat) (l0 l1 : List S71) (a2 : Int) : Option (List Int × Int) := if l0.length ≤ 5 ∧ l1.length ≤ 5 then btF (fun t => impl_trackingCost.f k l0 l1 t a2) l1.length l0.length [] ([], -1) else none
theorem impl_bestTracking.mono : ∀ a0 a1 a2 k, LeO (impl_bestTracking.f k a0 a1 a2) (impl_bestTracking.f (k + 1) a0 a1 a2) := fun a b c k => by
 unfold impl_bestTracking.f
 split
 ·
  exact btF_mono (fun t => impl_trackingCost.mono _ _ _ _ k) _ _ _ _
 ·
  exact LeO.refl _
theorem C_blkI {w W : World} {A : Option Addr} {n : Nat} {xs : List Int} (h : Kd.C (Kd.int .i64) w A n xs) (hb : ∀ ad, A = some ad → 0 < n → W.heap[ad.block]? = w.heap[ad.block]?) : Kd.C (Kd.int .i64) W A n xs := by
 have h' := Kd.reads_of_C (d := 0) h
 refine Kd.C_of_reads (d := 0) ⟨h'.1, h'.2.1, fun hn => ?_⟩
 obtain ⟨ad, e, hc⟩ := h'.2.2 hn
 have e2 : ∀ j, (ad.add j).block = ad.block := fun j => by unfold Addr.add; cases ad; first | rfl | (split <;> rfl)
 exact ⟨ad, e, fun j hj => (World.cell?_of_block (a := ad.add j) (by rw [e2]; exact hb ad e hn)).trans (hc j hj)⟩
theorem C_ltI {w : World} {A : Option Addr} {n : Nat} {xs : List Int} (h : Kd.C (Kd.int .i64) w A n xs) (ad : Addr) (e : A = some ad) (hn : 0 < n) : ad.block < w.heap.size := by
 have h' := Kd.reads_of_C (d := 0) h
 obtain ⟨ad', e', hc⟩ := h'.2.2 hn
 have : ad' = ad := Option.some.inj (e'.symm.trans e)
 subst this
 have e2 : (ad'.add 0).block = ad'.block := by unfold Addr.add; cases ad'; first | rfl | (split <;> rfl)
 rw [← e2]
 exact World.block_lt_of_cell? w _ (hc 0 hn)
/-- What the boxes of the best tracking and of its cost hold. -/
def ST (W : World) (B Bs Bl : Nat) (v : Value) (s : List Int × Int) : Prop := W.heap[Bs]? = some (.cells #[v] 25 (0, 0)) ∧ W.heap[Bl]? = some (.cells #[.int .i64 s.2] 3 (0, 0)) ∧ Kd.R (Kd.int .i64) 3 W B (fun q => B ≤ q) v s.1
theorem ST.below {W W' : World} {B Bs Bl : Nat} {v : Value} {s : List Int × Int} (h : ST W B Bs Bl v s) (hb : Below W.heap.size W W') : ST W' B Bs Bl v s := ⟨blk_below h.1 hb, blk_below h.2.1 hb, Kd.R_below h.2.2 hb⟩
theorem repsOne {w : World} {b : Nat} {ok : Nat → Prop} (x : Int) : Reps ((Kd.int .i64).M w b ok) (Kd.int .i64).sz [x] [.int .i64 x] := Kd.reps_scalar (enc := Value.int .i64) [x]
theorem C_keepI {w W : World} {A : Option Addr} {n : Nat} {xs : List Int} (h : Kd.C (Kd.int .i64) w A n xs) (hb : Below w.heap.size w W) : Kd.C (Kd.int .i64) W A n xs := Kd.C_below h hb
def Two (Bs Bl : Nat) (q : Nat) : Prop := q = Bs ∨ q = Bl
theorem keptT {w W : World} {S : Nat → Prop} (h : Kept w W S) {g : Nat} (hg : S g) (v : Value) : Kept w (W.setCell ⟨g, 0, none⟩ v) S :=
 ⟨by rw [show (W.setCell ⟨g, 0, none⟩ v).heap.size = W.heap.size by simp [World.setCell]]; exact h.1, fun k hk hn => (Below.heap_setCell W ⟨g, 0, none⟩ v k (fun e => hn (by rw [e]; exact hg))).trans (h.2 k hk hn)⟩
/-- A call of a function value that lies in a temporary. -/
theorem goesV_ {P : Program} {ops : Array Oper} {Q : Exit → Act → World → Prop} {oi : Oper} {N : Option Tmp} {a : Act} {w : World} {K : Act → World → Prop} {f : FuncId} {t : Operand} {os_ : Array Operand} {ts : Array TypeId} {lb : Array Value} (eg : ∀ args w, (callFunc f args).run P w = .ok (.enter f args) w) (args : Array Value)
  (hw : Region.wanted oi (yielded ops a.tmps) = true) (hN : oi.dst = N) (hop : oi.op = .call { callee := .value t, args := os_, argTypes := ts }) (ht : a.eval t = .func (.func f) #[] lb) (hargs : os_.map a.eval ++ lb = args)
  (h : Calls P f args w fun e w' => ∃ v, e = .returned v ∧ K (a.put N v) w') : if Region.wanted oi (yielded ops a.tmps) = true then Oper.wp P oi a w K Q else K (a.put N undef) w := by
 refine call_ f args hw hN ?_ h
 unfold execOp
 simp [hop, resolve, Deferred.ofValue, invoke, ht, hargs, eg]
set_option maxHeartbeats 4000000 in
set_option maxRecDepth 100000 in
theorem impl_bestTracking.ext (k : Nat) (l0 l1 : List S71) (a2 : Int) (A0 A1 : Option Addr) (c0 c1 : Nat) (w0 W1 : World) (Ba Bb Bp Bs Bl Be : Nat) (lb : Array Value)
  (hlb : lb = #[.pointer (some ⟨Ba, 0, none⟩), .pointer (some ⟨Bb, 0, none⟩), .pointer (some ⟨Bp, 0, none⟩), .pointer (some ⟨Bl, 0, none⟩), .pointer (some ⟨Bs, 0, none⟩), .pointer (some ⟨Be, 0, none⟩)])
  (hA : W1.heap[Ba]? = some (.cells #[.slice A0 l0.length c0] 24 (0, 0))) (hBb : W1.heap[Bb]? = some (.cells #[.slice A1 l1.length c1] 24 (0, 0)))
  (hP : W1.heap[Bp]? = some (.cells #[.int .i64 a2] 3 (0, 0))) (hE : W1.heap[Be]? = some (.cells #[.func (.func 62) #[] lb] 89 (0, 0)))
  (hd : Ba ≠ Bs ∧ Ba ≠ Bl ∧ Bb ≠ Bs ∧ Bb ≠ Bl ∧ Bp ≠ Bs ∧ Bp ≠ Bl ∧ Be ≠ Bs ∧ Be ≠ Bl ∧ Bs ≠ Bl) (hg : w0.heap.size ≤ Bs ∧ w0.heap.size ≤ Bl) (hlt : Bs < W1.heap.size ∧ Bl < W1.heap.size) (hl : l0.length ≤ 5 ∧ l1.length ≤ 5)
  (hr0 : Kd.C k71 w0 A0 l0.length l0) (hc0 : l0.length ≤ c0) (hr1 : Kd.C k71 w0 A1 l1.length l1) (hc1 : l1.length ≤ c1) :
  ∀ (n : Nat) (tr : List Int) (At : Option Addr) (ct : Nat) (W : World) (v : Value) (s r : List Int × Int), l0.length = tr.length + n → Kd.C (Kd.int .i64) W At tr.length tr → tr.length ≤ ct → (∀ ad, At = some ad → 0 < tr.length → ad.block ≠ Bs ∧ ad.block ≠ Bl) →
   Below w0.heap.size w0 W → Kept W1 W (Two Bs Bl) → ST W W1.heap.size Bs Bl v s → btF (fun t => impl_trackingCost.f k l0 l1 t a2) l1.length n tr s = some r →
   Calls Try.prog 62 #[.slice At tr.length ct, .pointer (some ⟨Ba, 0, none⟩), .pointer (some ⟨Bb, 0, none⟩), .pointer (some ⟨Bp, 0, none⟩), .pointer (some ⟨Bl, 0, none⟩), .pointer (some ⟨Bs, 0, none⟩), .pointer (some ⟨Be, 0, none⟩)] W fun e w' => e = .returned (.tuple #[]) ∧ Below w0.heap.size w0 w' ∧ Kept W w' (Two Bs Bl) ∧ ∃ v', ST w' W1.heap.size Bs Bl v' r := by
 subst hlb
 have eg : ∀ args w, (callFunc 62 args).run Try.prog w = .ok (.enter 62 args) w := enters_of Try.func62 (by kernel_rfl) rfl
 have EG := Aside0.mk eg
 clear eg
 have env : ∀ W, Kept W1 W (Two Bs Bl) → W.heap[Ba]? = some (.cells #[.slice A0 l0.length c0] 24 (0, 0)) ∧ W.heap[Bb]? = some (.cells #[.slice A1 l1.length c1] 24 (0, 0)) ∧ W.heap[Bp]? = some (.cells #[.int .i64 a2] 3 (0, 0)) ∧ W.heap[Be]? = some (.cells #[.func (.func 62) #[] #[.pointer (some ⟨Ba, 0, none⟩), .pointer (some ⟨Bb, 0, none⟩), .pointer (some ⟨Bp, 0, none⟩), .pointer (some ⟨Bl, 0, none⟩), .pointer (some ⟨Bs, 0, none⟩), .pointer (some ⟨Be, 0, none⟩)]] 89 (0, 0)) := fun W hk =>
  ⟨(hk.2 Ba (blk_lt hA) (fun e => e.elim hd.1 hd.2.1)).trans hA, (hk.2 Bb (blk_lt hBb) (fun e => e.elim hd.2.2.1 hd.2.2.2.1)).trans hBb, (hk.2 Bp (blk_lt hP) (fun e => e.elim hd.2.2.2.2.1 hd.2.2.2.2.2.1)).trans hP, (hk.2 Be (blk_lt hE) (fun e => e.elim hd.2.2.2.2.2.2.1 hd.2.2.2.2.2.2.2.1)).trans hE⟩
 have ENV := Aside0.mk env
 have HD := Aside0.mk hd
 have HG := Aside0.mk hg
 have HLT := Aside0.mk hlt
 have HL := Aside0.mk hl
 have HR0 := Aside0.mk hr0
 have HC0 := Aside0.mk hc0
 have HR1 := Aside0.mk hr1
 have HC1 := Aside0.mk hc1
 clear env hd hg hlt hr0 hc0 hr1 hc1 hA hBb hP hE
 intro n
 induction n with
 | zero =>
  intro tr At ct W v s r hn hC hct hne hB hK hS h
  obtain ⟨eA, eB, eP, eE⟩ := ENV.out W hK
  have cA : W.cell? ⟨Ba, 0, none⟩ = some (.slice A0 l0.length c0) := blk_cell eA 0
  have cB : W.cell? ⟨Bb, 0, none⟩ = some (.slice A1 l1.length c1) := blk_cell eB 0
  have cP : W.cell? ⟨Bp, 0, none⟩ = some (.int .i64 a2) := blk_cell eP 0
  have HCt := Aside0.mk hC
  have Hct := Aside0.mk hct
  have HB := Aside0.mk hB
  have HK := Aside0.mk hK
  have HS := Aside0.mk hS
  unfold btF at h
  obtain ⟨x, hx, h⟩ := Option.bind_eq_some_iff.1 h
  have HX := Aside0.mk hx
  have HR := Aside0.mk (Option.some.inj h)
  have hz1 : ((tr.length : Int) == (l0.length : Int)) = true := beq_iff_eq.2 (by omega)
  have hz2 : decide ((tr.length : Int) = (l0.length : Int)) = true := decide_eq_true (by omega)
  have hz3 : ((tr.length : Int) = (l0.length : Int)) = True := eq_true (by omega)
  have hbig : tr.length < 17592186044416 := by have := HL.out; omega
  have HBIG := Aside0.mk hbig
  clear eA eB eP eE hC hct hne hB hK hS hx h hn hbig hl
  show Calls Try.prog 62 #[.slice At tr.length ct, .pointer (some ⟨Ba, 0, none⟩), .pointer (some ⟨Bb, 0, none⟩), .pointer (some ⟨Bp, 0, none⟩), .pointer (some ⟨Bl, 0, none⟩), .pointer (some ⟨Bs, 0, none⟩), .pointer (some ⟨Be, 0, none⟩)] W _
  go_enter Try.func62, Try.ntmps62
  go_wp2_with fail
  refine (impl_trackingCost.calls k A0 c0 l0 A1 c1 l1 At ct tr a2 x _ (Kd.C_below HR0.out HB.out) HC0.out (Kd.C_below HR1.out HB.out) HC1.out HCt.out Hct.out HX.out).mono ?_
  rintro e w1 ⟨rfl, hb⟩
  have HS1 := Aside0.mk (HS.out.below hb)
  have HB1 := Aside0.mk (HB.out.trans (hb.mono HB.out.size))
  have HK1 := Aside0.mk (Kept.of_below hb (Two Bs Bl))
  have HC1t := Aside0.mk (Kd.C_below HCt.out hb)
  have cl : w1.cell? ⟨Bl, 0, none⟩ = some (.int .i64 s.2) := blk_cell HS1.out.2.1 0
  clear hb cA cB cP
  by_cases k1 : s.2 < 0
  ·
   have k1a : (s.2 < 0) = True := eq_true k1
   have k1b : decide (s.2 < 0) = true := decide_eq_true k1
   go_wp2_with fail
   refine (slices_Clone_int_int.calls At ct tr tr _ HC1t.out Hct.out (if_pos HBIG.out)).mono ?_
   rintro e w2 ⟨v2, rfl, ho2, hb2⟩
   have HS2 := Aside0.mk (HS1.out.below hb2)
   have HB2 := Aside0.mk (HB1.out.trans (hb2.mono HB1.out.size))
   have HK2 := Aside0.mk (Kept.then_ (S := Two Bs Bl) HK1.out (Kept.of_below hb2 (fun _ => False)) (fun _ h => h.elim))
   have hW1 : W1.heap.size ≤ w1.heap.size := Nat.le_trans HK.out.1 HK1.out.1
   have HO2 := Aside0.mk (Kd.R_lower (Kd.R_mono (Kd.R_bound ho2) (ok' := fun q => W1.heap.size ≤ q) (fun q hq => Nat.le_trans hW1 hq.2.1)) hW1)
   have g1 : w2.cell? ⟨Bs, 0, none⟩ = some v := blk_cell HS2.out.1 0
   have g2 : w2.frozen? ⟨Bs, 0, none⟩ = false := blk_frozen HS2.out.1 0
   have g3 : ∀ u, (w2.setCell ⟨Bs, 0, none⟩ u).cell? ⟨Bl, 0, none⟩ = some (.int .i64 s.2) := fun u => blk_cell (blk_far HS2.out.2.1 (fun e => HD.out.2.2.2.2.2.2.2.2 e.symm) u) 0
   have g4 : ∀ u, (w2.setCell ⟨Bs, 0, none⟩ u).frozen? ⟨Bl, 0, none⟩ = false := fun u => blk_frozen (blk_far HS2.out.2.1 (fun e => HD.out.2.2.2.2.2.2.2.2 e.symm) u) 0
   have g5 : w2.cell? ⟨Bl, 0, none⟩ = some (.int .i64 s.2) := blk_cell HS2.out.2.1 0
   have g6 : w2.frozen? ⟨Bl, 0, none⟩ = false := blk_frozen HS2.out.2.1 0
   have hv2 : v2.oneCell' = true := by obtain ⟨A', c', rfl⟩ := Kd.R_slice HO2.out; rfl
   obtain ⟨A2', c2', ev2⟩ := Kd.R_slice HO2.out
   subst ev2
   clear ho2 hb2 hW1 hv2
   go_wp2
   (try simp only [Exit.inBlock, Exit.then]); refine bodyPost_ret (results_none rfl _ _ _) rfl ?_
   rw [← HR.out]
   have lt1 := HLT.out
   have b1 := blk_put HS2.out.1 0 (.slice A2' tr.length c2') (cs' := #[.slice A2' tr.length c2']) rfl
   have b2 := blk_far HS2.out.2.1 (p := ⟨Bs, 0, none⟩) (fun e => HD.out.2.2.2.2.2.2.2.2 e.symm) (.slice A2' tr.length c2')
   have r1 := Kd.R_far HO2.out (p := ⟨Bs, 0, none⟩) (fun q hq => by show q ≠ Bs; omega) (.slice A2' tr.length c2')
   refine ⟨rfl, (HB2.out.setCell (p := ⟨Bs, 0, none⟩) HG.out.1 _).setCell (p := ⟨Bl, 0, none⟩) HG.out.2 _, keptT (keptT HK2.out (.inl rfl) _) (.inr rfl) _, .slice A2' tr.length c2', ?_⟩
   rw [if_pos (.inl k1)]
   exact ⟨blk_far b1 (p := ⟨Bl, 0, none⟩) HD.out.2.2.2.2.2.2.2.2 _, blk_put b2 0 (.int .i64 x) rfl, Kd.R_far r1 (p := ⟨Bl, 0, none⟩) (fun q hq => by show q ≠ Bl; omega) _⟩
  ·
   have k1a : (s.2 < 0) = False := eq_false k1
   have k1b : decide (s.2 < 0) = false := decide_eq_false k1
   by_cases k2 : x < s.2
   ·
    have k2a : (x < s.2) = True := eq_true k2
    have k2b : decide (x < s.2) = true := decide_eq_true k2
    go_wp2_with fail
    refine (slices_Clone_int_int.calls At ct tr tr _ HC1t.out Hct.out (if_pos HBIG.out)).mono ?_
    rintro e w2 ⟨v2, rfl, ho2, hb2⟩
    have HS2 := Aside0.mk (HS1.out.below hb2)
    have HB2 := Aside0.mk (HB1.out.trans (hb2.mono HB1.out.size))
    have HK2 := Aside0.mk (Kept.then_ (S := Two Bs Bl) HK1.out (Kept.of_below hb2 (fun _ => False)) (fun _ h => h.elim))
    have hW1 : W1.heap.size ≤ w1.heap.size := Nat.le_trans HK.out.1 HK1.out.1
    have HO2 := Aside0.mk (Kd.R_lower (Kd.R_mono (Kd.R_bound ho2) (ok' := fun q => W1.heap.size ≤ q) (fun q hq => Nat.le_trans hW1 hq.2.1)) hW1)
    have g1 : w2.cell? ⟨Bs, 0, none⟩ = some v := blk_cell HS2.out.1 0
    have g2 : w2.frozen? ⟨Bs, 0, none⟩ = false := blk_frozen HS2.out.1 0
    have g3 : ∀ u, (w2.setCell ⟨Bs, 0, none⟩ u).cell? ⟨Bl, 0, none⟩ = some (.int .i64 s.2) := fun u => blk_cell (blk_far HS2.out.2.1 (fun e => HD.out.2.2.2.2.2.2.2.2 e.symm) u) 0
    have g4 : ∀ u, (w2.setCell ⟨Bs, 0, none⟩ u).frozen? ⟨Bl, 0, none⟩ = false := fun u => blk_frozen (blk_far HS2.out.2.1 (fun e => HD.out.2.2.2.2.2.2.2.2 e.symm) u) 0
    have g5 : w2.cell? ⟨Bl, 0, none⟩ = some (.int .i64 s.2) := blk_cell HS2.out.2.1 0
    have g6 : w2.frozen? ⟨Bl, 0, none⟩ = false := blk_frozen HS2.out.2.1 0
    have hv2 : v2.oneCell' = true := by obtain ⟨A', c', rfl⟩ := Kd.R_slice HO2.out; rfl
    obtain ⟨A2', c2', ev2⟩ := Kd.R_slice HO2.out
    subst ev2
    clear ho2 hb2 hW1 hv2
    go_wp2
    (try simp only [Exit.inBlock, Exit.then]); refine bodyPost_ret (results_none rfl _ _ _) rfl ?_
    rw [← HR.out]
    have lt1 := HLT.out
    have b1 := blk_put HS2.out.1 0 (.slice A2' tr.length c2') (cs' := #[.slice A2' tr.length c2']) rfl
    have b2 := blk_far HS2.out.2.1 (p := ⟨Bs, 0, none⟩) (fun e => HD.out.2.2.2.2.2.2.2.2 e.symm) (.slice A2' tr.length c2')
    have r1 := Kd.R_far HO2.out (p := ⟨Bs, 0, none⟩) (fun q hq => by show q ≠ Bs; omega) (.slice A2' tr.length c2')
    refine ⟨rfl, (HB2.out.setCell (p := ⟨Bs, 0, none⟩) HG.out.1 _).setCell (p := ⟨Bl, 0, none⟩) HG.out.2 _, keptT (keptT HK2.out (.inl rfl) _) (.inr rfl) _, .slice A2' tr.length c2', ?_⟩
    rw [if_pos (.inr k2)]
    exact ⟨blk_far b1 (p := ⟨Bl, 0, none⟩) HD.out.2.2.2.2.2.2.2.2 _, blk_put b2 0 (.int .i64 x) rfl, Kd.R_far r1 (p := ⟨Bl, 0, none⟩) (fun q hq => by show q ≠ Bl; omega) _⟩
   ·
    have k2a : (x < s.2) = False := eq_false k2
    have k2b : decide (x < s.2) = false := decide_eq_false k2
    go_wp2
    (try simp only [Exit.inBlock, Exit.then]); refine bodyPost_ret (results_none rfl _ _ _) rfl ?_
    rw [← HR.out, if_neg (fun e => e.elim (fun q => by omega) (fun q => by omega))]
    exact ⟨rfl, HB1.out, HK1.out, v, HS1.out⟩
 | succ n ih =>
  intro tr At ct W v s r hn hC hct hne hB hK hS h
  have hbig : tr.length < 17592186044416 := by have := HL.out; omega
  have HBIG := Aside0.mk hbig
  have HN := Aside0.mk hn
  have HCt := Aside0.mk hC
  have Hct := Aside0.mk hct
  have HNE := Aside0.mk hne
  have HB := Aside0.mk hB
  have HK := Aside0.mk hK
  have HS := Aside0.mk hS
  unfold btF at h
  have HH := Aside0.mk h
  have cA : W.cell? ⟨Ba, 0, none⟩ = some (.slice A0 l0.length c0) := blk_cell (ENV.out W hK).1 0
  have hz1 : ((tr.length : Int) == (l0.length : Int)) = false := beq_eq_false_iff_ne.2 (by omega)
  have hz2 : decide ((tr.length : Int) = (l0.length : Int)) = false := decide_eq_false (by omega)
  have hz3 : ((tr.length : Int) = (l0.length : Int)) = False := eq_false (by omega)
  have hl1 : l1.length ≤ 5 := HL.out.2
  have KC : ∀ W', Kept W W' (Two Bs Bl) → Kd.C (Kd.int .i64) W' At tr.length tr := fun W' hk => C_blkI HCt.out (fun ad e hp => hk.2 ad.block (C_ltI HCt.out ad e hp) (fun q => q.elim (HNE.out ad e hp).1 (HNE.out ad e hp).2))
  have HKC := Aside0.mk KC
  clear hbig hn hC hct hne hB hK hS h KC hl
  go_enter Try.func62, Try.ntmps62
  go_wp2_with fail
  clear cA
  go_loopg [9, 30, 31, 32, 33, 34, 35, 36, 37, 38, 39, 40, 41, 42, 43, 44, 45, 46, 47, 48, 49, 50] (l1.length + 1) (fun gg s9 _ _ _ _ _ _ _ _ _ _ _ _ _ _ _ _ _ _ _ _ _ wr => ∃ (i : Nat) (v' : Value) (s' : List Int × Int), i ≤ l1.length + 1 ∧ l1.length + 1 - i ≤ gg ∧ s9 = .int .i64 ((i : Int) - 1) ∧ Aside0 (Below w0.heap.size w0 wr) ∧ Aside0 (Kept W wr (Two Bs Bl)) ∧ Aside0 (ST wr W1.heap.size Bs Bl v' s') ∧ Aside0 (btL (btF (fun t => impl_trackingCost.f k l0 l1 t a2) l1.length n) tr (l1.length + 1 - i) i s' = some r))
  case atStart => exact ⟨0, v, s, by omega, by omega, by go_num, HB, ⟨Kept.refl _ _⟩, HS, HH⟩
  case round =>
   obtain ⟨i, v', s', hi, hgg, rfl, HBr, HKr, HSr, HTr⟩ := hrel
   have HKr1 := Aside0.mk (Kept.then_ (S := Two Bs Bl) HK.out HKr.out (fun _ h => .inl h))
   have cB : wr.cell? ⟨Bb, 0, none⟩ = some (.slice A1 l1.length c1) := blk_cell (ENV.out wr HKr1.out).2.1 0
   by_cases hlt : i < l1.length + 1
   ·
    have hltz : ((i : Int) - 1 < (l1.length : Int)) = True := eq_true (by omega)
    obtain ⟨d, hd⟩ : ∃ d, l1.length + 1 - i = d + 1 := ⟨l1.length - i, by omega⟩
    have HT0 := HTr.out
    rw [hd] at HT0
    unfold btL at HT0
    have cE0 := blk_cell (ENV.out wr HKr1.out).2.2.2 0
    have cE : wr.cell? ⟨Be, 0, none⟩ = some (.func (.func 62) #[] #[.pointer (some ⟨Ba, 0, none⟩), .pointer (some ⟨Bb, 0, none⟩), .pointer (some ⟨Bp, 0, none⟩), .pointer (some ⟨Bl, 0, none⟩), .pointer (some ⟨Bs, 0, none⟩), .pointer (some ⟨Be, 0, none⟩)]) := cE0
    clear cE0
    by_cases hi0 : i = 0
    ·
     have hneg : ((i : Int) - 1 < 0) = True := eq_true (by omega)
     have hnegb : decide ((i : Int) - 1 < 0) = true := decide_eq_true (by omega)
     rw [if_pos (.inl (by omega))] at HT0
     obtain ⟨s2, hf, ht⟩ := Option.bind_eq_some_iff.1 HT0
     have HF := Aside0.mk hf
     have HT := Aside0.mk ht
     clear hf ht HT0
     obtain ⟨wq, hwq⟩ : ∃ wq, wq = wr := ⟨_, rfl⟩
     subst hwq
     have HBq := HBr
     have HKq := HKr
     have HKq1 := HKr1
     have HSq := HSr
     have HCq := Aside0.mk (HKC.out _ HKr.out)
     go_wp2_with fail
     obtain ⟨y, hy⟩ : ∃ y, y = tr ++ [(i : Int) - 1] := ⟨_, rfl⟩
     have NY := Aside0.mk hy
     clear hy
     have HBd := Aside0.mk (below_drew (Below.refl wq.heap.size wq))
     refine start_ (n := 7) (S := fun w' => w'.cell? ⟨Be, 0, none⟩ = some (.func (.func 62) #[] #[.pointer (some ⟨Ba, 0, none⟩), .pointer (some ⟨Bb, 0, none⟩), .pointer (some ⟨Bp, 0, none⟩), .pointer (some ⟨Bl, 0, none⟩), .pointer (some ⟨Bs, 0, none⟩), .pointer (some ⟨Be, 0, none⟩)])) (ds := []) #[false, false, false, false, false, false, false] (by kernel_rfl) rfl rfl (show wq.drew.cell? ⟨Be, 0, none⟩ = _ from cE) (fun hHeld => ?_)
     refine with_tabW impl_bestTracking.c.tab8 impl_bestTracking.c.bits8 (fun HT_ HW_ => ?_)
     generalize wq.drew = wd at HBd hHeld ⊢
     refine pure_ (i := 1) (N := some 45) (v := ?_) (a' := ?_) #[false, true, false, false, false, false, false] rfl rfl (any_of HT_.out (by kernel_rfl)) (fun _ _ _ h => h) (Or.inl ⟨by rfl, ?_⟩) ?_ ?_
     rotate_left
     ·
      intro w'
      go_simp
      with_reducible rfl
     rotate_left
     ·
      simp only [Act.put, List.setIfInBounds_toArray, List.set_cons_zero, List.set_cons_succ, i64_w, i32_w]
      rfl
     refine pure_ (i := 3) (N := some 47) (v := ?_) (a' := ?_) #[false, true, false, true, false, false, false] rfl rfl (any_of HT_.out (by kernel_rfl)) (fun _ _ _ h => h) (Or.inl ⟨by rfl, ?_⟩) ?_ ?_
     rotate_left
     ·
      intro w'
      go_simp
      with_reducible rfl
     rotate_left
     ·
      simp only [Act.put, List.setIfInBounds_toArray, List.set_cons_zero, List.set_cons_succ, i64_w, i32_w]
      rfl
     refine take_ (i := 0) (N := some 44) (v := ?_) (a' := ?_) #[true, true, false, true, false, false, false] rfl rfl (take_ofW HT_.out HW_.out (by kernel_rfl)) (fun _ _ _ h => h) (Or.inl ⟨by rfl, ?_⟩) hHeld ?_ ?_
     rotate_left
     ·
      rintro w' s0
      go_simp
      with_reducible rfl
     rotate_left
     ·
      simp only [Act.put, List.setIfInBounds_toArray, List.set_cons_zero, List.set_cons_succ, i64_w, i32_w]
      rfl
     refine join_ (σ := Value × Value) 2 #[true, true, true, true, true, false, false] (fun s_ => [(46, s_.1), (48, s_.2)]) (fun s_ w' => w'.cell? ⟨Be, 0, none⟩ = some (.func (.func 62) #[] #[.pointer (some ⟨Ba, 0, none⟩), .pointer (some ⟨Bb, 0, none⟩), .pointer (some ⟨Bp, 0, none⟩), .pointer (some ⟨Bl, 0, none⟩), .pointer (some ⟨Bs, 0, none⟩), .pointer (some ⟨Be, 0, none⟩)]) ∧ Kd.R (Kd.int .i64) 3 w' wq.heap.size (fun _ => True) s_.1 tr ∧ Kd.R (Kd.int .i64) 3 w' wq.heap.size (fun _ => True) s_.2 [(i : Int) - 1] ∧ Below wq.heap.size wq w') ?_ ?_
     rotate_left
     ·
      intro hCont
      refine two_ (i := 2) (j := 4) (Ni := some 46) (Nj := some 48) #[true, true, true, true, false, false, false] #[true, true, false, true, true, false, false] rfl rfl rfl rfl (by kernel_rfl) (by decide) (by decide) (fun K hK => ?_) (fun K hK => ?_)
      ·
       refine goes_ Try.func63 (by kernel_rfl) rfl #[.slice At tr.length ct] (by rfl) rfl rfl (by (try simp only [List.map_toArray, List.map_cons, List.map_nil]); first | done | rfl) ?_
       refine (slices_Clone_int_int.calls At ct tr tr _ (C_keepI HCq.out HBd.out) Hct.out (if_pos HBIG.out)).mono ?_
       rintro e wc ⟨vc, rfl, hoc, hb⟩
       refine ⟨_, rfl, ?_⟩
       have HOc := Aside0.mk (Kd.R_lower hoc HBd.out.size)
       have HBc := Aside0.mk (HBd.out.trans (hb.mono HBd.out.size))
       refine hK.out _ _ ((hb.cell (World.block_lt_of_cell? _ _ hHeld)).trans hHeld) (fun hHeld => ?_)
       clear hK K hoc hb
       refine norm_ (a' := ?_) ?_ ?_
       rotate_left
       ·
        show Act.put _ (some 46) _ = _
        simp only [Act.put, List.setIfInBounds_toArray, List.set_cons_zero, List.set_cons_succ, i64_w, i32_w]
        rfl
       refine one_ (i := 4) (N := some 48) #[true, true, true, true, true, false, false] rfl rfl (by kernel_rfl) (by decide) (fun K hK => ?_)
       refine Kd.R_lit_step (Kd.int .i64) _ 3 ?hg (N := 48) ?hd (xs := [(i : Int) - 1]) (inner := [.int .i64 ((i : Int) - 1)]) (ok := fun _ => True) (okp := fun _ => True) ?hr ?hp (fun _ hk => hk) trivial (Below.refl _ _) (Nat.le_refl _) (by simp) ?_
       case hd => rfl
       case hg => rfl
       case hr => first | (go_simp; done) | (go_simp; rfl)
       case hp => exact repsOne _
       intro vk wk hok hb _ _
       have HOc2 := Aside0.mk (Kd.R_below HOc.out hb)
       have HBk := Aside0.mk (HBc.out.trans (hb.mono HBc.out.size))
       have HOk := Aside0.mk (Kd.R_lower hok HBc.out.size)
       refine hK.out _ _ ((hb.cell (World.block_lt_of_cell? _ _ hHeld)).trans hHeld) (fun hHeld => ?_)
       clear hK K hok hb
       refine norm_ (a' := ?_) ?_ ?_
       rotate_left
       ·
        show Act.put _ (some 48) _ = _
        simp only [Act.put, List.setIfInBounds_toArray, List.set_cons_zero, List.set_cons_succ, i64_w, i32_w]
        rfl
       exact norm_ (by simp only [putAll, Act.put, List.setIfInBounds_toArray, List.set_cons_zero, List.set_cons_succ]) (hCont (vc, vk) _ ⟨hHeld, HOc2.out, HOk.out, HBk.out⟩)
      ·
       skip
       refine Kd.R_lit_step (Kd.int .i64) _ 3 ?hg (N := 48) ?hd (xs := [(i : Int) - 1]) (inner := [.int .i64 ((i : Int) - 1)]) (ok := fun _ => True) (okp := fun _ => True) ?hr ?hp (fun _ hk => hk) trivial (Below.refl _ _) (Nat.le_refl _) (by simp) ?_
       case hd => rfl
       case hg => rfl
       case hr => first | (go_simp; done) | (go_simp; rfl)
       case hp => exact repsOne _
       intro vk wk hok hb _ _
       have HBk := Aside0.mk (HBd.out.trans (hb.mono HBd.out.size))
       have HOk := Aside0.mk (Kd.R_lower hok HBd.out.size)
       refine hK.out _ _ ((hb.cell (World.block_lt_of_cell? _ _ hHeld)).trans hHeld) (fun hHeld => ?_)
       clear hK K hok hb
       refine norm_ (a' := ?_) ?_ ?_
       rotate_left
       ·
        show Act.put _ (some 48) _ = _
        simp only [Act.put, List.setIfInBounds_toArray, List.set_cons_zero, List.set_cons_succ, i64_w, i32_w]
        rfl
       refine one_ (i := 2) (N := some 46) #[true, true, true, true, true, false, false] rfl rfl (by kernel_rfl) (by decide) (fun K hK => ?_)
       refine goes_ Try.func63 (by kernel_rfl) rfl #[.slice At tr.length ct] (by rfl) rfl rfl (by (try simp only [List.map_toArray, List.map_cons, List.map_nil]); first | done | rfl) ?_
       refine (slices_Clone_int_int.calls At ct tr tr _ (C_keepI HCq.out HBk.out) Hct.out (if_pos HBIG.out)).mono ?_
       rintro e wc ⟨vc, rfl, hoc, hb⟩
       refine ⟨_, rfl, ?_⟩
       have HOc := Aside0.mk (Kd.R_lower hoc HBk.out.size)
       have HBc := Aside0.mk (HBk.out.trans (hb.mono HBk.out.size))
       have HOk2 := Aside0.mk (Kd.R_below HOk.out hb)
       refine hK.out _ _ ((hb.cell (World.block_lt_of_cell? _ _ hHeld)).trans hHeld) (fun hHeld => ?_)
       clear hK K hoc hb
       refine norm_ (a' := ?_) ?_ ?_
       rotate_left
       ·
        show Act.put _ (some 46) _ = _
        simp only [Act.put, List.setIfInBounds_toArray, List.set_cons_zero, List.set_cons_succ, i64_w, i32_w]
        rfl
       exact norm_ (by simp only [putAll, Act.put, List.setIfInBounds_toArray, List.set_cons_zero, List.set_cons_succ]) (hCont (vc, vk) _ ⟨hHeld, HOc.out, HOk2.out, HBc.out⟩)
     rintro ⟨vc, vk⟩ wj ⟨hS_, h0_, h1_, h2_⟩
     have HOc : Aside0 (Kd.R (Kd.int .i64) 3 wj wq.heap.size (fun _ => True) vc tr) := ⟨h0_⟩
     have HOk : Aside0 (Kd.R (Kd.int .i64) 3 wj wq.heap.size (fun _ => True) vk [(i : Int) - 1]) := ⟨h1_⟩
     have HBj : Aside0 (Below wq.heap.size wq wj) := ⟨h2_⟩
     have hHeld : wj.cell? ⟨Be, 0, none⟩ = some (.func (.func 62) #[] #[.pointer (some ⟨Ba, 0, none⟩), .pointer (some ⟨Bb, 0, none⟩), .pointer (some ⟨Bp, 0, none⟩), .pointer (some ⟨Bl, 0, none⟩), .pointer (some ⟨Bs, 0, none⟩), .pointer (some ⟨Be, 0, none⟩)]) := hS_
     clear h0_ h1_ h2_ hS_
     obtain ⟨Ak, ck, eo⟩ := Kd.R_slice HOk.out
     subst eo
     refine norm_ (a' := ?_) ?_ ?_
     rotate_left
     ·
      simp only [putAll, Act.put, List.setIfInBounds_toArray, List.set_cons_zero, List.set_cons_succ]
      rfl
     refine one_ (i := 5) (N := some 49) #[true, true, true, true, true, true, false] rfl rfl (by kernel_rfl) (by decide) (fun K hK => ?_)
     refine Kd.R_append_rows_step (Kd.int .i64) wq.heap.size (by rfl) (.tmp 46) (.tmp 48) 25 3 (.int .i64 0) 8 rfl Try.underlying25 info3 rfl (by decide) (by omega) vc tr [(i : Int) - 1] _ _ _ (fun _ => True) (fun _ => False) rfl rfl ?aO ?aR (fun _ _ h => h) (fun _ h => h.elim) ?aF HBj.out ?aS ?aL ?_
     case aO => exact HOc.out
     case aR => exact (Kd.R_reads' HOk.out).2.2
     case aF => exact fun _ _ => trivial
     case aS => exact HBj.out.size
     case aL => have := HBIG.out; simp only [List.length_singleton]; omega
     intro v3 w3 ho hb hg hat
     rw [← NY.out] at ho
     have HO3 := Aside0.mk ho
     have HB3 := Aside0.mk hb
     clear ho hb hg hat
     obtain ⟨Ao, co, eo⟩ := Kd.R_slice HO3.out
     subst eo
     have hHeld3 : w3.cell? ⟨Be, 0, none⟩ = some (.func (.func 62) #[] #[.pointer (some ⟨Ba, 0, none⟩), .pointer (some ⟨Bb, 0, none⟩), .pointer (some ⟨Bp, 0, none⟩), .pointer (some ⟨Bl, 0, none⟩), .pointer (some ⟨Bs, 0, none⟩), .pointer (some ⟨Be, 0, none⟩)]) := (HB3.out.cell (World.block_lt_of_cell? _ _ cE)).trans cE
     clear hHeld
     refine hK.out _ _ hHeld3 (fun hHeld => ?_)
     clear hK K hHeld3
     refine norm_ (a' := ?_) ?_ ?_
     rotate_left
     ·
      show Act.put _ (some 49) _ = _
      simp only [Act.put, List.setIfInBounds_toArray, List.set_cons_zero, List.set_cons_succ, i64_w, i32_w]
      rfl
     refine one_ (i := 6) (N := some 50) #[true, true, true, true, true, true, true] rfl rfl (by kernel_rfl) (by decide) (fun K hK => ?_)
     refine goesV_ EG.out #[.slice Ao y.length co, .pointer (some ⟨Ba, 0, none⟩), .pointer (some ⟨Bb, 0, none⟩), .pointer (some ⟨Bp, 0, none⟩), .pointer (some ⟨Bl, 0, none⟩), .pointer (some ⟨Bs, 0, none⟩), .pointer (some ⟨Be, 0, none⟩)] (by rfl) rfl rfl (by rfl) (by simp only [List.map_toArray, List.map_cons, List.map_nil]; rfl) ?_
     refine (ih y Ao co w3 v' s' s2 (by rw [NY.out, List.length_append, List.length_singleton]; have := HN.out; omega) (Kd.R_reads' HO3.out).2.2 (Kd.R_reads' HO3.out).2.1 ?hne (HBq.out.trans (HB3.out.mono HBq.out.size)) ?hk (HSq.out.below HB3.out) (by rw [NY.out]; exact HF.out)).mono ?_
     case hne =>
      intro ad ea hpos
      have h1 : wq.heap.size ≤ ad.block := Kd.R_base HO3.out ad.block (by rw [ea]; rfl)
      have h2 := HLT.out
      have h3 := HKq1.out.1
      exact ⟨by omega, by omega⟩
     case hk => exact Kept.then_ (S := Two Bs Bl) HKq1.out (Kept.of_below HB3.out (fun _ => False)) (fun _ h => h.elim)
     rintro e w4 ⟨rfl, hb4, hk4, v4, hs4⟩
     refine ⟨_, rfl, ?_⟩
     have HK4 := Aside0.mk (Kept.then_ (S := Two Bs Bl) (Kept.then_ (S := Two Bs Bl) HKq.out (Kept.of_below HB3.out (fun _ => False)) (fun _ h => h.elim)) hk4 (fun _ h => .inl h))
     have HK41 := Aside0.mk (Kept.then_ (S := Two Bs Bl) (Kept.then_ (S := Two Bs Bl) HKq1.out (Kept.of_below HB3.out (fun _ => False)) (fun _ h => h.elim)) hk4 (fun _ h => .inl h))
     have HB4 := Aside0.mk hb4
     have HS4 := Aside0.mk hs4
     clear hb4 hk4 hs4
     have cE4 := blk_cell (ENV.out w4 HK41.out).2.2.2 0
     refine hK.out _ _ cE4 (fun hHeld4 => ?_)
     clear hK K
     refine done_ (done_of HT_.out (by kernel_rfl)) ?_
     clear hHeld hHeld4 cE4 cE HT_ HW_
     go_wp2
     go_roundg (l1.length + 1 - (i + 1))
     case measure => omega
     case rel => exact ⟨i + 1, v4, s2, by omega, by omega, by go_num, HB4, HK4, HS4, ⟨by rw [show l1.length + 1 - (i + 1) = d from by omega]; exact HT.out⟩⟩
    ·
     have hneg : ((i : Int) - 1 < 0) = False := eq_false (by omega)
     have hnegb : decide ((i : Int) - 1 < 0) = false := decide_eq_false (by omega)
     obtain ⟨k1, hf1⟩ := (ev_containsI tr (by have := HBIG.out; omega) ((i : Int) - 1)).rounds
     have HCN := Aside0.mk hf1
     clear hf1
     go_wp2_with fail
     by_cases hin : ((i : Int) - 1) ∈ tr
     ·
      rw [decide_eq_true hin] at HCN
      rw [if_neg (fun q => q.elim (by omega) (fun n => n hin))] at HT0
      have HT := Aside0.mk HT0
      clear HT0
      refine (slices_Contains_int_int.calls k1 At ct tr ((i : Int) - 1) true _ (HKC.out _ HKr.out) Hct.out HCN.out).mono ?_
      rintro e wq ⟨rfl, hb⟩
      replace hb := hb.below
      go_wp2
      go_roundg (l1.length + 1 - (i + 1))
      case measure => omega
      case rel => exact ⟨i + 1, v', s', by omega, by omega, by go_num, ⟨HBr.out.trans (hb.mono HBr.out.size)⟩, ⟨Kept.then_ (S := Two Bs Bl) HKr.out (Kept.of_below hb (fun _ => False)) (fun _ h => h.elim)⟩, ⟨HSr.out.below hb⟩, ⟨by rw [show l1.length + 1 - (i + 1) = d from by omega]; exact HT.out⟩⟩
     ·
      rw [decide_eq_false hin] at HCN
      rw [if_pos (.inr hin)] at HT0
      obtain ⟨s2, hf, ht⟩ := Option.bind_eq_some_iff.1 HT0
      have HF := Aside0.mk hf
      have HT := Aside0.mk ht
      clear hf ht HT0
      refine (slices_Contains_int_int.calls k1 At ct tr ((i : Int) - 1) false _ (HKC.out _ HKr.out) Hct.out HCN.out).mono ?_
      rintro e wq ⟨rfl, hb⟩
      replace hb := hb.below
      have HBq := Aside0.mk (HBr.out.trans (hb.mono HBr.out.size))
      have HKq := Aside0.mk (Kept.then_ (S := Two Bs Bl) HKr.out (Kept.of_below hb (fun _ => False)) (fun _ h => h.elim))
      have HKq1 := Aside0.mk (Kept.then_ (S := Two Bs Bl) HKr1.out (Kept.of_below hb (fun _ => False)) (fun _ h => h.elim))
      have HSq := Aside0.mk (HSr.out.below hb)
      have HCq := Aside0.mk (HKC.out _ HKq.out)
      replace cE : wq.cell? ⟨Be, 0, none⟩ = some (.func (.func 62) #[] #[.pointer (some ⟨Ba, 0, none⟩), .pointer (some ⟨Bb, 0, none⟩), .pointer (some ⟨Bp, 0, none⟩), .pointer (some ⟨Bl, 0, none⟩), .pointer (some ⟨Bs, 0, none⟩), .pointer (some ⟨Be, 0, none⟩)]) := blk_cell (ENV.out wq HKq1.out).2.2.2 0
      clear hb cB
      go_wp2_with fail
      obtain ⟨y, hy⟩ : ∃ y, y = tr ++ [(i : Int) - 1] := ⟨_, rfl⟩
      have NY := Aside0.mk hy
      clear hy
      have HBd := Aside0.mk (below_drew (Below.refl wq.heap.size wq))
      refine start_ (n := 7) (S := fun w' => w'.cell? ⟨Be, 0, none⟩ = some (.func (.func 62) #[] #[.pointer (some ⟨Ba, 0, none⟩), .pointer (some ⟨Bb, 0, none⟩), .pointer (some ⟨Bp, 0, none⟩), .pointer (some ⟨Bl, 0, none⟩), .pointer (some ⟨Bs, 0, none⟩), .pointer (some ⟨Be, 0, none⟩)])) (ds := []) #[false, false, false, false, false, false, false] (by kernel_rfl) rfl rfl (show wq.drew.cell? ⟨Be, 0, none⟩ = _ from cE) (fun hHeld => ?_)
      refine with_tabW impl_bestTracking.c.tab8 impl_bestTracking.c.bits8 (fun HT_ HW_ => ?_)
      generalize wq.drew = wd at HBd hHeld ⊢
      refine pure_ (i := 1) (N := some 45) (v := ?_) (a' := ?_) #[false, true, false, false, false, false, false] rfl rfl (any_of HT_.out (by kernel_rfl)) (fun _ _ _ h => h) (Or.inl ⟨by rfl, ?_⟩) ?_ ?_
      rotate_left
      ·
       intro w'
       go_simp
       with_reducible rfl
      rotate_left
      ·
       simp only [Act.put, List.setIfInBounds_toArray, List.set_cons_zero, List.set_cons_succ, i64_w, i32_w]
       rfl
      refine pure_ (i := 3) (N := some 47) (v := ?_) (a' := ?_) #[false, true, false, true, false, false, false] rfl rfl (any_of HT_.out (by kernel_rfl)) (fun _ _ _ h => h) (Or.inl ⟨by rfl, ?_⟩) ?_ ?_
      rotate_left
      ·
       intro w'
       go_simp
       with_reducible rfl
      rotate_left
      ·
       simp only [Act.put, List.setIfInBounds_toArray, List.set_cons_zero, List.set_cons_succ, i64_w, i32_w]
       rfl
      refine take_ (i := 0) (N := some 44) (v := ?_) (a' := ?_) #[true, true, false, true, false, false, false] rfl rfl (take_ofW HT_.out HW_.out (by kernel_rfl)) (fun _ _ _ h => h) (Or.inl ⟨by rfl, ?_⟩) hHeld ?_ ?_
      rotate_left
      ·
       rintro w' s0
       go_simp
       with_reducible rfl
      rotate_left
      ·
       simp only [Act.put, List.setIfInBounds_toArray, List.set_cons_zero, List.set_cons_succ, i64_w, i32_w]
       rfl
      refine join_ (σ := Value × Value) 2 #[true, true, true, true, true, false, false] (fun s_ => [(46, s_.1), (48, s_.2)]) (fun s_ w' => w'.cell? ⟨Be, 0, none⟩ = some (.func (.func 62) #[] #[.pointer (some ⟨Ba, 0, none⟩), .pointer (some ⟨Bb, 0, none⟩), .pointer (some ⟨Bp, 0, none⟩), .pointer (some ⟨Bl, 0, none⟩), .pointer (some ⟨Bs, 0, none⟩), .pointer (some ⟨Be, 0, none⟩)]) ∧ Kd.R (Kd.int .i64) 3 w' wq.heap.size (fun _ => True) s_.1 tr ∧ Kd.R (Kd.int .i64) 3 w' wq.heap.size (fun _ => True) s_.2 [(i : Int) - 1] ∧ Below wq.heap.size wq w') ?_ ?_
      rotate_left
      ·
       intro hCont
       refine two_ (i := 2) (j := 4) (Ni := some 46) (Nj := some 48) #[true, true, true, true, false, false, false] #[true, true, false, true, true, false, false] rfl rfl rfl rfl (by kernel_rfl) (by decide) (by decide) (fun K hK => ?_) (fun K hK => ?_)
       ·
        refine goes_ Try.func63 (by kernel_rfl) rfl #[.slice At tr.length ct] (by rfl) rfl rfl (by (try simp only [List.map_toArray, List.map_cons, List.map_nil]); first | done | rfl) ?_
        refine (slices_Clone_int_int.calls At ct tr tr _ (C_keepI HCq.out HBd.out) Hct.out (if_pos HBIG.out)).mono ?_
        rintro e wc ⟨vc, rfl, hoc, hb⟩
        refine ⟨_, rfl, ?_⟩
        have HOc := Aside0.mk (Kd.R_lower hoc HBd.out.size)
        have HBc := Aside0.mk (HBd.out.trans (hb.mono HBd.out.size))
        refine hK.out _ _ ((hb.cell (World.block_lt_of_cell? _ _ hHeld)).trans hHeld) (fun hHeld => ?_)
        clear hK K hoc hb
        refine norm_ (a' := ?_) ?_ ?_
        rotate_left
        ·
         show Act.put _ (some 46) _ = _
         simp only [Act.put, List.setIfInBounds_toArray, List.set_cons_zero, List.set_cons_succ, i64_w, i32_w]
         rfl
        refine one_ (i := 4) (N := some 48) #[true, true, true, true, true, false, false] rfl rfl (by kernel_rfl) (by decide) (fun K hK => ?_)
        refine Kd.R_lit_step (Kd.int .i64) _ 3 ?hg (N := 48) ?hd (xs := [(i : Int) - 1]) (inner := [.int .i64 ((i : Int) - 1)]) (ok := fun _ => True) (okp := fun _ => True) ?hr ?hp (fun _ hk => hk) trivial (Below.refl _ _) (Nat.le_refl _) (by simp) ?_
        case hd => rfl
        case hg => rfl
        case hr => first | (go_simp; done) | (go_simp; rfl)
        case hp => exact repsOne _
        intro vk wk hok hb _ _
        have HOc2 := Aside0.mk (Kd.R_below HOc.out hb)
        have HBk := Aside0.mk (HBc.out.trans (hb.mono HBc.out.size))
        have HOk := Aside0.mk (Kd.R_lower hok HBc.out.size)
        refine hK.out _ _ ((hb.cell (World.block_lt_of_cell? _ _ hHeld)).trans hHeld) (fun hHeld => ?_)
        clear hK K hok hb
        refine norm_ (a' := ?_) ?_ ?_
        rotate_left
        ·
         show Act.put _ (some 48) _ = _
         simp only [Act.put, List.setIfInBounds_toArray, List.set_cons_zero, List.set_cons_succ, i64_w, i32_w]
         rfl
        exact norm_ (by simp only [putAll, Act.put, List.setIfInBounds_toArray, List.set_cons_zero, List.set_cons_succ]) (hCont (vc, vk) _ ⟨hHeld, HOc2.out, HOk.out, HBk.out⟩)
       ·
        skip
        refine Kd.R_lit_step (Kd.int .i64) _ 3 ?hg (N := 48) ?hd (xs := [(i : Int) - 1]) (inner := [.int .i64 ((i : Int) - 1)]) (ok := fun _ => True) (okp := fun _ => True) ?hr ?hp (fun _ hk => hk) trivial (Below.refl _ _) (Nat.le_refl _) (by simp) ?_
        case hd => rfl
        case hg => rfl
        case hr => first | (go_simp; done) | (go_simp; rfl)
        case hp => exact repsOne _
        intro vk wk hok hb _ _
        have HBk := Aside0.mk (HBd.out.trans (hb.mono HBd.out.size))
        have HOk := Aside0.mk (Kd.R_lower hok HBd.out.size)
        refine hK.out _ _ ((hb.cell (World.block_lt_of_cell? _ _ hHeld)).trans hHeld) (fun hHeld => ?_)
        clear hK K hok hb
        refine norm_ (a' := ?_) ?_ ?_
        rotate_left
        ·
         show Act.put _ (some 48) _ = _
         simp only [Act.put, List.setIfInBounds_toArray, List.set_cons_zero, List.set_cons_succ, i64_w, i32_w]
         rfl
        refine one_ (i := 2) (N := some 46) #[true, true, true, true, true, false, false] rfl rfl (by kernel_rfl) (by decide) (fun K hK => ?_)
        refine goes_ Try.func63 (by kernel_rfl) rfl #[.slice At tr.length ct] (by rfl) rfl rfl (by (try simp only [List.map_toArray, List.map_cons, List.map_nil]); first | done | rfl) ?_
        refine (slices_Clone_int_int.calls At ct tr tr _ (C_keepI HCq.out HBk.out) Hct.out (if_pos HBIG.out)).mono ?_
        rintro e wc ⟨vc, rfl, hoc, hb⟩
        refine ⟨_, rfl, ?_⟩
        have HOc := Aside0.mk (Kd.R_lower hoc HBk.out.size)
        have HBc := Aside0.mk (HBk.out.trans (hb.mono HBk.out.size))
        have HOk2 := Aside0.mk (Kd.R_below HOk.out hb)
        refine hK.out _ _ ((hb.cell (World.block_lt_of_cell? _ _ hHeld)).trans hHeld) (fun hHeld => ?_)
        clear hK K hoc hb
        refine norm_ (a' := ?_) ?_ ?_
        rotate_left
        ·
         show Act.put _ (some 46) _ = _
         simp only [Act.put, List.setIfInBounds_toArray, List.set_cons_zero, List.set_cons_succ, i64_w, i32_w]
         rfl
        exact norm_ (by simp only [putAll, Act.put, List.setIfInBounds_toArray, List.set_cons_zero, List.set_cons_succ]) (hCont (vc, vk) _ ⟨hHeld, HOc.out, HOk2.out, HBc.out⟩)
      rintro ⟨vc, vk⟩ wj ⟨hS_, h0_, h1_, h2_⟩
      have HOc : Aside0 (Kd.R (Kd.int .i64) 3 wj wq.heap.size (fun _ => True) vc tr) := ⟨h0_⟩
      have HOk : Aside0 (Kd.R (Kd.int .i64) 3 wj wq.heap.size (fun _ => True) vk [(i : Int) - 1]) := ⟨h1_⟩
      have HBj : Aside0 (Below wq.heap.size wq wj) := ⟨h2_⟩
      have hHeld : wj.cell? ⟨Be, 0, none⟩ = some (.func (.func 62) #[] #[.pointer (some ⟨Ba, 0, none⟩), .pointer (some ⟨Bb, 0, none⟩), .pointer (some ⟨Bp, 0, none⟩), .pointer (some ⟨Bl, 0, none⟩), .pointer (some ⟨Bs, 0, none⟩), .pointer (some ⟨Be, 0, none⟩)]) := hS_
      clear h0_ h1_ h2_ hS_
      obtain ⟨Ak, ck, eo⟩ := Kd.R_slice HOk.out
      subst eo
      refine norm_ (a' := ?_) ?_ ?_
      rotate_left
      ·
       simp only [putAll, Act.put, List.setIfInBounds_toArray, List.set_cons_zero, List.set_cons_succ]
       rfl
      refine one_ (i := 5) (N := some 49) #[true, true, true, true, true, true, false] rfl rfl (by kernel_rfl) (by decide) (fun K hK => ?_)
      refine Kd.R_append_rows_step (Kd.int .i64) wq.heap.size (by rfl) (.tmp 46) (.tmp 48) 25 3 (.int .i64 0) 8 rfl Try.underlying25 info3 rfl (by decide) (by omega) vc tr [(i : Int) - 1] _ _ _ (fun _ => True) (fun _ => False) rfl rfl ?aO ?aR (fun _ _ h => h) (fun _ h => h.elim) ?aF HBj.out ?aS ?aL ?_
      case aO => exact HOc.out
      case aR => exact (Kd.R_reads' HOk.out).2.2
      case aF => exact fun _ _ => trivial
      case aS => exact HBj.out.size
      case aL => have := HBIG.out; simp only [List.length_singleton]; omega
      intro v3 w3 ho hb hg hat
      rw [← NY.out] at ho
      have HO3 := Aside0.mk ho
      have HB3 := Aside0.mk hb
      clear ho hb hg hat
      obtain ⟨Ao, co, eo⟩ := Kd.R_slice HO3.out
      subst eo
      have hHeld3 : w3.cell? ⟨Be, 0, none⟩ = some (.func (.func 62) #[] #[.pointer (some ⟨Ba, 0, none⟩), .pointer (some ⟨Bb, 0, none⟩), .pointer (some ⟨Bp, 0, none⟩), .pointer (some ⟨Bl, 0, none⟩), .pointer (some ⟨Bs, 0, none⟩), .pointer (some ⟨Be, 0, none⟩)]) := (HB3.out.cell (World.block_lt_of_cell? _ _ cE)).trans cE
      clear hHeld
      refine hK.out _ _ hHeld3 (fun hHeld => ?_)
      clear hK K hHeld3
      refine norm_ (a' := ?_) ?_ ?_
      rotate_left
      ·
       show Act.put _ (some 49) _ = _
       simp only [Act.put, List.setIfInBounds_toArray, List.set_cons_zero, List.set_cons_succ, i64_w, i32_w]
       rfl
      refine one_ (i := 6) (N := some 50) #[true, true, true, true, true, true, true] rfl rfl (by kernel_rfl) (by decide) (fun K hK => ?_)
      refine goesV_ EG.out #[.slice Ao y.length co, .pointer (some ⟨Ba, 0, none⟩), .pointer (some ⟨Bb, 0, none⟩), .pointer (some ⟨Bp, 0, none⟩), .pointer (some ⟨Bl, 0, none⟩), .pointer (some ⟨Bs, 0, none⟩), .pointer (some ⟨Be, 0, none⟩)] (by rfl) rfl rfl (by rfl) (by simp only [List.map_toArray, List.map_cons, List.map_nil]; rfl) ?_
      refine (ih y Ao co w3 v' s' s2 (by rw [NY.out, List.length_append, List.length_singleton]; have := HN.out; omega) (Kd.R_reads' HO3.out).2.2 (Kd.R_reads' HO3.out).2.1 ?hne (HBq.out.trans (HB3.out.mono HBq.out.size)) ?hk (HSq.out.below HB3.out) (by rw [NY.out]; exact HF.out)).mono ?_
      case hne =>
       intro ad ea hpos
       have h1 : wq.heap.size ≤ ad.block := Kd.R_base HO3.out ad.block (by rw [ea]; rfl)
       have h2 := HLT.out
       have h3 := HKq1.out.1
       exact ⟨by omega, by omega⟩
      case hk => exact Kept.then_ (S := Two Bs Bl) HKq1.out (Kept.of_below HB3.out (fun _ => False)) (fun _ h => h.elim)
      rintro e w4 ⟨rfl, hb4, hk4, v4, hs4⟩
      refine ⟨_, rfl, ?_⟩
      have HK4 := Aside0.mk (Kept.then_ (S := Two Bs Bl) (Kept.then_ (S := Two Bs Bl) HKq.out (Kept.of_below HB3.out (fun _ => False)) (fun _ h => h.elim)) hk4 (fun _ h => .inl h))
      have HK41 := Aside0.mk (Kept.then_ (S := Two Bs Bl) (Kept.then_ (S := Two Bs Bl) HKq1.out (Kept.of_below HB3.out (fun _ => False)) (fun _ h => h.elim)) hk4 (fun _ h => .inl h))
      have HB4 := Aside0.mk hb4
      have HS4 := Aside0.mk hs4
      clear hb4 hk4 hs4
      have cE4 := blk_cell (ENV.out w4 HK41.out).2.2.2 0
      refine hK.out _ _ cE4 (fun hHeld4 => ?_)
      clear hK K
      refine done_ (done_of HT_.out (by kernel_rfl)) ?_
      clear hHeld hHeld4 cE4 cE HT_ HW_
      go_wp2
      go_roundg (l1.length + 1 - (i + 1))
      case measure => omega
      case rel => exact ⟨i + 1, v4, s2, by omega, by omega, by go_num, HB4, HK4, HS4, ⟨by rw [show l1.length + 1 - (i + 1) = d from by omega]; exact HT.out⟩⟩
   ·
    have hltz : ((i : Int) - 1 < (l1.length : Int)) = False := eq_false (by omega)
    have HT0 := HTr.out
    rw [show l1.length + 1 - i = 0 from by omega] at HT0
    have hr : s' = r := Option.some.inj HT0
    subst hr
    clear HT0
    go_wp2
    (try simp only [Exit.inBlock, Exit.then]); first | refine bodyPost_end (results_none rfl _ _ _) rfl ?_ | refine bodyPost_ret (results_none rfl _ _ _) rfl ?_
    exact ⟨rfl, HBr.out, HKr.out, v', HSr.out⟩
theorem rsFunc (P : Program) (w : World) (a : Addr) (m : Mode) (fn : Fn) (first captured : Array Value) : (store a (.func fn first captured) m).run P w = stored P w a (.func fn first captured) m := run_store P w a _ m rfl
attribute [local go_sem] rsFunc
set_option maxHeartbeats 4000000 in
set_option maxRecDepth 100000 in
theorem impl_bestTracking.calls (k : Nat) (A0 : Option Addr) (c0 : Nat) (l0 : List S71) (A1 : Option Addr) (c1 : Nat) (l1 : List S71) (a2 : Int) (r1 : List Int) (r2 : Int) (w : World) (hr0 : Kd.C k71 w A0 l0.length l0) (hc0 : l0.length ≤ c0) (hr1 : Kd.C k71 w A1 l1.length l1) (hc1 : l1.length ≤ c1) (h : impl_bestTracking.f k l0 l1 a2 = some (r1, r2)) :
  Calls Try.prog 41 #[.slice A0 l0.length c0, .slice A1 l1.length c1, .int .i64 a2] w fun e w' => ∃ v0_ : Value, e = .returned (.tuple #[v0_, .int .i64 r2]) ∧ Kd.R (Kd.int .i64) 3 w' w.heap.size (fun _ => True) v0_ r1 ∧ Below w.heap.size w w' := by
 have H := h
 unfold impl_bestTracking.f at H
 split at H
 ·
  rename_i hl
  obtain ⟨W1, hW1⟩ : ∃ W1, W1 = ((((((w.alloc (.cells #[.slice A0 l0.length c0] 24)).alloc (.cells #[.slice A1 l1.length c1] 24)).alloc (.cells #[.int .i64 a2] 3)).alloc (.cells #[.slice none 0 0] 25)).alloc (.cells #[.int .i64 (-1)] 3)).alloc (.cells #[.func (.func 62) #[] #[.pointer (some ⟨w.heap.size, 0, none⟩), .pointer (some ⟨w.heap.size + 1, 0, none⟩), .pointer (some ⟨w.heap.size + 1 + 1, 0, none⟩), .pointer (some ⟨w.heap.size + 1 + 1 + 1 + 1, 0, none⟩), .pointer (some ⟨w.heap.size + 1 + 1 + 1, 0, none⟩), .pointer (some ⟨w.heap.size + 1 + 1 + 1 + 1 + 1, 0, none⟩)]] 89)) := ⟨_, rfl⟩
  have a1B : Below w.heap.size w W1 := by rw [hW1]; repeat (first | exact Below.refl _ _ | apply below_alloc)
  have n0 : W1.heap[w.heap.size]? = some (.cells #[.slice A0 l0.length c0] 24 (0, 0)) := by
   rw [hW1]
   have q := blk_new w (.cells #[.slice A0 l0.length c0] 24)
   have q := blk_alloc q (.cells #[.slice A1 l1.length c1] 24)
   have q := blk_alloc q (.cells #[.int .i64 a2] 3)
   have q := blk_alloc q (.cells #[.slice none 0 0] 25)
   have q := blk_alloc q (.cells #[.int .i64 (-1)] 3)
   have q := blk_alloc q (.cells #[.func (.func 62) #[] #[.pointer (some ⟨w.heap.size, 0, none⟩), .pointer (some ⟨w.heap.size + 1, 0, none⟩), .pointer (some ⟨w.heap.size + 1 + 1, 0, none⟩), .pointer (some ⟨w.heap.size + 1 + 1 + 1 + 1, 0, none⟩), .pointer (some ⟨w.heap.size + 1 + 1 + 1, 0, none⟩), .pointer (some ⟨w.heap.size + 1 + 1 + 1 + 1 + 1, 0, none⟩)]] 89)
   simpa using q
  have n1 : W1.heap[w.heap.size + 1]? = some (.cells #[.slice A1 l1.length c1] 24 (0, 0)) := by
   rw [hW1]
   have q := blk_new (w.alloc (.cells #[.slice A0 l0.length c0] 24)) (.cells #[.slice A1 l1.length c1] 24)
   have q := blk_alloc q (.cells #[.int .i64 a2] 3)
   have q := blk_alloc q (.cells #[.slice none 0 0] 25)
   have q := blk_alloc q (.cells #[.int .i64 (-1)] 3)
   have q := blk_alloc q (.cells #[.func (.func 62) #[] #[.pointer (some ⟨w.heap.size, 0, none⟩), .pointer (some ⟨w.heap.size + 1, 0, none⟩), .pointer (some ⟨w.heap.size + 1 + 1, 0, none⟩), .pointer (some ⟨w.heap.size + 1 + 1 + 1 + 1, 0, none⟩), .pointer (some ⟨w.heap.size + 1 + 1 + 1, 0, none⟩), .pointer (some ⟨w.heap.size + 1 + 1 + 1 + 1 + 1, 0, none⟩)]] 89)
   simpa using q
  have n2 : W1.heap[w.heap.size + 1 + 1]? = some (.cells #[.int .i64 a2] 3 (0, 0)) := by
   rw [hW1]
   have q := blk_new ((w.alloc (.cells #[.slice A0 l0.length c0] 24)).alloc (.cells #[.slice A1 l1.length c1] 24)) (.cells #[.int .i64 a2] 3)
   have q := blk_alloc q (.cells #[.slice none 0 0] 25)
   have q := blk_alloc q (.cells #[.int .i64 (-1)] 3)
   have q := blk_alloc q (.cells #[.func (.func 62) #[] #[.pointer (some ⟨w.heap.size, 0, none⟩), .pointer (some ⟨w.heap.size + 1, 0, none⟩), .pointer (some ⟨w.heap.size + 1 + 1, 0, none⟩), .pointer (some ⟨w.heap.size + 1 + 1 + 1 + 1, 0, none⟩), .pointer (some ⟨w.heap.size + 1 + 1 + 1, 0, none⟩), .pointer (some ⟨w.heap.size + 1 + 1 + 1 + 1 + 1, 0, none⟩)]] 89)
   simpa using q
  have n3 : W1.heap[w.heap.size + 1 + 1 + 1]? = some (.cells #[.slice none 0 0] 25 (0, 0)) := by
   rw [hW1]
   have q := blk_new (((w.alloc (.cells #[.slice A0 l0.length c0] 24)).alloc (.cells #[.slice A1 l1.length c1] 24)).alloc (.cells #[.int .i64 a2] 3)) (.cells #[.slice none 0 0] 25)
   have q := blk_alloc q (.cells #[.int .i64 (-1)] 3)
   have q := blk_alloc q (.cells #[.func (.func 62) #[] #[.pointer (some ⟨w.heap.size, 0, none⟩), .pointer (some ⟨w.heap.size + 1, 0, none⟩), .pointer (some ⟨w.heap.size + 1 + 1, 0, none⟩), .pointer (some ⟨w.heap.size + 1 + 1 + 1 + 1, 0, none⟩), .pointer (some ⟨w.heap.size + 1 + 1 + 1, 0, none⟩), .pointer (some ⟨w.heap.size + 1 + 1 + 1 + 1 + 1, 0, none⟩)]] 89)
   simpa using q
  have n4 : W1.heap[w.heap.size + 1 + 1 + 1 + 1]? = some (.cells #[.int .i64 (-1)] 3 (0, 0)) := by
   rw [hW1]
   have q := blk_new ((((w.alloc (.cells #[.slice A0 l0.length c0] 24)).alloc (.cells #[.slice A1 l1.length c1] 24)).alloc (.cells #[.int .i64 a2] 3)).alloc (.cells #[.slice none 0 0] 25)) (.cells #[.int .i64 (-1)] 3)
   have q := blk_alloc q (.cells #[.func (.func 62) #[] #[.pointer (some ⟨w.heap.size, 0, none⟩), .pointer (some ⟨w.heap.size + 1, 0, none⟩), .pointer (some ⟨w.heap.size + 1 + 1, 0, none⟩), .pointer (some ⟨w.heap.size + 1 + 1 + 1 + 1, 0, none⟩), .pointer (some ⟨w.heap.size + 1 + 1 + 1, 0, none⟩), .pointer (some ⟨w.heap.size + 1 + 1 + 1 + 1 + 1, 0, none⟩)]] 89)
   simpa using q
  have n5 : W1.heap[w.heap.size + 1 + 1 + 1 + 1 + 1]? = some (.cells #[.func (.func 62) #[] #[.pointer (some ⟨w.heap.size, 0, none⟩), .pointer (some ⟨w.heap.size + 1, 0, none⟩), .pointer (some ⟨w.heap.size + 1 + 1, 0, none⟩), .pointer (some ⟨w.heap.size + 1 + 1 + 1 + 1, 0, none⟩), .pointer (some ⟨w.heap.size + 1 + 1 + 1, 0, none⟩), .pointer (some ⟨w.heap.size + 1 + 1 + 1 + 1 + 1, 0, none⟩)]] 89 (0, 0)) := by
   rw [hW1]
   have q := blk_new (((((w.alloc (.cells #[.slice A0 l0.length c0] 24)).alloc (.cells #[.slice A1 l1.length c1] 24)).alloc (.cells #[.int .i64 a2] 3)).alloc (.cells #[.slice none 0 0] 25)).alloc (.cells #[.int .i64 (-1)] 3)) (.cells #[.func (.func 62) #[] #[.pointer (some ⟨w.heap.size, 0, none⟩), .pointer (some ⟨w.heap.size + 1, 0, none⟩), .pointer (some ⟨w.heap.size + 1 + 1, 0, none⟩), .pointer (some ⟨w.heap.size + 1 + 1 + 1 + 1, 0, none⟩), .pointer (some ⟨w.heap.size + 1 + 1 + 1, 0, none⟩), .pointer (some ⟨w.heap.size + 1 + 1 + 1 + 1 + 1, 0, none⟩)]] 89)
   simpa using q
  have hsz : W1.heap.size = w.heap.size + 6 := by rw [hW1]; simp
  have HW := Aside0.mk hW1
  have HBW := Aside0.mk a1B
  have HSZ := Aside0.mk hsz
  have HX := Aside0.mk (impl_bestTracking.ext k l0 l1 a2 A0 A1 c0 c1 w W1 (w.heap.size) (w.heap.size + 1) (w.heap.size + 1 + 1) (w.heap.size + 1 + 1 + 1) (w.heap.size + 1 + 1 + 1 + 1) (w.heap.size + 1 + 1 + 1 + 1 + 1) _ rfl n0 n1 n2 n5 ⟨by omega, by omega, by omega, by omega, by omega, by omega, by omega, by omega, by omega⟩ ⟨by omega, by omega⟩ ⟨by omega, by omega⟩ hl hr0 hc0 hr1 hc1 l0.length [] none 0 W1 (.slice none 0 0) ([], -1) (r1, r2) (by simp) (Kd.C_nil _ _) (by simp) (fun ad e => by cases e) a1B (Kept.refl _ _) ⟨n3, n4, Kd.R_nil _ _ _ _ _⟩ H)
  clear hW1 a1B n0 n1 n2 n3 n4 n5 hsz hr0 hc0 hr1 hc1 h H hl
  go_enter Try.func41, Try.ntmps41
  go_wp2_with fail
  rw [← HW.out]
  refine HX.out.mono ?_
  rintro e we ⟨rfl, hb, hk, v', hs⟩
  obtain ⟨Av, cv, ev⟩ := Kd.R_slice hs.2.2
  subst ev
  have HB := Aside0.mk (below_drew hb)
  have HR := Aside0.mk (Kd.R_drew hs.2.2)
  have d0 : we.cell? ⟨w.heap.size + 1 + 1 + 1, 0, none⟩ = some (.slice Av r1.length cv) := blk_cell hs.1 0
  have d1 : we.cell? ⟨w.heap.size + 1 + 1 + 1 + 1, 0, none⟩ = some (.int .i64 r2) := blk_cell hs.2.1 0
  clear hb hk hs
  go_wp2_with fail
  refine start_ (n := 4) (S := fun w' => w'.cell? ⟨w.heap.size + 1 + 1 + 1, 0, none⟩ = some (.slice Av r1.length cv) ∧ w'.cell? ⟨w.heap.size + 1 + 1 + 1 + 1, 0, none⟩ = some (.int .i64 r2)) (ds := []) #[false, false, false, false] (by kernel_rfl) rfl rfl ⟨(show we.drew.cell? _ = _ from d0), (show we.drew.cell? _ = _ from d1)⟩ (fun hHeld => ?_)
  refine with_tabW impl_bestTracking.d.tab6 impl_bestTracking.d.bits6 (fun HT_ HW_ => ?_)
  generalize we.drew = w1 at HB HR hHeld ⊢
  refine take_ (i := 0) (N := some 14) (v := ?_) (a' := ?_) #[true, false, false, false] rfl rfl (take_ofW HT_.out HW_.out (by kernel_rfl)) (fun _ _ _ h => h) (Or.inl ⟨by rfl, ?_⟩) hHeld ?_ ?_
  rotate_left
  ·
   rintro w' ⟨s0, s1⟩
   go_simp
   with_reducible rfl
  rotate_left
  ·
   simp only [Act.put, List.setIfInBounds_toArray, List.set_cons_zero, List.set_cons_succ, i64_w, i32_w]
   rfl
  refine pure_ (i := 2) (N := some 6) (v := ?_) (a' := ?_) #[true, false, true, false] rfl rfl (any_of HT_.out (by kernel_rfl)) (fun _ _ _ h => h) (Or.inl ⟨by rfl, ?_⟩) ?_ ?_
  rotate_left
  ·
   intro w'
   go_simp
   with_reducible rfl
  rotate_left
  ·
   simp only [Act.put, List.setIfInBounds_toArray, List.set_cons_zero, List.set_cons_succ, i64_w, i32_w]
   rfl
  refine take_ (i := 1) (N := some 15) (v := ?_) (a' := ?_) #[true, true, true, false] rfl rfl (take_ofW HT_.out HW_.out (by kernel_rfl)) (fun _ _ _ h => h) (Or.inl ⟨by rfl, ?_⟩) hHeld ?_ ?_
  rotate_left
  ·
   rintro w' ⟨s0, s1⟩
   go_simp
   with_reducible rfl
  rotate_left
  ·
   simp only [Act.put, List.setIfInBounds_toArray, List.set_cons_zero, List.set_cons_succ, i64_w, i32_w]
   rfl
  refine pure_ (i := 3) (N := some 7) (v := ?_) (a' := ?_) #[true, true, true, true] rfl rfl (any_of HT_.out (by kernel_rfl)) (fun _ _ _ h => h) (Or.inl ⟨by rfl, ?_⟩) ?_ ?_
  rotate_left
  ·
   intro w'
   go_simp
   with_reducible rfl
  rotate_left
  ·
   simp only [Act.put, List.setIfInBounds_toArray, List.set_cons_zero, List.set_cons_succ, i64_w, i32_w]
   rfl
  refine done_ (done_of HT_.out (by kernel_rfl)) ?_
  go_wp2
  go_ret2
  exact ⟨_, rfl, Kd.R_mono (Kd.R_lower HR.out HBW.out.size) (fun _ _ => trivial), HB.out⟩
 ·
  cases H

end Go.Proofs.Ytjidofgojijolaa.Q
namespace Go.Proofs.Ytjidofgojijolaa.Q
open Go.RowKit Go.Proofs.YtjidofgojijolaaW.PrintWords Go.Proofs.YtjidofgojijolaaW.PrintLast Go.Proofs.YtjidofgojijolaaW.PrintMore
attribute [local go_sem] max2_int min2_int max_two min_two max_three min_three max_four min_four   -- for this text's walks alone
set_option linter.unusedVariables false
set_option linter.unusedSimpArgs false

/-! ### impl_BestTracking: function 11 -/
def impl_BestTracking.f (k : Nat) (l0 : List (S71)) (l1 : List (S71)) (a2 : Int) : Option (List Int × Int × Bool) := (impl_areStorms.f l0).bind fun t254 => (if t254 = true then ((impl_areStorms.f l1).bind fun t255 => (if t255 = true then ((impl_isPenalty.f a2).bind fun t256 => (if t256 = true then ((impl_bestTracking.f k l0 l1 a2).bind fun bt257 => (some (bt257.1, bt257.2, true))) else (some (([] : List Int), 0, false)))) else (some (([] : List Int), 0, false)))) else (some (([] : List Int), 0, false)))
theorem impl_BestTracking.mono : ∀ a0 a1 a2 k, LeO (impl_BestTracking.f k a0 a1 a2) (impl_BestTracking.f (k + 1) a0 a1 a2) := by
 intro a0 a1 a2 k
 unfold impl_BestTracking.f
 repeat' first
   | (with_reducible exact impl_bestTracking.mono _ _ _ _)
   | (with_reducible exact LeO.refl _)
   | (with_reducible exact LeO.none _)
   | (with_reducible refine LeO.ite ?_ ?_)
   | (with_reducible refine LeO.bind ?_ (fun _ => ?_))
   | exact impl_bestTracking.mono _ _ _ _
   | exact LeO.none _
   | refine LeO.ite ?_ ?_
   | refine LeO.bind ?_ (fun _ => ?_)
set_option maxHeartbeats 8000000 in
set_option maxRecDepth 100000 in
theorem impl_BestTracking.calls (k : Nat) (A0 : Option Addr) (c0 : Nat) (l0 : List (S71)) (A1 : Option Addr) (c1 : Nat) (l1 : List (S71)) (a2 : Int) (r1 : List Int) (r2 : Int) (r3 : Bool) (w : World) (hr0 : Kd.C k71 w A0 l0.length l0) (hc0 : l0.length ≤ c0) (hr1 : Kd.C k71 w A1 l1.length l1) (hc1 : l1.length ≤ c1) (h : impl_BestTracking.f k l0 l1 a2 = some (r1, r2, r3)) :
  Calls Try.prog 11 #[.slice A0 l0.length c0, .slice A1 l1.length c1, .int .i64 a2] w fun e w' => ∃ v0_ : Value, e = .returned (.tuple #[v0_, .int .i64 r2, .bool r3]) ∧ Kd.R (Kd.int .i64) 3 w' w.heap.size (fun _ => True) v0_ r1 ∧ Below w.heap.size w w' := by
 have HR0 := Aside0.mk hr0
 have HC0 := Aside0.mk hc0
 clear hr0 hc0
 have HR1 := Aside0.mk hr1
 have HC1 := Aside0.mk hc1
 clear hr1 hc1
 have HB := Aside0.mk (Below.refl w.heap.size w)
 have H : ((impl_areStorms.f l0).bind fun t254 => (if t254 = true then ((impl_areStorms.f l1).bind fun t255 => (if t255 = true then ((impl_isPenalty.f a2).bind fun t256 => (if t256 = true then ((impl_bestTracking.f k l0 l1 a2).bind fun bt257 => (some (bt257.1, bt257.2, true))) else (some (([] : List Int), 0, false)))) else (some (([] : List Int), 0, false)))) else (some (([] : List Int), 0, false)))) = some (r1, r2, r3) := h
 clear h
 replace H := Option.bind_eq_some_iff.mp H
 obtain ⟨t254, A40, H⟩ := H
 replace H : (if t254 = true then ((impl_areStorms.f l1).bind fun t255 => (if t255 = true then ((impl_isPenalty.f a2).bind fun t256 => (if t256 = true then ((impl_bestTracking.f k l0 l1 a2).bind fun bt257 => (some (bt257.1, bt257.2, true))) else (some (([] : List Int), 0, false)))) else (some (([] : List Int), 0, false)))) else (some (([] : List Int), 0, false))) = some (r1, r2, r3) := H
 have A4 := Aside0.mk A40
 clear A40
 by_cases c5 : t254 = true
 ·
  subst c5
  have H1 : ((impl_areStorms.f l1).bind fun t255 => (if t255 = true then ((impl_isPenalty.f a2).bind fun t256 => (if t256 = true then ((impl_bestTracking.f k l0 l1 a2).bind fun bt257 => (some (bt257.1, bt257.2, true))) else (some (([] : List Int), 0, false)))) else (some (([] : List Int), 0, false)))) = some (r1, r2, r3) := by rw [if_pos rfl] at H; exact H
  clear H
  have H := H1
  clear H1
  replace H := Option.bind_eq_some_iff.mp H
  obtain ⟨t255, A60, H⟩ := H
  replace H : (if t255 = true then ((impl_isPenalty.f a2).bind fun t256 => (if t256 = true then ((impl_bestTracking.f k l0 l1 a2).bind fun bt257 => (some (bt257.1, bt257.2, true))) else (some (([] : List Int), 0, false)))) else (some (([] : List Int), 0, false))) = some (r1, r2, r3) := H
  have A6 := Aside0.mk A60
  clear A60
  by_cases c7 : t255 = true
  ·
   subst c7
   have H1 : ((impl_isPenalty.f a2).bind fun t256 => (if t256 = true then ((impl_bestTracking.f k l0 l1 a2).bind fun bt257 => (some (bt257.1, bt257.2, true))) else (some (([] : List Int), 0, false)))) = some (r1, r2, r3) := by rw [if_pos rfl] at H; exact H
   clear H
   have H := H1
   clear H1
   replace H := Option.bind_eq_some_iff.mp H
   obtain ⟨t256, A80, H⟩ := H
   replace H : (if t256 = true then ((impl_bestTracking.f k l0 l1 a2).bind fun bt257 => (some (bt257.1, bt257.2, true))) else (some (([] : List Int), 0, false))) = some (r1, r2, r3) := H
   have A8 := Aside0.mk A80
   clear A80
   by_cases c9 : t256 = true
   ·
    subst c9
    have H1 : ((impl_bestTracking.f k l0 l1 a2).bind fun bt257 => (some (bt257.1, bt257.2, true))) = some (r1, r2, r3) := by rw [if_pos rfl] at H; exact H
    clear H
    have H := H1
    clear H1
    replace H := Option.bind_eq_some_iff.mp H
    obtain ⟨⟨t257, t258⟩, A100, H⟩ := H
    replace H : (some (t257, t258, true)) = some (r1, r2, r3) := H
    have A10 := Aside0.mk A100
    clear A100
    simp only [Option.some.injEq, Prod.mk.injEq] at H
    obtain ⟨rfl, rfl, rfl⟩ := H
    go_enter Try.func11, Try.ntmps11
    go_wp2_with (first | ((with_reducible refine gate_callee (f := 40) rfl ?_); refine goesL_ (some 12) rfl rfl Try.func40 (by kernel_rfl) rfl #[.slice A0 l0.length c0] rfl (by (try simp only [List.map_toArray, List.map_cons, List.map_nil]); first | done | rfl | (simp only [List.length_drop, List.length_take]; rfl)) ?_; (with_reducible refine (impl_areStorms.calls _ _ l0 true _ ?side1 ?side2 A4.out).mono ?_); (case side1 => repeat (first | exact HR0.out | (with_reducible refine Kd.C_alloc ?_ _) | (with_reducible refine Kd.C_drewN ?_ _) | (with_reducible refine Kd.C_drew ?_))); (case side2 => exact HC0.out); rintro e w11 ⟨rfl, hb⟩; refine ⟨_, rfl, ?_⟩; have n0_ := Aside0.mk (below_step (by repeat (first | (with_reducible first | exact HB.out | apply below_alloc | apply pw_below_drewN | apply below_drew1) | exact HB.out)) hb); clear HB; have HB := n0_; clear n0_; (try clear hb); (try clear hb2); (try clear hk); (try clear hi)) | (go_at_call 40; (with_reducible refine (impl_areStorms.calls _ _ l1 true _ ?side1 ?side2 A6.out).mono ?_); (case side1 => repeat (first | exact (Kd.C_below HR1.out HB.out) | (with_reducible refine Kd.C_alloc ?_ _) | (with_reducible refine Kd.C_drewN ?_ _) | (with_reducible refine Kd.C_drew ?_))); (case side2 => exact HC1.out); rintro e w12 ⟨rfl, hb⟩; have n0_ := Aside0.mk (below_step (by repeat (first | (with_reducible first | exact HB.out | apply below_alloc | apply pw_below_drewN | apply below_drew1) | exact HB.out)) hb); clear HB; have HB := n0_; clear n0_; (try clear hb); (try clear hb2); (try clear hk); (try clear hi)) | (go_at_call 35; (with_reducible refine (impl_isPenalty.calls a2 true _ A8.out).mono ?_); rintro e w' ⟨rfl, ⟨nd, rfl⟩⟩) | ((with_reducible refine gate_callee (f := 41) rfl ?_); refine goesL_ (some 28) rfl rfl Try.func41 (by kernel_rfl) rfl #[.slice A0 l0.length c0, .slice A1 l1.length c1, .int .i64 a2] rfl (by (try simp only [List.map_toArray, List.map_cons, List.map_nil]); first | done | rfl | (simp only [List.length_drop, List.length_take]; rfl)) ?_; (with_reducible refine (impl_bestTracking.calls k _ _ l0 _ _ l1 a2 t257 t258 _ ?side1 ?side2 ?side3 ?side4 A10.out).mono ?_); (case side1 => repeat (first | exact (Kd.C_below HR0.out (by repeat (first | (with_reducible first | exact HB.out | apply below_alloc | apply pw_below_drewN | apply below_drew1) | exact HB.out))) | (with_reducible refine Kd.C_alloc ?_ _) | (with_reducible refine Kd.C_drewN ?_ _) | (with_reducible refine Kd.C_drew ?_))); (case side2 => exact HC0.out); (case side3 => repeat (first | exact (Kd.C_below HR1.out (by repeat (first | (with_reducible first | exact HB.out | apply below_alloc | apply pw_below_drewN | apply below_drew1) | exact HB.out))) | (with_reducible refine Kd.C_alloc ?_ _) | (with_reducible refine Kd.C_drewN ?_ _) | (with_reducible refine Kd.C_drew ?_))); (case side4 => exact HC1.out); rintro e w13 ⟨v259, rfl, ho0, hb⟩; refine ⟨_, rfl, ?_⟩; have n0_ := Aside0.mk (Kd.R_lower ho0 (below_size (by repeat (first | (with_reducible first | exact HB.out | apply below_alloc | apply pw_below_drewN | apply below_drew1) | exact HB.out)))); have n1_ := Aside0.mk (below_step (by repeat (first | (with_reducible first | exact HB.out | apply below_alloc | apply pw_below_drewN | apply below_drew1) | exact HB.out)) hb); clear HB; have HO260 := n0_; have HB := n1_; clear n0_ n1_; (try clear hb); (try clear hb2); (try clear hk); (try clear hi); (try clear ho0)))
    go_ret3
    exact ⟨_, by first | rfl | (simp [errW_none, errW_some] <;> rfl) | (simp [*, errW_none, errW_some] <;> rfl), by (with_reducible repeat (first | apply Kd.R_alloc | apply Kd.R_drewN | apply Kd.R_drew)); exact HO260.out, by repeat (first | (with_reducible first | exact HB.out | apply below_alloc | apply pw_below_drewN | apply below_drew1) | exact HB.out)⟩
   ·
    replace c9 := Bool.eq_false_iff.mpr c9
    subst c9
    have H1 : (some (([] : List Int), 0, false)) = some (r1, r2, r3) := by rw [if_neg (show ¬ (false = true) by decide)] at H; exact H
    clear H
    have H := H1
    clear H1
    simp only [Option.some.injEq, Prod.mk.injEq] at H
    obtain ⟨rfl, rfl, rfl⟩ := H
    go_enter Try.func11, Try.ntmps11
    go_wp2_with (first | ((with_reducible refine gate_callee (f := 40) rfl ?_); refine goesL_ (some 12) rfl rfl Try.func40 (by kernel_rfl) rfl #[.slice A0 l0.length c0] rfl (by (try simp only [List.map_toArray, List.map_cons, List.map_nil]); first | done | rfl | (simp only [List.length_drop, List.length_take]; rfl)) ?_; (with_reducible refine (impl_areStorms.calls _ _ l0 true _ ?side1 ?side2 A4.out).mono ?_); (case side1 => repeat (first | exact HR0.out | (with_reducible refine Kd.C_alloc ?_ _) | (with_reducible refine Kd.C_drewN ?_ _) | (with_reducible refine Kd.C_drew ?_))); (case side2 => exact HC0.out); rintro e w14 ⟨rfl, hb⟩; refine ⟨_, rfl, ?_⟩; have n0_ := Aside0.mk (below_step (by repeat (first | (with_reducible first | exact HB.out | apply below_alloc | apply pw_below_drewN | apply below_drew1) | exact HB.out)) hb); clear HB; have HB := n0_; clear n0_; (try clear hb); (try clear hb2); (try clear hk); (try clear hi)) | (go_at_call 40; (with_reducible refine (impl_areStorms.calls _ _ l1 true _ ?side1 ?side2 A6.out).mono ?_); (case side1 => repeat (first | exact (Kd.C_below HR1.out HB.out) | (with_reducible refine Kd.C_alloc ?_ _) | (with_reducible refine Kd.C_drewN ?_ _) | (with_reducible refine Kd.C_drew ?_))); (case side2 => exact HC1.out); rintro e w15 ⟨rfl, hb⟩; have n0_ := Aside0.mk (below_step (by repeat (first | (with_reducible first | exact HB.out | apply below_alloc | apply pw_below_drewN | apply below_drew1) | exact HB.out)) hb); clear HB; have HB := n0_; clear n0_; (try clear hb); (try clear hb2); (try clear hk); (try clear hi)) | (go_at_call 35; (with_reducible refine (impl_isPenalty.calls a2 false _ A8.out).mono ?_); rintro e w' ⟨rfl, ⟨nd, rfl⟩⟩))
    go_ret3
    exact ⟨_, by first | rfl | (simp [errW_none, errW_some] <;> rfl) | (simp [*, errW_none, errW_some] <;> rfl), by first | exact Kd.R_nil _ _ _ _ _ | exact Kd.N_nil _ _ _ _ _ | exact Kd.V_nil _ _ _ _ _ | exact Kd.Q_nil _ _ _ _ _ | exact Kd.S_nil _ _ _ _ _, by repeat (first | (with_reducible first | exact HB.out | apply below_alloc | apply pw_below_drewN | apply below_drew1) | exact HB.out)⟩
  ·
   replace c7 := Bool.eq_false_iff.mpr c7
   subst c7
   have H1 : (some (([] : List Int), 0, false)) = some (r1, r2, r3) := by rw [if_neg (show ¬ (false = true) by decide)] at H; exact H
   clear H
   have H := H1
   clear H1
   simp only [Option.some.injEq, Prod.mk.injEq] at H
   obtain ⟨rfl, rfl, rfl⟩ := H
   go_enter Try.func11, Try.ntmps11
   go_wp2_with (first | ((with_reducible refine gate_callee (f := 40) rfl ?_); refine goesL_ (some 12) rfl rfl Try.func40 (by kernel_rfl) rfl #[.slice A0 l0.length c0] rfl (by (try simp only [List.map_toArray, List.map_cons, List.map_nil]); first | done | rfl | (simp only [List.length_drop, List.length_take]; rfl)) ?_; (with_reducible refine (impl_areStorms.calls _ _ l0 true _ ?side1 ?side2 A4.out).mono ?_); (case side1 => repeat (first | exact HR0.out | (with_reducible refine Kd.C_alloc ?_ _) | (with_reducible refine Kd.C_drewN ?_ _) | (with_reducible refine Kd.C_drew ?_))); (case side2 => exact HC0.out); rintro e w16 ⟨rfl, hb⟩; refine ⟨_, rfl, ?_⟩; have n0_ := Aside0.mk (below_step (by repeat (first | (with_reducible first | exact HB.out | apply below_alloc | apply pw_below_drewN | apply below_drew1) | exact HB.out)) hb); clear HB; have HB := n0_; clear n0_; (try clear hb); (try clear hb2); (try clear hk); (try clear hi)) | (go_at_call 40; (with_reducible refine (impl_areStorms.calls _ _ l1 false _ ?side1 ?side2 A6.out).mono ?_); (case side1 => repeat (first | exact (Kd.C_below HR1.out HB.out) | (with_reducible refine Kd.C_alloc ?_ _) | (with_reducible refine Kd.C_drewN ?_ _) | (with_reducible refine Kd.C_drew ?_))); (case side2 => exact HC1.out); rintro e w17 ⟨rfl, hb⟩; have n0_ := Aside0.mk (below_step (by repeat (first | (with_reducible first | exact HB.out | apply below_alloc | apply pw_below_drewN | apply below_drew1) | exact HB.out)) hb); clear HB; have HB := n0_; clear n0_; (try clear hb); (try clear hb2); (try clear hk); (try clear hi)))
   go_ret3
   exact ⟨_, by first | rfl | (simp [errW_none, errW_some] <;> rfl) | (simp [*, errW_none, errW_some] <;> rfl), by first | exact Kd.R_nil _ _ _ _ _ | exact Kd.N_nil _ _ _ _ _ | exact Kd.V_nil _ _ _ _ _ | exact Kd.Q_nil _ _ _ _ _ | exact Kd.S_nil _ _ _ _ _, by repeat (first | (with_reducible first | exact HB.out | apply below_alloc | apply pw_below_drewN | apply below_drew1) | exact HB.out)⟩
 ·
  replace c5 := Bool.eq_false_iff.mpr c5
  subst c5
  have H1 : (some (([] : List Int), 0, false)) = some (r1, r2, r3) := by rw [if_neg (show ¬ (false = true) by decide)] at H; exact H
  clear H
  have H := H1
  clear H1
  simp only [Option.some.injEq, Prod.mk.injEq] at H
  obtain ⟨rfl, rfl, rfl⟩ := H
  go_enter Try.func11, Try.ntmps11
  go_wp2_with (first | ((with_reducible refine gate_callee (f := 40) rfl ?_); refine goesL_ (some 12) rfl rfl Try.func40 (by kernel_rfl) rfl #[.slice A0 l0.length c0] rfl (by (try simp only [List.map_toArray, List.map_cons, List.map_nil]); first | done | rfl | (simp only [List.length_drop, List.length_take]; rfl)) ?_; (with_reducible refine (impl_areStorms.calls _ _ l0 false _ ?side1 ?side2 A4.out).mono ?_); (case side1 => repeat (first | exact HR0.out | (with_reducible refine Kd.C_alloc ?_ _) | (with_reducible refine Kd.C_drewN ?_ _) | (with_reducible refine Kd.C_drew ?_))); (case side2 => exact HC0.out); rintro e w18 ⟨rfl, hb⟩; refine ⟨_, rfl, ?_⟩; have n0_ := Aside0.mk (below_step (by repeat (first | (with_reducible first | exact HB.out | apply below_alloc | apply pw_below_drewN | apply below_drew1) | exact HB.out)) hb); clear HB; have HB := n0_; clear n0_; (try clear hb); (try clear hb2); (try clear hk); (try clear hi)))
  go_ret3
  exact ⟨_, by first | rfl | (simp [errW_none, errW_some] <;> rfl) | (simp [*, errW_none, errW_some] <;> rfl), by first | exact Kd.R_nil _ _ _ _ _ | exact Kd.N_nil _ _ _ _ _ | exact Kd.V_nil _ _ _ _ _ | exact Kd.Q_nil _ _ _ _ _ | exact Kd.S_nil _ _ _ _ _, by repeat (first | (with_reducible first | exact HB.out | apply below_alloc | apply pw_below_drewN | apply below_drew1) | exact HB.out)⟩

end Go.Proofs.Ytjidofgojijolaa.Q
namespace Go.Proofs.Ytjidofgojijolaa.Q
open Go.RowKit Go.Proofs.YtjidofgojijolaaW.PrintWords Go.Proofs.YtjidofgojijolaaW.PrintLast Go.Proofs.YtjidofgojijolaaW.PrintMore
attribute [local go_sem] max2_int min2_int max_two min_two max_three min_three max_four min_four   -- for this text's walks alone
set_option linter.unusedVariables false
set_option linter.unusedSimpArgs false

/-! ### spec_l1In: function 48 -/
def spec_l1In.f (a0 : Int) (a1 : Int) (a2 : Int) : Option (Bool) := if a0 ≥ a1 then (some (decide (a0 ≤ a2))) else (some false)
set_option maxHeartbeats 8000000 in
set_option maxRecDepth 100000 in
theorem spec_l1In.calls (a0 : Int) (a1 : Int) (a2 : Int) (r : Bool) (w : World) (h : spec_l1In.f a0 a1 a2 = some r) :
  Calls Try.prog 48 #[.int .i64 a0, .int .i64 a1, .int .i64 a2] w fun e w' => e = .returned (.bool r) ∧ Drawn0 w w' := by
 have H : (if a0 ≥ a1 then (some (decide (a0 ≤ a2))) else (some false)) = some r := h
 clear h
 by_cases c4 : a0 ≥ a1
 ·
  rw [if_pos c4] at H
  have c4b0 : decide (a1 ≤ a0) = true := decide_eq_true c4
  clear c4
  obtain rfl := Option.some.inj H
  go_enter Try.func48, Try.ntmps48
  go_wp2
  go_ret
  exact ⟨by first | rfl | (simp; done) | (simp [*]; done), by repeat (first | exact Drawn0.refl _ | apply Drawn0.step)⟩
 ·
  rw [if_neg c4] at H
  have c4b0 : decide (a1 ≤ a0) = false := decide_eq_false c4
  clear c4
  obtain rfl := Option.some.inj H
  go_enter Try.func48, Try.ntmps48
  go_wp2
  go_ret
  exact ⟨by first | rfl | (simp; done) | (simp [*]; done), by repeat (first | exact Drawn0.refl _ | apply Drawn0.step)⟩

end Go.Proofs.Ytjidofgojijolaa.Q
namespace Go.Proofs.Ytjidofgojijolaa.Q
open Go.RowKit Go.Proofs.YtjidofgojijolaaW.PrintWords Go.Proofs.YtjidofgojijolaaW.PrintLast Go.Proofs.YtjidofgojijolaaW.PrintMore
attribute [local go_sem] max2_int min2_int max_two min_two max_three min_three max_four min_four   -- for this text's walks alone
set_option linter.unusedVariables false
set_option linter.unusedSimpArgs false

/-! ### spec_l12Good: function 64 -/
def spec_l12Good.f (a0_0 : Int) (a0_1 : Int) (a0_2 : Int) (a0_3 : Int) : Option (Bool) := (spec_l1In.f a0_0 0 7).bind fun t226 => (if t226 = true then ((spec_l1In.f a0_1 0 7).bind fun t227 => (if t227 = true then ((spec_l1In.f a0_2 1 64).bind fun t228 => (if t228 = true then ((spec_l1In.f a0_3 (-9000) 9000).bind fun t229 => (some t229)) else (some false))) else (some false))) else (some false))
set_option maxHeartbeats 8000000 in
set_option maxRecDepth 100000 in
theorem spec_l12Good.calls (a0_0 : Int) (a0_1 : Int) (a0_2 : Int) (a0_3 : Int) (r : Bool) (w : World) (h : spec_l12Good.f a0_0 a0_1 a0_2 a0_3 = some r) :
  Calls Try.prog 64 #[.agg #[.int .i64 a0_0, .int .i64 a0_1, .int .i64 a0_2, .int .i64 a0_3]] w fun e w' => e = .returned (.bool r) ∧ Below w.heap.size w w' := by
 have hu71 := Try.underlying71
 have HB := Aside0.mk (Below.refl w.heap.size w)
 have H : ((spec_l1In.f a0_0 0 7).bind fun t226 => (if t226 = true then ((spec_l1In.f a0_1 0 7).bind fun t227 => (if t227 = true then ((spec_l1In.f a0_2 1 64).bind fun t228 => (if t228 = true then ((spec_l1In.f a0_3 (-9000) 9000).bind fun t229 => (some t229)) else (some false))) else (some false))) else (some false))) = some r := h
 clear h
 replace H := Option.bind_eq_some_iff.mp H
 obtain ⟨t226, A20, H⟩ := H
 replace H : (if t226 = true then ((spec_l1In.f a0_1 0 7).bind fun t227 => (if t227 = true then ((spec_l1In.f a0_2 1 64).bind fun t228 => (if t228 = true then ((spec_l1In.f a0_3 (-9000) 9000).bind fun t229 => (some t229)) else (some false))) else (some false))) else (some false)) = some r := H
 have A2 := Aside0.mk A20
 clear A20
 by_cases c3 : t226 = true
 ·
  subst c3
  have H1 : ((spec_l1In.f a0_1 0 7).bind fun t227 => (if t227 = true then ((spec_l1In.f a0_2 1 64).bind fun t228 => (if t228 = true then ((spec_l1In.f a0_3 (-9000) 9000).bind fun t229 => (some t229)) else (some false))) else (some false))) = some r := by rw [if_pos rfl] at H; exact H
  clear H
  have H := H1
  clear H1
  replace H := Option.bind_eq_some_iff.mp H
  obtain ⟨t227, A40, H⟩ := H
  replace H : (if t227 = true then ((spec_l1In.f a0_2 1 64).bind fun t228 => (if t228 = true then ((spec_l1In.f a0_3 (-9000) 9000).bind fun t229 => (some t229)) else (some false))) else (some false)) = some r := H
  have A4 := Aside0.mk A40
  clear A40
  by_cases c5 : t227 = true
  ·
   subst c5
   have H1 : ((spec_l1In.f a0_2 1 64).bind fun t228 => (if t228 = true then ((spec_l1In.f a0_3 (-9000) 9000).bind fun t229 => (some t229)) else (some false))) = some r := by rw [if_pos rfl] at H; exact H
   clear H
   have H := H1
   clear H1
   replace H := Option.bind_eq_some_iff.mp H
   obtain ⟨t228, A60, H⟩ := H
   replace H : (if t228 = true then ((spec_l1In.f a0_3 (-9000) 9000).bind fun t229 => (some t229)) else (some false)) = some r := H
   have A6 := Aside0.mk A60
   clear A60
   by_cases c7 : t228 = true
   ·
    subst c7
    have H1 : ((spec_l1In.f a0_3 (-9000) 9000).bind fun t229 => (some t229)) = some r := by rw [if_pos rfl] at H; exact H
    clear H
    have H := H1
    clear H1
    replace H := Option.bind_eq_some_iff.mp H
    obtain ⟨t229, A80, H⟩ := H
    replace H : (some t229) = some r := H
    have A8 := Aside0.mk A80
    clear A80
    obtain rfl := Option.some.inj H
    go_enter Try.func64, Try.ntmps64
    go_wp2_with (first | ((with_reducible refine gate_dst (N := 1) rfl ?_); refine box_event ?hg (N := 1) ?hd (cs := #[.int .i64 a0_0, .int .i64 a0_1, .int .i64 a0_2, .int .i64 a0_3]) (t := 71) ?hr ?_; (case hd => rfl); (case hg => rfl); (case hr => first | (go_simp; done) | (go_simp; rfl)); intro gb225 hg w9 hbox hb; have n0_ := Aside0.mk (below_step (by repeat (first | (with_reducible first | exact HB.out | apply below_alloc | apply pw_below_drewN | apply below_drew1) | exact HB.out)) hb); have n1_ := Aside0.mk (hbox); have n2_ := Aside0.mk ((by rw [hg]; exact (below_size (by repeat (first | (with_reducible first | exact HB.out | apply below_alloc | apply pw_below_drewN | apply below_drew1) | exact HB.out))) : w.heap.size ≤ gb225)); have n3_ := Aside0.mk ((by rw [hg]; exact (below_size (by repeat (first | (with_reducible first | exact HB.out | apply below_alloc | apply pw_below_drewN | apply below_drew1) | exact HB.out))) : w.heap.size ≤ gb225)); clear HB; have HB := n0_; have BK225 := n1_; have GW225 := n2_; have GE225 := n3_; clear n0_ n1_ n2_ n3_; clear hb hbox hg; have hcz10_0 : w9.cell? ⟨gb225, 0, none⟩ = some (.int .i64 a0_0) := (blk_cell BK225.out 0).trans rfl; have hcz10_1 : w9.cell? ⟨gb225, 1, none⟩ = some (.int .i64 a0_1) := (blk_cell BK225.out 1).trans rfl; have hcz10_2 : w9.cell? ⟨gb225, 2, none⟩ = some (.int .i64 a0_2) := (blk_cell BK225.out 2).trans rfl; have hcz10_3 : w9.cell? ⟨gb225, 3, none⟩ = some (.int .i64 a0_3) := (blk_cell BK225.out 3).trans rfl; have hfz10_0 := blk_frozen BK225.out 0; have hfz10_1 := blk_frozen BK225.out 1; have hfz10_2 := blk_frozen BK225.out 2; have hfz10_3 := blk_frozen BK225.out 3) | ((with_reducible refine gate_callee (f := 48) rfl ?_); refine goesL_ (some 5) rfl rfl Try.func48 (by kernel_rfl) rfl #[.int .i64 a0_0, .int .i64 0, .int .i64 7] rfl (by (try simp only [List.map_toArray, List.map_cons, List.map_nil]); first | done | rfl | (simp only [List.length_drop, List.length_take]; rfl)) ?_; (with_reducible refine (spec_l1In.calls a0_0 0 7 true _ A2.out).mono ?_); rintro e w' ⟨rfl, ⟨nd, rfl⟩⟩; refine ⟨_, rfl, ?_⟩) | (go_at_call 48; (with_reducible refine (spec_l1In.calls a0_1 0 7 true _ A4.out).mono ?_); rintro e w' ⟨rfl, ⟨nd, rfl⟩⟩) | (go_at_call 48; (with_reducible refine (spec_l1In.calls a0_2 1 64 true _ A6.out).mono ?_); rintro e w' ⟨rfl, ⟨nd, rfl⟩⟩) | (go_at_call 48; (with_reducible refine (spec_l1In.calls a0_3 (-9000) 9000 t229 _ A8.out).mono ?_); rintro e w' ⟨rfl, ⟨nd, rfl⟩⟩))
    go_ret
    exact ⟨by first | rfl | (simp [errW_none, errW_some] <;> rfl) | (simp [*, errW_none, errW_some] <;> rfl), by repeat (first | (with_reducible first | exact HB.out | apply below_alloc | apply pw_below_drewN | apply below_drew1 | refine below_set ?_ GE225.out) | exact HB.out)⟩
   ·
    replace c7 := Bool.eq_false_iff.mpr c7
    subst c7
    have H1 : (some false) = some r := by rw [if_neg (show ¬ (false = true) by decide)] at H; exact H
    clear H
    have H := H1
    clear H1
    obtain rfl := Option.some.inj H
    go_enter Try.func64, Try.ntmps64
    go_wp2_with (first | ((with_reducible refine gate_dst (N := 1) rfl ?_); refine box_event ?hg (N := 1) ?hd (cs := #[.int .i64 a0_0, .int .i64 a0_1, .int .i64 a0_2, .int .i64 a0_3]) (t := 71) ?hr ?_; (case hd => rfl); (case hg => rfl); (case hr => first | (go_simp; done) | (go_simp; rfl)); intro gb225 hg w11 hbox hb; have n0_ := Aside0.mk (below_step (by repeat (first | (with_reducible first | exact HB.out | apply below_alloc | apply pw_below_drewN | apply below_drew1) | exact HB.out)) hb); have n1_ := Aside0.mk (hbox); have n2_ := Aside0.mk ((by rw [hg]; exact (below_size (by repeat (first | (with_reducible first | exact HB.out | apply below_alloc | apply pw_below_drewN | apply below_drew1) | exact HB.out))) : w.heap.size ≤ gb225)); have n3_ := Aside0.mk ((by rw [hg]; exact (below_size (by repeat (first | (with_reducible first | exact HB.out | apply below_alloc | apply pw_below_drewN | apply below_drew1) | exact HB.out))) : w.heap.size ≤ gb225)); clear HB; have HB := n0_; have BK225 := n1_; have GW225 := n2_; have GE225 := n3_; clear n0_ n1_ n2_ n3_; clear hb hbox hg; have hcz12_0 : w11.cell? ⟨gb225, 0, none⟩ = some (.int .i64 a0_0) := (blk_cell BK225.out 0).trans rfl; have hcz12_1 : w11.cell? ⟨gb225, 1, none⟩ = some (.int .i64 a0_1) := (blk_cell BK225.out 1).trans rfl; have hcz12_2 : w11.cell? ⟨gb225, 2, none⟩ = some (.int .i64 a0_2) := (blk_cell BK225.out 2).trans rfl; have hcz12_3 : w11.cell? ⟨gb225, 3, none⟩ = some (.int .i64 a0_3) := (blk_cell BK225.out 3).trans rfl; have hfz12_0 := blk_frozen BK225.out 0; have hfz12_1 := blk_frozen BK225.out 1; have hfz12_2 := blk_frozen BK225.out 2; have hfz12_3 := blk_frozen BK225.out 3) | ((with_reducible refine gate_callee (f := 48) rfl ?_); refine goesL_ (some 5) rfl rfl Try.func48 (by kernel_rfl) rfl #[.int .i64 a0_0, .int .i64 0, .int .i64 7] rfl (by (try simp only [List.map_toArray, List.map_cons, List.map_nil]); first | done | rfl | (simp only [List.length_drop, List.length_take]; rfl)) ?_; (with_reducible refine (spec_l1In.calls a0_0 0 7 true _ A2.out).mono ?_); rintro e w' ⟨rfl, ⟨nd, rfl⟩⟩; refine ⟨_, rfl, ?_⟩) | (go_at_call 48; (with_reducible refine (spec_l1In.calls a0_1 0 7 true _ A4.out).mono ?_); rintro e w' ⟨rfl, ⟨nd, rfl⟩⟩) | (go_at_call 48; (with_reducible refine (spec_l1In.calls a0_2 1 64 false _ A6.out).mono ?_); rintro e w' ⟨rfl, ⟨nd, rfl⟩⟩))
    go_ret
    exact ⟨by first | rfl | (simp [errW_none, errW_some] <;> rfl) | (simp [*, errW_none, errW_some] <;> rfl), by repeat (first | (with_reducible first | exact HB.out | apply below_alloc | apply pw_below_drewN | apply below_drew1 | refine below_set ?_ GE225.out) | exact HB.out)⟩
  ·
   replace c5 := Bool.eq_false_iff.mpr c5
   subst c5
   have H1 : (some false) = some r := by rw [if_neg (show ¬ (false = true) by decide)] at H; exact H
   clear H
   have H := H1
   clear H1
   obtain rfl := Option.some.inj H
   go_enter Try.func64, Try.ntmps64
   go_wp2_with (first | ((with_reducible refine gate_dst (N := 1) rfl ?_); refine box_event ?hg (N := 1) ?hd (cs := #[.int .i64 a0_0, .int .i64 a0_1, .int .i64 a0_2, .int .i64 a0_3]) (t := 71) ?hr ?_; (case hd => rfl); (case hg => rfl); (case hr => first | (go_simp; done) | (go_simp; rfl)); intro gb225 hg w13 hbox hb; have n0_ := Aside0.mk (below_step (by repeat (first | (with_reducible first | exact HB.out | apply below_alloc | apply pw_below_drewN | apply below_drew1) | exact HB.out)) hb); have n1_ := Aside0.mk (hbox); have n2_ := Aside0.mk ((by rw [hg]; exact (below_size (by repeat (first | (with_reducible first | exact HB.out | apply below_alloc | apply pw_below_drewN | apply below_drew1) | exact HB.out))) : w.heap.size ≤ gb225)); have n3_ := Aside0.mk ((by rw [hg]; exact (below_size (by repeat (first | (with_reducible first | exact HB.out | apply below_alloc | apply pw_below_drewN | apply below_drew1) | exact HB.out))) : w.heap.size ≤ gb225)); clear HB; have HB := n0_; have BK225 := n1_; have GW225 := n2_; have GE225 := n3_; clear n0_ n1_ n2_ n3_; clear hb hbox hg; have hcz14_0 : w13.cell? ⟨gb225, 0, none⟩ = some (.int .i64 a0_0) := (blk_cell BK225.out 0).trans rfl; have hcz14_1 : w13.cell? ⟨gb225, 1, none⟩ = some (.int .i64 a0_1) := (blk_cell BK225.out 1).trans rfl; have hcz14_2 : w13.cell? ⟨gb225, 2, none⟩ = some (.int .i64 a0_2) := (blk_cell BK225.out 2).trans rfl; have hcz14_3 : w13.cell? ⟨gb225, 3, none⟩ = some (.int .i64 a0_3) := (blk_cell BK225.out 3).trans rfl; have hfz14_0 := blk_frozen BK225.out 0; have hfz14_1 := blk_frozen BK225.out 1; have hfz14_2 := blk_frozen BK225.out 2; have hfz14_3 := blk_frozen BK225.out 3) | ((with_reducible refine gate_callee (f := 48) rfl ?_); refine goesL_ (some 5) rfl rfl Try.func48 (by kernel_rfl) rfl #[.int .i64 a0_0, .int .i64 0, .int .i64 7] rfl (by (try simp only [List.map_toArray, List.map_cons, List.map_nil]); first | done | rfl | (simp only [List.length_drop, List.length_take]; rfl)) ?_; (with_reducible refine (spec_l1In.calls a0_0 0 7 true _ A2.out).mono ?_); rintro e w' ⟨rfl, ⟨nd, rfl⟩⟩; refine ⟨_, rfl, ?_⟩) | (go_at_call 48; (with_reducible refine (spec_l1In.calls a0_1 0 7 false _ A4.out).mono ?_); rintro e w' ⟨rfl, ⟨nd, rfl⟩⟩))
   go_ret
   exact ⟨by first | rfl | (simp [errW_none, errW_some] <;> rfl) | (simp [*, errW_none, errW_some] <;> rfl), by repeat (first | (with_reducible first | exact HB.out | apply below_alloc | apply pw_below_drewN | apply below_drew1 | refine below_set ?_ GE225.out) | exact HB.out)⟩
 ·
  replace c3 := Bool.eq_false_iff.mpr c3
  subst c3
  have H1 : (some false) = some r := by rw [if_neg (show ¬ (false = true) by decide)] at H; exact H
  clear H
  have H := H1
  clear H1
  obtain rfl := Option.some.inj H
  go_enter Try.func64, Try.ntmps64
  go_wp2_with (first | ((with_reducible refine gate_dst (N := 1) rfl ?_); refine box_event ?hg (N := 1) ?hd (cs := #[.int .i64 a0_0, .int .i64 a0_1, .int .i64 a0_2, .int .i64 a0_3]) (t := 71) ?hr ?_; (case hd => rfl); (case hg => rfl); (case hr => first | (go_simp; done) | (go_simp; rfl)); intro gb225 hg w15 hbox hb; have n0_ := Aside0.mk (below_step (by repeat (first | (with_reducible first | exact HB.out | apply below_alloc | apply pw_below_drewN | apply below_drew1) | exact HB.out)) hb); have n1_ := Aside0.mk (hbox); have n2_ := Aside0.mk ((by rw [hg]; exact (below_size (by repeat (first | (with_reducible first | exact HB.out | apply below_alloc | apply pw_below_drewN | apply below_drew1) | exact HB.out))) : w.heap.size ≤ gb225)); have n3_ := Aside0.mk ((by rw [hg]; exact (below_size (by repeat (first | (with_reducible first | exact HB.out | apply below_alloc | apply pw_below_drewN | apply below_drew1) | exact HB.out))) : w.heap.size ≤ gb225)); clear HB; have HB := n0_; have BK225 := n1_; have GW225 := n2_; have GE225 := n3_; clear n0_ n1_ n2_ n3_; clear hb hbox hg; have hcz16_0 : w15.cell? ⟨gb225, 0, none⟩ = some (.int .i64 a0_0) := (blk_cell BK225.out 0).trans rfl; have hcz16_1 : w15.cell? ⟨gb225, 1, none⟩ = some (.int .i64 a0_1) := (blk_cell BK225.out 1).trans rfl; have hcz16_2 : w15.cell? ⟨gb225, 2, none⟩ = some (.int .i64 a0_2) := (blk_cell BK225.out 2).trans rfl; have hcz16_3 : w15.cell? ⟨gb225, 3, none⟩ = some (.int .i64 a0_3) := (blk_cell BK225.out 3).trans rfl; have hfz16_0 := blk_frozen BK225.out 0; have hfz16_1 := blk_frozen BK225.out 1; have hfz16_2 := blk_frozen BK225.out 2; have hfz16_3 := blk_frozen BK225.out 3) | ((with_reducible refine gate_callee (f := 48) rfl ?_); refine goesL_ (some 5) rfl rfl Try.func48 (by kernel_rfl) rfl #[.int .i64 a0_0, .int .i64 0, .int .i64 7] rfl (by (try simp only [List.map_toArray, List.map_cons, List.map_nil]); first | done | rfl | (simp only [List.length_drop, List.length_take]; rfl)) ?_; (with_reducible refine (spec_l1In.calls a0_0 0 7 false _ A2.out).mono ?_); rintro e w' ⟨rfl, ⟨nd, rfl⟩⟩; refine ⟨_, rfl, ?_⟩))
  go_ret
  exact ⟨by first | rfl | (simp [errW_none, errW_some] <;> rfl) | (simp [*, errW_none, errW_some] <;> rfl), by repeat (first | (with_reducible first | exact HB.out | apply below_alloc | apply pw_below_drewN | apply below_drew1 | refine below_set ?_ GE225.out) | exact HB.out)⟩

end Go.Proofs.Ytjidofgojijolaa.Q
namespace Go.Proofs.Ytjidofgojijolaa.Q
open Go.RowKit Go.Proofs.YtjidofgojijolaaW.PrintWords Go.Proofs.YtjidofgojijolaaW.PrintLast Go.Proofs.YtjidofgojijolaaW.PrintMore
attribute [local go_sem] max2_int min2_int max_two min_two max_three min_three max_four min_four   -- for this text's walks alone
set_option linter.unusedVariables false
set_option linter.unusedSimpArgs false

/-! ### spec_l12List: function 42 -/
mutual
def spec_l12List.l0 : Nat → List (S71) → Int → Option (Bool)
 | 0, _, _ => none
 | k + 1, x0, x3 => if x3 < (x0.length : Int) then (spec_l12List.j1 k x0 x3 (decide (x3 ≤ 5))) else (spec_l12List.j1 k x0 x3 false)
def spec_l12List.j1 : Nat → List (S71) → Int → Bool → Option (Bool)
 | 0, _, _, _ => none
 | k + 1, x0, x3, x11 => if x11 = true then (if 0 ≤ x3 then (if x3 < (x0.length : Int) then ((spec_l12Good.f ((rd_T71 x0 x3).f0) ((rd_T71 x0 x3).f1) ((rd_T71 x0 x3).f2) ((rd_T71 x0 x3).f3)).bind fun t231 => (if t231 = true then (spec_l12List.l0 k x0 (wrap64 (x3 + 1))) else (some false))) else (none)) else (none)) else (some (decide ((x0.length : Int) ≤ 5)))
end
def spec_l12List.f (k : Nat) (l0 : List (S71)) : Option (Bool) := spec_l12List.l0 k l0 0
theorem spec_l12List.mono_l : ∀ k, (∀ y0 y1, LeO (spec_l12List.l0 k y0 y1) (spec_l12List.l0 (k + 1) y0 y1)) ∧ (∀ y0 y1 y2, LeO (spec_l12List.j1 k y0 y1 y2) (spec_l12List.j1 (k + 1) y0 y1 y2))
 | 0 => ⟨fun _ _ r h => by simp [spec_l12List.l0] at h, fun _ _ _ r h => by simp [spec_l12List.j1] at h⟩
 | k + 1 => by
  obtain ⟨ih0, ih1⟩ := spec_l12List.mono_l k
  refine ⟨?_, ?_⟩
  ·
   intro y0 y1
   unfold spec_l12List.l0
   repeat' first
   | (with_reducible exact ih0 _ _)
   | (with_reducible exact ih1 _ _ _)
   | (with_reducible exact LeO.refl _)
   | (with_reducible exact LeO.none _)
   | (with_reducible refine LeO.ite ?_ ?_)
   | (with_reducible refine LeO.bind ?_ (fun _ => ?_))
   | exact ih0 _ _
   | exact ih1 _ _ _
   | exact LeO.none _
   | refine LeO.ite ?_ ?_
   | refine LeO.bind ?_ (fun _ => ?_)
  ·
   intro y0 y1 y2
   unfold spec_l12List.j1
   repeat' first
   | (with_reducible exact ih0 _ _)
   | (with_reducible exact ih1 _ _ _)
   | (with_reducible exact LeO.refl _)
   | (with_reducible exact LeO.none _)
   | (with_reducible refine LeO.ite ?_ ?_)
   | (with_reducible refine LeO.bind ?_ (fun _ => ?_))
   | exact ih0 _ _
   | exact ih1 _ _ _
   | exact LeO.none _
   | refine LeO.ite ?_ ?_
   | refine LeO.bind ?_ (fun _ => ?_)
theorem spec_l12List.mono : ∀ a0 k, LeO (spec_l12List.f k a0) (spec_l12List.f (k + 1) a0) := by
 intro a0 k
 obtain ⟨ih0, ih1⟩ := spec_l12List.mono_l k
 unfold spec_l12List.f
 repeat' first
   | (with_reducible exact ih0 _ _)
   | (with_reducible exact ih1 _ _ _)
   | (with_reducible exact LeO.refl _)
   | (with_reducible exact LeO.none _)
   | (with_reducible refine LeO.ite ?_ ?_)
   | (with_reducible refine LeO.bind ?_ (fun _ => ?_))
   | exact ih0 _ _
   | exact ih1 _ _ _
   | exact LeO.none _
   | refine LeO.ite ?_ ?_
   | refine LeO.bind ?_ (fun _ => ?_)
set_option maxHeartbeats 8000000 in
set_option maxRecDepth 100000 in
theorem spec_l12List.calls (k : Nat) (A0 : Option Addr) (c0 : Nat) (l0 : List (S71)) (r : Bool) (w : World) (hr0 : Kd.C k71 w A0 l0.length l0) (hc0 : l0.length ≤ c0) (h : spec_l12List.f k l0 = some r) :
  Calls Try.prog 42 #[.slice A0 l0.length c0] w fun e w' => e = .returned (.bool r) ∧ Below w.heap.size w w' := by
 have hu71 := Try.underlying71
 have HR0 := Aside0.mk hr0
 have HC0 := Aside0.mk hc0
 clear hr0 hc0
 have HB := Aside0.mk (Below.refl w.heap.size w)
 have H : (spec_l12List.l0 k l0 0) = some r := h
 clear h
 have H' := Aside0.mk H
 clear H
 go_enter Try.func42, Try.ntmps42
 go_wp2
 go_loopg [3] k (fun kq v3 w' => ∃ (x3_1 : Int), v3 = .int .i64 x3_1 ∧ Aside0 (spec_l12List.l0 kq l0 x3_1 = some r) ∧ Aside0 (kq ≤ k) ∧ Aside0 (Below w.heap.size w w'))
 case atStart => exact ⟨(0), (by first | rfl | (simp; done) | (simp [*]; done)), H', ⟨Nat.le_refl _⟩, ⟨by repeat (first | (with_reducible first | exact HB.out | apply below_alloc | apply pw_below_drewN | apply below_drew1) | exact HB.out)⟩⟩
 case round =>
  clear H'
  obtain ⟨x3_1, rfl, HA, HK1, HB⟩ := hrel
  cases gk with
  | zero => exact absurd HA.out (by simp [spec_l12List.l0])
  | succ k1 =>
   have H := HA.out
   clear HA
   simp only [spec_l12List.l0] at H
   have HC2 := Aside0.mk H
   clear H
   go_upto_region 2 with (fail)
   go_cut [11] (fun v11 wc => ∃ (kq : Nat) (x11_1 : Bool), v11 = .bool x11_1 ∧ Aside0 (spec_l12List.j1 kq l0 x3_1 x11_1 = some r) ∧ Aside0 (kq ≤ k1) ∧ Aside0 (Below w.heap.size w wc))
   case first =>
    have H := HC2.out
    clear HC2
    by_cases c3 : x3_1 < (l0.length : Int)
    ·
     rw [if_pos c3] at H
     have c3b0 : decide (x3_1 < (l0.length : Int)) = true := decide_eq_true c3
     clear c3
     (first | rw [c3b0] | (simp only [i64_w, i32_w]; rw [c3b0]) | skip)
     have H' := Aside0.mk H
     clear H
     go_wp2
     go_meet
     case rel => exact ⟨_, (decide (x3_1 ≤ 5)), (by first | rfl | (simp; done) | (simp [*]; done)), H', ⟨by have := HK1.out; first | omega | exact Nat.le_refl _⟩, ⟨by repeat (first | (with_reducible first | exact HB.out | apply below_alloc | apply pw_below_drewN | apply below_drew1) | exact HB.out)⟩⟩
    ·
     rw [if_neg c3] at H
     have c3b0 : decide (x3_1 < (l0.length : Int)) = false := decide_eq_false c3
     clear c3
     (first | rw [c3b0] | (simp only [i64_w, i32_w]; rw [c3b0]) | skip)
     have H' := Aside0.mk H
     clear H
     go_wp2
     go_meet
     case rel => exact ⟨_, (false), (by first | rfl | (simp; done) | (simp [*]; done)), H', ⟨by have := HK1.out; first | omega | exact Nat.le_refl _⟩, ⟨by repeat (first | (with_reducible first | exact HB.out | apply below_alloc | apply pw_below_drewN | apply below_drew1) | exact HB.out)⟩⟩
   case rest =>
    clear HC2
    try clear p2
    try clear c3
    try clear c3b0
    obtain ⟨kq, x11_1, rfl, HA, HJ1, HB⟩ := hcut
    cases kq with
    | zero => exact absurd HA.out (by simp [spec_l12List.j1])
    | succ kj1 =>
     have H := HA.out
     clear HA
     simp only [spec_l12List.j1] at H
     by_cases c4 : x11_1 = true
     ·
      subst c4
      have H1 : (if 0 ≤ x3_1 then (if x3_1 < (l0.length : Int) then ((spec_l12Good.f ((rd_T71 l0 x3_1).f0) ((rd_T71 l0 x3_1).f1) ((rd_T71 l0 x3_1).f2) ((rd_T71 l0 x3_1).f3)).bind fun t231 => (if t231 = true then (spec_l12List.l0 kj1 l0 (wrap64 (x3_1 + 1))) else (some false))) else (none)) else (none)) = some r := by rw [if_pos rfl] at H; exact H
      clear H
      have H := H1
      clear H1
      by_cases c5 : 0 ≤ x3_1
      ·
       rw [if_pos c5] at H
       have c5b0 : decide (0 ≤ x3_1) = true := decide_eq_true c5
       clear c5
       by_cases c6 : x3_1 < (l0.length : Int)
       ·
        rw [if_pos c6] at H
        have c6b0 : decide (x3_1 < (l0.length : Int)) = true := decide_eq_true c6
        clear c6
        replace H := Option.bind_eq_some_iff.mp H
        obtain ⟨t231, A70, H⟩ := H
        replace H : (if t231 = true then (spec_l12List.l0 kj1 l0 (wrap64 (x3_1 + 1))) else (some false)) = some r := H
        have A7 := Aside0.mk A70
        clear A70
        by_cases c8 : t231 = true
        ·
         subst c8
         have H1 : (spec_l12List.l0 kj1 l0 (wrap64 (x3_1 + 1))) = some r := by rw [if_pos rfl] at H; exact H
         clear H
         have H := H1
         clear H1
         have H' := Aside0.mk H
         clear H
         have p230 : 0 ≤ (x3_1 : Int) := of_decide_eq_true (by first | (with_reducible assumption) | assumption)
         have q230 : x3_1 < (l0.length : Int) := of_decide_eq_true (by first | (with_reducible assumption) | assumption)
         obtain ⟨ad230, e230, hx230_0, hx230_1, hx230_2, hx230_3⟩ := at_T71 HR0.out x3_1 p230 q230
         cases e230
         replace hx230_0 := (HB.out.cell (World.block_lt_of_cell? w _ hx230_0)).trans hx230_0
         replace hx230_1 := (HB.out.cell (World.block_lt_of_cell? w _ hx230_1)).trans hx230_1
         replace hx230_2 := (HB.out.cell (World.block_lt_of_cell? w _ hx230_2)).trans hx230_2
         replace hx230_3 := (HB.out.cell (World.block_lt_of_cell? w _ hx230_3)).trans hx230_3
         replace p230 := eq_true p230
         replace q230 := eq_true q230
         go_wp2_with (first | ((with_reducible refine gate_callee (f := 64) rfl ?_); refine goesL_ (some 18) rfl rfl Try.func64 (by kernel_rfl) rfl #[.agg #[.int .i64 ((rd_T71 l0 x3_1).f0), .int .i64 ((rd_T71 l0 x3_1).f1), .int .i64 ((rd_T71 l0 x3_1).f2), .int .i64 ((rd_T71 l0 x3_1).f3)]] rfl (by (try simp only [List.map_toArray, List.map_cons, List.map_nil]); first | done | rfl | (simp only [List.length_drop, List.length_take]; rfl)) ?_; (with_reducible refine (spec_l12Good.calls ((rd_T71 l0 x3_1).f0) ((rd_T71 l0 x3_1).f1) ((rd_T71 l0 x3_1).f2) ((rd_T71 l0 x3_1).f3) true _ A7.out).mono ?_); rintro e w9 ⟨rfl, hb⟩; refine ⟨_, rfl, ?_⟩; have n0_ := Aside0.mk (below_step (by repeat (first | (with_reducible first | exact HB.out | apply below_alloc | apply pw_below_drewN | apply below_drew1) | exact HB.out)) hb); clear HB; have HB := n0_; clear n0_; (try clear hb); (try clear hb2); (try clear hk); (try clear hi)))
         go_roundg kj1
         case measure => have := HK1.out; have := HJ1.out; omega
         case rel => exact ⟨(wrap64 (x3_1 + 1)), (by first | rfl | (simp; done) | (simp [*]; done)), H', ⟨by have := HK1.out; have := HJ1.out; omega⟩, ⟨by repeat (first | (with_reducible first | exact HB.out | apply below_alloc | apply pw_below_drewN | apply below_drew1) | exact HB.out)⟩⟩
        ·
         replace c8 := Bool.eq_false_iff.mpr c8
         subst c8
         have H1 : (some false) = some r := by rw [if_neg (show ¬ (false = true) by decide)] at H; exact H
         clear H
         have H := H1
         clear H1
         obtain rfl := Option.some.inj H
         have p230 : 0 ≤ (x3_1 : Int) := of_decide_eq_true (by first | (with_reducible assumption) | assumption)
         have q230 : x3_1 < (l0.length : Int) := of_decide_eq_true (by first | (with_reducible assumption) | assumption)
         obtain ⟨ad230, e230, hx230_0, hx230_1, hx230_2, hx230_3⟩ := at_T71 HR0.out x3_1 p230 q230
         cases e230
         replace hx230_0 := (HB.out.cell (World.block_lt_of_cell? w _ hx230_0)).trans hx230_0
         replace hx230_1 := (HB.out.cell (World.block_lt_of_cell? w _ hx230_1)).trans hx230_1
         replace hx230_2 := (HB.out.cell (World.block_lt_of_cell? w _ hx230_2)).trans hx230_2
         replace hx230_3 := (HB.out.cell (World.block_lt_of_cell? w _ hx230_3)).trans hx230_3
         replace p230 := eq_true p230
         replace q230 := eq_true q230
         go_wp2_with (first | ((with_reducible refine gate_callee (f := 64) rfl ?_); refine goesL_ (some 18) rfl rfl Try.func64 (by kernel_rfl) rfl #[.agg #[.int .i64 ((rd_T71 l0 x3_1).f0), .int .i64 ((rd_T71 l0 x3_1).f1), .int .i64 ((rd_T71 l0 x3_1).f2), .int .i64 ((rd_T71 l0 x3_1).f3)]] rfl (by (try simp only [List.map_toArray, List.map_cons, List.map_nil]); first | done | rfl | (simp only [List.length_drop, List.length_take]; rfl)) ?_; (with_reducible refine (spec_l12Good.calls ((rd_T71 l0 x3_1).f0) ((rd_T71 l0 x3_1).f1) ((rd_T71 l0 x3_1).f2) ((rd_T71 l0 x3_1).f3) false _ A7.out).mono ?_); rintro e w10 ⟨rfl, hb⟩; refine ⟨_, rfl, ?_⟩; have n0_ := Aside0.mk (below_step (by repeat (first | (with_reducible first | exact HB.out | apply below_alloc | apply pw_below_drewN | apply below_drew1) | exact HB.out)) hb); clear HB; have HB := n0_; clear n0_; (try clear hb); (try clear hb2); (try clear hk); (try clear hi)))
         go_ret
         exact ⟨by first | rfl | (simp [errW_none, errW_some] <;> rfl) | (simp [*, errW_none, errW_some] <;> rfl), by repeat (first | (with_reducible first | exact HB.out | apply below_alloc | apply pw_below_drewN | apply below_drew1) | exact HB.out)⟩
       ·
        rw [if_neg c6] at H
        exact absurd H (by simp)
      ·
       rw [if_neg c5] at H
       exact absurd H (by simp)
     ·
      replace c4 := Bool.eq_false_iff.mpr c4
      subst c4
      have H1 : (some (decide ((l0.length : Int) ≤ 5))) = some r := by rw [if_neg (show ¬ (false = true) by decide)] at H; exact H
      clear H
      have H := H1
      clear H1
      obtain rfl := Option.some.inj H
      go_wp2
      go_ret
      exact ⟨by first | rfl | (simp [errW_none, errW_some] <;> rfl) | (simp [*, errW_none, errW_some] <;> rfl), by repeat (first | (with_reducible first | exact HB.out | apply below_alloc | apply pw_below_drewN | apply below_drew1) | exact HB.out)⟩

end Go.Proofs.Ytjidofgojijolaa.Q
namespace Go.Proofs.Ytjidofgojijolaa.Q
open Go.RowKit Go.Proofs.YtjidofgojijolaaW.PrintWords Go.Proofs.YtjidofgojijolaaW.PrintLast Go.Proofs.YtjidofgojijolaaW.PrintMore
attribute [local go_sem] max2_int min2_int max_two min_two max_three min_three max_four min_four   -- for this text's walks alone
set_option linter.unusedVariables false
set_option linter.unusedSimpArgs false

/-! ### spec_l12Penalty: function 38 -/
def spec_l12Penalty.f (a0 : Int) : Option (Bool) := (spec_l1In.f a0 0 20).bind fun t240 => (some t240)
set_option maxHeartbeats 8000000 in
set_option maxRecDepth 100000 in
theorem spec_l12Penalty.calls (a0 : Int) (r : Bool) (w : World) (h : spec_l12Penalty.f a0 = some r) :
  Calls Try.prog 38 #[.int .i64 a0] w fun e w' => e = .returned (.bool r) ∧ Drawn0 w w' := by
 have H : ((spec_l1In.f a0 0 20).bind fun t240 => (some t240)) = some r := h
 clear h
 replace H := Option.bind_eq_some_iff.mp H
 obtain ⟨t240, A20, H⟩ := H
 replace H : (some t240) = some r := H
 have A2 := Aside0.mk A20
 clear A20
 obtain rfl := Option.some.inj H
 go_enter Try.func38, Try.ntmps38
 go_wp2_with (first | ((with_reducible refine gate_callee (f := 48) rfl ?_); refine goesL_ (some 4) rfl rfl Try.func48 (by kernel_rfl) rfl #[.int .i64 a0, .int .i64 0, .int .i64 20] rfl (by (try simp only [List.map_toArray, List.map_cons, List.map_nil]); first | done | rfl | (simp only [List.length_drop, List.length_take]; rfl)) ?_; (with_reducible refine (spec_l1In.calls a0 0 20 t240 _ A2.out).mono ?_); rintro e w' ⟨rfl, ⟨nd, rfl⟩⟩; refine ⟨_, rfl, ?_⟩))
 go_ret
 exact ⟨by first | rfl | (simp; done) | (simp [*]; done), by repeat (first | exact Drawn0.refl _ | apply Drawn0.step)⟩

end Go.Proofs.Ytjidofgojijolaa.Q
namespace Go.Proofs.Ytjidofgojijolaa.Q
open Go.RowKit Go.Proofs.YtjidofgojijolaaW.PrintWords Go.Proofs.YtjidofgojijolaaW.PrintLast Go.Proofs.YtjidofgojijolaaW.PrintMore
attribute [local go_sem] max2_int min2_int max_two min_two max_three min_three max_four min_four   -- for this text's walks alone
set_option linter.unusedVariables false
set_option linter.unusedSimpArgs false

/-! ### spec_l1Has: function 55 -/
def spec_l1Has.l0 : Nat → List Int → Int → Int → Option (Bool)
 | 0, _, _, _ => none
 | k + 1, x0, x1, x5 => if x5 < (x0.length : Int) then (if 0 ≤ x5 then (if (rd x0 x5) = x1 then (some true) else (spec_l1Has.l0 k x0 x1 (wrap64 (x5 + 1)))) else (none)) else (some false)
def spec_l1Has.f (k : Nat) (l0 : List Int) (a1 : Int) : Option (Bool) := spec_l1Has.l0 k l0 a1 0
theorem spec_l1Has.mono_l : ∀ k, (∀ y0 y1 y2, LeO (spec_l1Has.l0 k y0 y1 y2) (spec_l1Has.l0 (k + 1) y0 y1 y2))
 | 0 => fun _ _ _ r h => by simp [spec_l1Has.l0] at h
 | k + 1 => by
  have ih0 := spec_l1Has.mono_l k
  ·
   intro y0 y1 y2
   unfold spec_l1Has.l0
   repeat' first
   | (with_reducible exact ih0 _ _ _)
   | (with_reducible exact LeO.refl _)
   | (with_reducible exact LeO.none _)
   | (with_reducible refine LeO.ite ?_ ?_)
   | (with_reducible refine LeO.bind ?_ (fun _ => ?_))
   | exact ih0 _ _ _
   | exact LeO.none _
   | refine LeO.ite ?_ ?_
   | refine LeO.bind ?_ (fun _ => ?_)
theorem spec_l1Has.mono : ∀ a0 a1 k, LeO (spec_l1Has.f k a0 a1) (spec_l1Has.f (k + 1) a0 a1) := by
 intro a0 a1 k
 have ih0 := spec_l1Has.mono_l k
 unfold spec_l1Has.f
 repeat' first
   | (with_reducible exact ih0 _ _ _)
   | (with_reducible exact LeO.refl _)
   | (with_reducible exact LeO.none _)
   | (with_reducible refine LeO.ite ?_ ?_)
   | (with_reducible refine LeO.bind ?_ (fun _ => ?_))
   | exact ih0 _ _ _
   | exact LeO.none _
   | refine LeO.ite ?_ ?_
   | refine LeO.bind ?_ (fun _ => ?_)
set_option maxHeartbeats 8000000 in
set_option maxRecDepth 100000 in
theorem spec_l1Has.calls (k : Nat) (A0 : Option Addr) (c0 : Nat) (l0 : List Int) (a1 : Int) (r : Bool) (w : World) (hr0 : Kd.C (Kd.int .i64) w A0 l0.length l0) (hc0 : l0.length ≤ c0) (h : spec_l1Has.f k l0 a1 = some r) :
  Calls Try.prog 55 #[.slice A0 l0.length c0, .int .i64 a1] w fun e w' => e = .returned (.bool r) ∧ Drawn0 w w' := by
 have HR0 := Aside0.mk hr0
 have HC0 := Aside0.mk hc0
 clear hr0 hc0
 have H : (spec_l1Has.l0 k l0 a1 0) = some r := h
 clear h
 have H' := Aside0.mk H
 clear H
 go_enter Try.func55, Try.ntmps55
 go_wp2
 go_loopg [5] k (fun kq v5 w' => ∃ (x5_1 : Int), v5 = .int .i64 x5_1 ∧ Aside0 (spec_l1Has.l0 kq l0 a1 x5_1 = some r) ∧ Aside0 (kq ≤ k) ∧ Drawn0 w w')
 case atStart => exact ⟨(0), (by first | rfl | (simp; done) | (simp [*]; done)), H', ⟨Nat.le_refl _⟩, by repeat (first | exact Drawn0.refl _ | apply Drawn0.step)⟩
 case round =>
  clear H'
  try clear p2
  obtain ⟨x5_1, rfl, HA, HK1, ⟨m1, rfl⟩⟩ := hrel
  cases gk with
  | zero => exact absurd HA.out (by simp [spec_l1Has.l0])
  | succ k1 =>
   have H := HA.out
   clear HA
   simp only [spec_l1Has.l0] at H
   by_cases c3 : x5_1 < (l0.length : Int)
   ·
    rw [if_pos c3] at H
    have c3b0 : decide (x5_1 < (l0.length : Int)) = true := decide_eq_true c3
    clear c3
    by_cases c4 : 0 ≤ x5_1
    ·
     rw [if_pos c4] at H
     have c4b0 : decide (0 ≤ x5_1) = true := decide_eq_true c4
     clear c4
     by_cases c5 : (rd l0 x5_1) = a1
     ·
      rw [if_pos c5] at H
      have c5b0 : ((rd l0 x5_1) == a1) = true := beq_iff_eq.mpr c5
      have c5b1 : ((rd l0 x5_1) != a1) = false := bne_eq_false_iff_eq.mpr c5
      clear c5
      obtain rfl := Option.some.inj H
      have p157 : 0 ≤ (x5_1 : Int) := of_decide_eq_true (by first | (with_reducible assumption) | assumption)
      have q157 : x5_1 < (l0.length : Int) := of_decide_eq_true (by first | (with_reducible assumption) | assumption)
      obtain ⟨ad157, e157, hx157_0⟩ := Kd.at_int HR0.out x5_1 p157 q157
      cases e157
      replace p157 := eq_true p157
      replace q157 := eq_true q157
      go_wp2
      go_ret
      exact ⟨by first | rfl | (simp; done) | (simp [*]; done), by repeat (first | exact Drawn0.refl _ | apply Drawn0.step)⟩
     ·
      rw [if_neg c5] at H
      have c5b0 : ((rd l0 x5_1) == a1) = false := beq_eq_false_iff_ne.mpr c5
      have c5b1 : ((rd l0 x5_1) != a1) = true := bne_iff_ne.mpr c5
      have H' := Aside0.mk H
      clear H
      have p157 : 0 ≤ (x5_1 : Int) := of_decide_eq_true (by first | (with_reducible assumption) | assumption)
      have q157 : x5_1 < (l0.length : Int) := of_decide_eq_true (by first | (with_reducible assumption) | assumption)
      obtain ⟨ad157, e157, hx157_0⟩ := Kd.at_int HR0.out x5_1 p157 q157
      cases e157
      replace p157 := eq_true p157
      replace q157 := eq_true q157
      go_wp2
      go_roundg k1
      case measure => have := HK1.out; omega
      case rel => exact ⟨(wrap64 (x5_1 + 1)), (by first | rfl | (simp; done) | (simp [*]; done)), H', ⟨by have := HK1.out; omega⟩, by repeat (first | exact Drawn0.refl _ | apply Drawn0.step)⟩
    ·
     rw [if_neg c4] at H
     exact absurd H (by simp)
   ·
    rw [if_neg c3] at H
    have c3b0 : decide (x5_1 < (l0.length : Int)) = false := decide_eq_false c3
    clear c3
    obtain rfl := Option.some.inj H
    go_wp2
    go_ret
    exact ⟨by first | rfl | (simp; done) | (simp [*]; done), by repeat (first | exact Drawn0.refl _ | apply Drawn0.step)⟩

end Go.Proofs.Ytjidofgojijolaa.Q
namespace Go.Proofs.Ytjidofgojijolaa.Q
open Go.RowKit Go.Proofs.YtjidofgojijolaaW.PrintWords Go.Proofs.YtjidofgojijolaaW.PrintLast Go.Proofs.YtjidofgojijolaaW.PrintMore
attribute [local go_sem] max2_int min2_int max_two min_two max_three min_three max_four min_four   -- for this text's walks alone
set_option linter.unusedVariables false
set_option linter.unusedSimpArgs false

/-! ### spec_l1Most: function 74 -/
def spec_l1Most.f (a0 a1 : Int) : Option Int := if a0 > a1 then (some a0) else (some a1)
theorem spec_l1Most.calls (a0 a1 : Int) (r : Int) (w : World) (h : spec_l1Most.f a0 a1 = some r) :
  Calls Try.prog 74 #[.int .i64 a0, .int .i64 a1] w fun e w' => e = .returned (.int .i64 r) ∧ Below w.heap.size w w' := by
 unfold spec_l1Most.f at h
 by_cases hc : a0 > a1
 ·
  rw [if_pos hc] at h
  obtain rfl := Option.some.inj h
  have hc' : a1 < a0 := hc
  clear h hc
  go_enter Try.func74, Try.ntmps74
  go_wp2
  go_ret
  exact ⟨rfl, by first | exact Below.refl _ _ | exact pw_below_drewN (Below.refl _ _) _⟩
 ·
  rw [if_neg hc] at h
  obtain rfl := Option.some.inj h
  have hc' : ¬ a1 < a0 := hc
  clear h hc
  go_enter Try.func74, Try.ntmps74
  go_wp2
  go_ret
  exact ⟨rfl, by first | exact Below.refl _ _ | exact pw_below_drewN (Below.refl _ _) _⟩

end Go.Proofs.Ytjidofgojijolaa.Q
namespace Go.Proofs.Ytjidofgojijolaa.Q
open Go.RowKit Go.Proofs.YtjidofgojijolaaW.PrintWords Go.Proofs.YtjidofgojijolaaW.PrintLast Go.Proofs.YtjidofgojijolaaW.PrintMore
attribute [local go_sem] max2_int min2_int max_two min_two max_three min_three max_four min_four   -- for this text's walks alone
set_option linter.unusedVariables false
set_option linter.unusedSimpArgs false

/-! ### spec_l11Abs: function 71 -/
def spec_l11Abs.f (a0 : Int) : Option (Int) := (spec_l1Most.f a0 (wrap64 (-a0))).bind fun t241 => (some t241)
set_option maxHeartbeats 8000000 in
set_option maxRecDepth 100000 in
theorem spec_l11Abs.calls (a0 : Int) (r : Int) (w : World) (h : spec_l11Abs.f a0 = some r) :
  Calls Try.prog 71 #[.int .i64 a0] w fun e w' => e = .returned (.int .i64 r) ∧ Below w.heap.size w w' := by
 have HB := Aside0.mk (Below.refl w.heap.size w)
 have H : ((spec_l1Most.f a0 (wrap64 (-a0))).bind fun t241 => (some t241)) = some r := h
 clear h
 replace H := Option.bind_eq_some_iff.mp H
 obtain ⟨t241, A20, H⟩ := H
 replace H : (some t241) = some r := H
 have A2 := Aside0.mk A20
 clear A20
 obtain rfl := Option.some.inj H
 go_enter Try.func71, Try.ntmps71
 go_wp2_with (first | ((with_reducible refine gate_callee (f := 74) rfl ?_); refine goesL_ (some 6) rfl rfl Try.func74 (by kernel_rfl) rfl #[.int .i64 a0, .int .i64 (wrap64 (-a0))] rfl (by (try simp only [List.map_toArray, List.map_cons, List.map_nil]); first | done | rfl | (simp only [List.length_drop, List.length_take]; rfl)) ?_; (with_reducible refine (spec_l1Most.calls a0 (wrap64 (-a0)) t241 _ A2.out).mono ?_); rintro e w3 ⟨rfl, hb⟩; refine ⟨_, rfl, ?_⟩; have n0_ := Aside0.mk (below_step (by repeat (first | (with_reducible first | exact HB.out | apply below_alloc | apply pw_below_drewN | apply below_drew1) | exact HB.out)) hb); clear HB; have HB := n0_; clear n0_; (try clear hb); (try clear hb2); (try clear hk); (try clear hi)))
 go_ret
 exact ⟨by first | rfl | (simp [errW_none, errW_some] <;> rfl) | (simp [*, errW_none, errW_some] <;> rfl), by repeat (first | (with_reducible first | exact HB.out | apply below_alloc | apply pw_below_drewN | apply below_drew1) | exact HB.out)⟩

end Go.Proofs.Ytjidofgojijolaa.Q
namespace Go.Proofs.Ytjidofgojijolaa.Q
open Go.RowKit Go.Proofs.YtjidofgojijolaaW.PrintWords Go.Proofs.YtjidofgojijolaaW.PrintLast Go.Proofs.YtjidofgojijolaaW.PrintMore
attribute [local go_sem] max2_int min2_int max_two min_two max_three min_three max_four min_four   -- for this text's walks alone
set_option linter.unusedVariables false
set_option linter.unusedSimpArgs false

/-! ### spec_l12Distance: function 59 -/
def spec_l12Distance.f (a0_0 : Int) (a0_1 : Int) (a0_2 : Int) (a0_3 : Int) (a1_0 : Int) (a1_1 : Int) (a1_2 : Int) (a1_3 : Int) : Option (Int) := (spec_l11Abs.f (wrap64 (a0_0 - a1_0))).bind fun t244 => ((spec_l11Abs.f (wrap64 (a0_1 - a1_1))).bind fun t245 => (some (wrap64 (t244 + t245))))
def spec_l12Distance.T1 : Bool × List (List Nat × List Nat) := (true, [([], []), ([0], [0]), ([], []), ([2], [2]), ([1, 3], [1, 3]), ([4], [4]), ([], []), ([6], [6]), ([], []), ([8], [8]), ([7, 9], [7, 9]), ([10, 5], [10]), ([5, 11], [5, 11]), ([12, 11, 0, 1, 2, 3, 4, 5, 6, 7, 8, 9, 10, 11, 12], [12])])
def spec_l12Distance.B1 : List Nat := [0, 1, 0, 4, 15, 31, 0, 64, 0, 256, 960, 2047, 4095, 8191]
theorem spec_l12Distance.tab1 : rtab .any (opsOf Try.f59 1) = spec_l12Distance.T1 := by kernel_rfl
theorem spec_l12Distance.bits1 : waitsOk spec_l12Distance.T1.2 spec_l12Distance.B1 = true := by kernel_rfl
set_option maxHeartbeats 8000000 in
set_option maxRecDepth 100000 in
theorem spec_l12Distance.calls (a0_0 : Int) (a0_1 : Int) (a0_2 : Int) (a0_3 : Int) (a1_0 : Int) (a1_1 : Int) (a1_2 : Int) (a1_3 : Int) (r : Int) (w : World) (h : spec_l12Distance.f a0_0 a0_1 a0_2 a0_3 a1_0 a1_1 a1_2 a1_3 = some r) :
  Calls Try.prog 59 #[.agg #[.int .i64 a0_0, .int .i64 a0_1, .int .i64 a0_2, .int .i64 a0_3], .agg #[.int .i64 a1_0, .int .i64 a1_1, .int .i64 a1_2, .int .i64 a1_3]] w fun e w' => e = .returned (.int .i64 r) ∧ Below w.heap.size w w' := by
 have hu71 := Try.underlying71
 have HB := Aside0.mk (Below.refl w.heap.size w)
 have H : ((spec_l11Abs.f (wrap64 (a0_0 - a1_0))).bind fun t244 => ((spec_l11Abs.f (wrap64 (a0_1 - a1_1))).bind fun t245 => (some (wrap64 (t244 + t245))))) = some r := h
 clear h
 replace H := Option.bind_eq_some_iff.mp H
 obtain ⟨t244, A30, H⟩ := H
 replace H : ((spec_l11Abs.f (wrap64 (a0_1 - a1_1))).bind fun t245 => (some (wrap64 (t244 + t245)))) = some r := H
 have A3 := Aside0.mk A30
 clear A30
 replace H := Option.bind_eq_some_iff.mp H
 obtain ⟨t245, A40, H⟩ := H
 replace H : (some (wrap64 (t244 + t245))) = some r := H
 have A4 := Aside0.mk A40
 clear A40
 obtain rfl := Option.some.inj H
 go_enter Try.func59, Try.ntmps59
 try go_wp2_with (first | ((with_reducible refine gate_dst (N := 2) rfl ?_); refine box_event ?hg (N := 2) ?hd (cs := #[.int .i64 a0_0, .int .i64 a0_1, .int .i64 a0_2, .int .i64 a0_3]) (t := 71) ?hr ?_; (case hd => rfl); (case hg => rfl); (case hr => first | (go_simp; done) | (go_simp; rfl)); intro gb242 hg w5 hbox hb; have n0_ := Aside0.mk (below_step (by repeat (first | (with_reducible first | exact HB.out | apply below_alloc | apply pw_below_drewN | apply below_drew1) | exact HB.out)) hb); have n1_ := Aside0.mk (hbox); have n2_ := Aside0.mk ((by rw [hg]; exact (below_size (by repeat (first | (with_reducible first | exact HB.out | apply below_alloc | apply pw_below_drewN | apply below_drew1) | exact HB.out))) : w.heap.size ≤ gb242)); have n3_ := Aside0.mk ((by rw [hg]; exact (below_size (by repeat (first | (with_reducible first | exact HB.out | apply below_alloc | apply pw_below_drewN | apply below_drew1) | exact HB.out))) : w.heap.size ≤ gb242)); clear HB; have HB := n0_; have BK242 := n1_; have GW242 := n2_; have GE242 := n3_; clear n0_ n1_ n2_ n3_; clear hb hbox hg) | ((with_reducible refine gate_dst (N := 3) rfl ?_); refine box_event ?hg (N := 3) ?hd (cs := #[.int .i64 a1_0, .int .i64 a1_1, .int .i64 a1_2, .int .i64 a1_3]) (t := 71) ?hr ?_; (case hd => rfl); (case hg => rfl); (case hr => first | (go_simp; done) | (go_simp; rfl)); intro gb243 hg w6 hbox hb; have n0_ := Aside0.mk (blk_below (g := gb242) (o := .cells #[.int .i64 a0_0, .int .i64 a0_1, .int .i64 a0_2, .int .i64 a0_3] 71 (0, 0)) (by (with_reducible repeat (first | refine blk_drewN ?_ _ | refine blk_drew ?_ | refine blk_alloc ?_ _)); exact BK242.out) hb); have n1_ := Aside0.mk (below_step (by repeat (first | (with_reducible first | exact HB.out | apply below_alloc | apply pw_below_drewN | apply below_drew1 | refine below_set ?_ GE242.out) | exact HB.out)) hb); have n2_ := Aside0.mk (hbox); have n3_ := Aside0.mk ((by rw [hg]; exact (below_size (by repeat (first | (with_reducible first | exact HB.out | apply below_alloc | apply pw_below_drewN | apply below_drew1 | refine below_set ?_ GE242.out) | exact HB.out))) : w.heap.size ≤ gb243)); have n4_ := Aside0.mk ((by rw [hg]; exact (below_size (by repeat (first | (with_reducible first | exact HB.out | apply below_alloc | apply pw_below_drewN | apply below_drew1 | refine below_set ?_ GE242.out) | exact HB.out))) : w.heap.size ≤ gb243)); have n5_ := Aside0.mk ((by rw [hg]; exact Nat.ne_of_lt (blk_lt (g := gb242) (o := .cells #[.int .i64 a0_0, .int .i64 a0_1, .int .i64 a0_2, .int .i64 a0_3] 71 (0, 0)) (by (with_reducible repeat (first | refine blk_drewN ?_ _ | refine blk_drew ?_ | refine blk_alloc ?_ _)); exact BK242.out)) : gb242 ≠ gb243)); have n6_ := Aside0.mk ((by rw [hg]; exact Nat.ne_of_gt (blk_lt (g := gb242) (o := .cells #[.int .i64 a0_0, .int .i64 a0_1, .int .i64 a0_2, .int .i64 a0_3] 71 (0, 0)) (by (with_reducible repeat (first | refine blk_drewN ?_ _ | refine blk_drew ?_ | refine blk_alloc ?_ _)); exact BK242.out)) : gb243 ≠ gb242)); clear BK242; clear HB; have BK242 := n0_; have HB := n1_; have BK243 := n2_; have GW243 := n3_; have GE243 := n4_; have NB242_243 := n5_; have NB243_242 := n6_; clear n0_ n1_ n2_ n3_ n4_ n5_ n6_; clear hb hbox hg))
 have n0_ := Aside0.mk (blk_drew BK242.out)
 have n1_ := Aside0.mk (blk_drew BK243.out)
 have n2_ := Aside0.mk (below_drew1 HB.out)
 clear BK242
 clear BK243
 clear HB
 have BK242 := n0_
 have BK243 := n1_
 have HB := n2_
 clear n0_ n1_ n2_
 refine start_ (n := 14) (S := fun w' => w'.cell? ⟨gb242, 0, none⟩ = some (.int .i64 a0_0) ∧ w'.cell? ⟨gb242, 1, none⟩ = some (.int .i64 a0_1) ∧ w'.cell? ⟨gb242, 2, none⟩ = some (.int .i64 a0_2) ∧ w'.cell? ⟨gb242, 3, none⟩ = some (.int .i64 a0_3) ∧ w'.cell? ⟨gb243, 0, none⟩ = some (.int .i64 a1_0) ∧ w'.cell? ⟨gb243, 1, none⟩ = some (.int .i64 a1_1) ∧ w'.cell? ⟨gb243, 2, none⟩ = some (.int .i64 a1_2) ∧ w'.cell? ⟨gb243, 3, none⟩ = some (.int .i64 a1_3)) (ds := []) #[false, false, false, false, false, false, false, false, false, false, false, false, false, false] (by kernel_rfl) rfl rfl ⟨(blk_cell BK242.out 0).trans rfl, (blk_cell BK242.out 1).trans rfl, (blk_cell BK242.out 2).trans rfl, (blk_cell BK242.out 3).trans rfl, (blk_cell BK243.out 0).trans rfl, (blk_cell BK243.out 1).trans rfl, (blk_cell BK243.out 2).trans rfl, (blk_cell BK243.out 3).trans rfl⟩ (fun hHeld => ?_); refine with_tabW spec_l12Distance.tab1 spec_l12Distance.bits1 (fun HT_ HW_ => ?_)
 generalize w6.drew = w7 at BK242 BK243 HB hHeld ⊢
 refine pure_ (i := 0) (N := some 5) (v := ?_) (a' := ?_) #[true, false, false, false, false, false, false, false, false, false, false, false, false, false] rfl rfl (any_of HT_.out (by kernel_rfl)) (fun _ _ _ h => h) (Or.inl ⟨by rfl, ?_⟩) ?_ ?_
 rotate_left
 ·
  intro w'
  go_simp
  with_reducible rfl
 rotate_left
 ·
  simp only [Act.put, List.setIfInBounds_toArray, List.set_cons_zero, List.set_cons_succ, i64_w, i32_w]
  rfl
 refine pure_ (i := 2) (N := some 7) (v := ?_) (a' := ?_) #[true, false, true, false, false, false, false, false, false, false, false, false, false, false] rfl rfl (any_of HT_.out (by kernel_rfl)) (fun _ _ _ h => h) (Or.inl ⟨by rfl, ?_⟩) ?_ ?_
 rotate_left
 ·
  intro w'
  go_simp
  with_reducible rfl
 rotate_left
 ·
  simp only [Act.put, List.setIfInBounds_toArray, List.set_cons_zero, List.set_cons_succ, i64_w, i32_w]
  rfl
 refine pure_ (i := 6) (N := some 11) (v := ?_) (a' := ?_) #[true, false, true, false, false, false, true, false, false, false, false, false, false, false] rfl rfl (any_of HT_.out (by kernel_rfl)) (fun _ _ _ h => h) (Or.inl ⟨by rfl, ?_⟩) ?_ ?_
 rotate_left
 ·
  intro w'
  go_simp
  with_reducible rfl
 rotate_left
 ·
  simp only [Act.put, List.setIfInBounds_toArray, List.set_cons_zero, List.set_cons_succ, i64_w, i32_w]
  rfl
 refine pure_ (i := 8) (N := some 13) (v := ?_) (a' := ?_) #[true, false, true, false, false, false, true, false, true, false, false, false, false, false] rfl rfl (any_of HT_.out (by kernel_rfl)) (fun _ _ _ h => h) (Or.inl ⟨by rfl, ?_⟩) ?_ ?_
 rotate_left
 ·
  intro w'
  go_simp
  with_reducible rfl
 rotate_left
 ·
  simp only [Act.put, List.setIfInBounds_toArray, List.set_cons_zero, List.set_cons_succ, i64_w, i32_w]
  rfl
 refine take_ (i := 1) (N := some 6) (v := ?_) (a' := ?_) #[true, true, true, false, false, false, true, false, true, false, false, false, false, false] rfl rfl (take_ofW HT_.out HW_.out (by kernel_rfl)) (fun _ _ _ h => h) (Or.inl ⟨by rfl, ?_⟩) hHeld ?_ ?_
 rotate_left
 ·
  rintro w' ⟨s0, s1, s2, s3, s4, s5, s6, s7⟩
  go_simp
  with_reducible rfl
 rotate_left
 ·
  simp only [Act.put, List.setIfInBounds_toArray, List.set_cons_zero, List.set_cons_succ, i64_w, i32_w]
  rfl
 refine take_ (i := 3) (N := some 8) (v := ?_) (a' := ?_) #[true, true, true, true, false, false, true, false, true, false, false, false, false, false] rfl rfl (take_ofW HT_.out HW_.out (by kernel_rfl)) (fun _ _ _ h => h) (Or.inl ⟨by rfl, ?_⟩) hHeld ?_ ?_
 rotate_left
 ·
  rintro w' ⟨s0, s1, s2, s3, s4, s5, s6, s7⟩
  go_simp
  with_reducible rfl
 rotate_left
 ·
  simp only [Act.put, List.setIfInBounds_toArray, List.set_cons_zero, List.set_cons_succ, i64_w, i32_w]
  rfl
 refine pure_ (i := 4) (N := some 9) (v := ?_) (a' := ?_) #[true, true, true, true, true, false, true, false, true, false, false, false, false, false] rfl rfl (any_of HT_.out (by kernel_rfl)) (fun _ _ _ h => h) (Or.inl ⟨by rfl, ?_⟩) ?_ ?_
 rotate_left
 ·
  intro w'
  go_simp
  with_reducible rfl
 rotate_left
 ·
  simp only [Act.put, List.setIfInBounds_toArray, List.set_cons_zero, List.set_cons_succ, i64_w, i32_w]
  rfl
 refine take_ (i := 7) (N := some 12) (v := ?_) (a' := ?_) #[true, true, true, true, true, false, true, true, true, false, false, false, false, false] rfl rfl (take_ofW HT_.out HW_.out (by kernel_rfl)) (fun _ _ _ h => h) (Or.inl ⟨by rfl, ?_⟩) hHeld ?_ ?_
 rotate_left
 ·
  rintro w' ⟨s0, s1, s2, s3, s4, s5, s6, s7⟩
  go_simp
  with_reducible rfl
 rotate_left
 ·
  simp only [Act.put, List.setIfInBounds_toArray, List.set_cons_zero, List.set_cons_succ, i64_w, i32_w]
  rfl
 refine take_ (i := 9) (N := some 14) (v := ?_) (a' := ?_) #[true, true, true, true, true, false, true, true, true, true, false, false, false, false] rfl rfl (take_ofW HT_.out HW_.out (by kernel_rfl)) (fun _ _ _ h => h) (Or.inl ⟨by rfl, ?_⟩) hHeld ?_ ?_
 rotate_left
 ·
  rintro w' ⟨s0, s1, s2, s3, s4, s5, s6, s7⟩
  go_simp
  with_reducible rfl
 rotate_left
 ·
  simp only [Act.put, List.setIfInBounds_toArray, List.set_cons_zero, List.set_cons_succ, i64_w, i32_w]
  rfl
 refine pure_ (i := 10) (N := some 15) (v := ?_) (a' := ?_) #[true, true, true, true, true, false, true, true, true, true, true, false, false, false] rfl rfl (any_of HT_.out (by kernel_rfl)) (fun _ _ _ h => h) (Or.inl ⟨by rfl, ?_⟩) ?_ ?_
 rotate_left
 ·
  intro w'
  go_simp
  with_reducible rfl
 rotate_left
 ·
  simp only [Act.put, List.setIfInBounds_toArray, List.set_cons_zero, List.set_cons_succ, i64_w, i32_w]
  rfl
 refine one_ (i := 5) (N := some 10) #[true, true, true, true, true, true, true, true, true, true, true, false, false, false] rfl rfl (one_of HT_.out (by kernel_rfl)) (by decide) (fun K hK => ?_)
 refine goes_ Try.func71 (by kernel_rfl) rfl #[.int .i64 (wrap64 (a0_0 - a1_0))] (by rfl) rfl rfl (by (try simp only [List.map_toArray, List.map_cons, List.map_nil]); first | done | rfl | (simp only [List.length_drop, List.length_take]; rfl)) ?_
 with_reducible refine (spec_l11Abs.calls (wrap64 (a0_0 - a1_0)) t244 _ A3.out).mono ?_
 rintro e w8 ⟨rfl, hb⟩
 refine ⟨_, rfl, ?_⟩
 have n0_ := Aside0.mk (blk_below (g := gb242) (o := .cells #[.int .i64 a0_0, .int .i64 a0_1, .int .i64 a0_2, .int .i64 a0_3] 71 (0, 0)) (by (with_reducible repeat (first | refine blk_drewN ?_ _ | refine blk_drew ?_ | refine blk_alloc ?_ _)); exact BK242.out) hb)
 have n1_ := Aside0.mk (blk_below (g := gb243) (o := .cells #[.int .i64 a1_0, .int .i64 a1_1, .int .i64 a1_2, .int .i64 a1_3] 71 (0, 0)) (by (with_reducible repeat (first | refine blk_drewN ?_ _ | refine blk_drew ?_ | refine blk_alloc ?_ _)); exact BK243.out) hb)
 have n2_ := Aside0.mk (below_step (by repeat (first | (with_reducible first | exact HB.out | apply below_alloc | apply pw_below_drewN | apply below_drew1 | refine below_set ?_ GE242.out | refine below_set ?_ GE243.out) | exact HB.out)) hb)
 clear BK242
 clear BK243
 clear HB
 have BK242 := n0_
 have BK243 := n1_
 have HB := n2_
 clear n0_ n1_ n2_
 (try clear hb)
 (try clear hb2)
 (try clear hk)
 (try clear hi)
 refine hK.out _ _ ⟨(blk_cell BK242.out 0).trans rfl, (blk_cell BK242.out 1).trans rfl, (blk_cell BK242.out 2).trans rfl, (blk_cell BK242.out 3).trans rfl, (blk_cell BK243.out 0).trans rfl, (blk_cell BK243.out 1).trans rfl, (blk_cell BK243.out 2).trans rfl, (blk_cell BK243.out 3).trans rfl⟩ (fun hHeld => ?_)
 clear hK K
 refine norm_ (a' := ?_) ?_ ?_
 rotate_left
 ·
  show Act.put _ (some 10) _ = _
  simp only [Act.put, List.setIfInBounds_toArray, List.set_cons_zero, List.set_cons_succ, i64_w, i32_w]
  rfl
 refine one_ (i := 11) (N := some 16) #[true, true, true, true, true, true, true, true, true, true, true, true, false, false] rfl rfl (one_of HT_.out (by kernel_rfl)) (by decide) (fun K hK => ?_)
 refine goes_ Try.func71 (by kernel_rfl) rfl #[.int .i64 (wrap64 (a0_1 - a1_1))] (by rfl) rfl rfl (by (try simp only [List.map_toArray, List.map_cons, List.map_nil]); first | done | rfl | (simp only [List.length_drop, List.length_take]; rfl)) ?_
 with_reducible refine (spec_l11Abs.calls (wrap64 (a0_1 - a1_1)) t245 _ A4.out).mono ?_
 rintro e w9 ⟨rfl, hb⟩
 refine ⟨_, rfl, ?_⟩
 have n0_ := Aside0.mk (blk_below (g := gb242) (o := .cells #[.int .i64 a0_0, .int .i64 a0_1, .int .i64 a0_2, .int .i64 a0_3] 71 (0, 0)) (by (with_reducible repeat (first | refine blk_drewN ?_ _ | refine blk_drew ?_ | refine blk_alloc ?_ _)); exact BK242.out) hb)
 have n1_ := Aside0.mk (blk_below (g := gb243) (o := .cells #[.int .i64 a1_0, .int .i64 a1_1, .int .i64 a1_2, .int .i64 a1_3] 71 (0, 0)) (by (with_reducible repeat (first | refine blk_drewN ?_ _ | refine blk_drew ?_ | refine blk_alloc ?_ _)); exact BK243.out) hb)
 have n2_ := Aside0.mk (below_step (by repeat (first | (with_reducible first | exact HB.out | apply below_alloc | apply pw_below_drewN | apply below_drew1 | refine below_set ?_ GE242.out | refine below_set ?_ GE243.out) | exact HB.out)) hb)
 clear BK242
 clear BK243
 clear HB
 have BK242 := n0_
 have BK243 := n1_
 have HB := n2_
 clear n0_ n1_ n2_
 (try clear hb)
 (try clear hb2)
 (try clear hk)
 (try clear hi)
 refine hK.out _ _ ⟨(blk_cell BK242.out 0).trans rfl, (blk_cell BK242.out 1).trans rfl, (blk_cell BK242.out 2).trans rfl, (blk_cell BK242.out 3).trans rfl, (blk_cell BK243.out 0).trans rfl, (blk_cell BK243.out 1).trans rfl, (blk_cell BK243.out 2).trans rfl, (blk_cell BK243.out 3).trans rfl⟩ (fun hHeld => ?_)
 clear hK K
 refine norm_ (a' := ?_) ?_ ?_
 rotate_left
 ·
  show Act.put _ (some 16) _ = _
  simp only [Act.put, List.setIfInBounds_toArray, List.set_cons_zero, List.set_cons_succ, i64_w, i32_w]
  rfl
 refine pure_ (i := 12) (N := some 17) (v := ?_) (a' := ?_) #[true, true, true, true, true, true, true, true, true, true, true, true, true, false] rfl rfl (any_of HT_.out (by kernel_rfl)) (fun _ _ _ h => h) (Or.inl ⟨by rfl, ?_⟩) ?_ ?_
 rotate_left
 ·
  intro w'
  go_simp
  with_reducible rfl
 rotate_left
 ·
  simp only [Act.put, List.setIfInBounds_toArray, List.set_cons_zero, List.set_cons_succ, i64_w, i32_w]
  rfl
 refine pure_ (i := 13) (N := some 4) (v := ?_) (a' := ?_) #[true, true, true, true, true, true, true, true, true, true, true, true, true, true] rfl rfl (any_of HT_.out (by kernel_rfl)) (fun _ _ _ h => h) (Or.inl ⟨by rfl, ?_⟩) ?_ ?_
 rotate_left
 ·
  intro w'
  go_simp
  with_reducible rfl
 rotate_left
 ·
  simp only [Act.put, List.setIfInBounds_toArray, List.set_cons_zero, List.set_cons_succ, i64_w, i32_w]
  rfl
 refine done_ (done_of HT_.out (by kernel_rfl)) ?_
 try go_wp2
 go_ret
 exact ⟨by first | rfl | (simp [errW_none, errW_some] <;> rfl) | (simp [*, errW_none, errW_some] <;> rfl), by repeat (first | (with_reducible first | exact HB.out | apply below_alloc | apply pw_below_drewN | apply below_drew1 | refine below_set ?_ GE242.out | refine below_set ?_ GE243.out) | exact HB.out)⟩

end Go.Proofs.Ytjidofgojijolaa.Q
