/- Texts of this claim, put together: walks of the program's functions, and plain facts. -/
import Derived.Test.YtpdeapefekbdpaaZFnTracks
import Derived.Test.YtpdeapefekbdpaaBFnTracks0
import Derived.Test.YtpdeapefekbdpaaBFnTracks2
import Derived.Test.YtpdeapefekbdpaaBFnTracks5
namespace Go.Proofs.Ytpdeapefekbdpaa.Q
open Go.RowKit Go.Proofs.YtpdeapefekbdpaaW.PrintWords Go.Proofs.YtpdeapefekbdpaaW.PrintLast Go.Proofs.YtpdeapefekbdpaaW.PrintMore
attribute [local go_sem] max2_int min2_int max_two min_two max_three min_three max_four min_four
set_option linter.unusedVariables false
set_option linter.unusedSimpArgs false
def impl_bestTracking.c.T8 : Bool × List (List Nat × List Nat) := (true, [([], []), ([], []), ([1], [1]), ([], []), ([3], [3]), ([2, 4, 2], [2, 4]), ([0, 5, 5], [0, 5])])
def impl_bestTracking.c.B8 : List Nat := [0, 0, 2, 0, 8, 30, 63]
theorem impl_bestTracking.c.tab8 : rtab .any (opsOf Try.f85 8) = impl_bestTracking.c.T8 := by kernel_rfl
theorem impl_bestTracking.c.bits8 : waitsOk impl_bestTracking.c.T8.2 impl_bestTracking.c.B8 = true := by kernel_rfl
def impl_bestTracking.d.T6 : Bool × List (List Nat × List Nat) := (true, [([], []), ([], []), ([0, 0], [0]), ([1, 2, 0, 1, 2], [1])])
def impl_bestTracking.d.B6 : List Nat := [0, 0, 1, 7]
theorem impl_bestTracking.d.tab6 : rtab .any (opsOf Try.f71 6) = impl_bestTracking.d.T6 := by kernel_rfl
theorem impl_bestTracking.d.bits6 : waitsOk impl_bestTracking.d.T6.2 impl_bestTracking.d.B6 = true := by kernel_rfl
def btL (f : List Int → List Int × Int → Option (List Int × Int)) (tr : List Int) : Nat → Nat → List Int × Int → Option (List Int × Int)
 | 0, _, s => some s
 | d + 1, i, s => if (i : Int) - 1 < 0 ∨ ¬ ((i : Int) - 1 ∈ tr) then (f (tr ++ [(i : Int) - 1]) s).bind fun s' => btL f tr d (i + 1) s' else btL f tr d (i + 1) s
def btF (c : List Int → Option Int) (nb : Nat) : Nat → List Int → List Int × Int → Option (List Int × Int)
 | 0, tr, s => (c tr).bind fun x => some (if s.2 < 0 ∨ x < s.2 then (tr, x) else s)
 | n + 1, tr, s => btL (btF c nb n) tr (nb + 1) 0 s
theorem btL_mono {f g : List Int → List Int × Int → Option (List Int × Int)} (h : ∀ t s, LeO (f t s) (g t s)) (tr : List Int) : ∀ d i s, LeO (btL f tr d i s) (btL g tr d i s)
 | 0, _, _ => LeO.refl _
 | d + 1, i, s => by
  unfold btL
  split
  ·
   exact LeO.bind (h _ _) (fun _ => btL_mono h tr d _ _)
  ·
   exact btL_mono h tr d _ _
theorem btF_mono {c e : List Int → Option Int} (h : ∀ t, LeO (c t) (e t)) (nb : Nat) : ∀ n tr s, LeO (btF c nb n tr s) (btF e nb n tr s)
 | 0, tr, s => LeO.bind (h tr) (fun _ => LeO.refl _)
 | n + 1, tr, s => btL_mono (fun t s => btF_mono h nb n t s) tr _ _ _
def impl_bestTracking.f (k : Nat) (l0 l1 : List S49) (a2 : Int) : Option (List Int × Int) := if l0.length ≤ 5 ∧ l1.length ≤ 5 then btF (fun t => impl_trackingCost.f k l0 l1 t a2) l1.length l0.length [] ([], -1) else none
theorem C_blkI {w W : World} {A : Option Addr} {n : Nat} {xs : List Int} (h : Kd.C (Kd.int .i64) w A n xs) (hb : ∀ ad, A = some ad → 0 < n → W.heap[ad.block]? = w.heap[ad.block]?) : Kd.C (Kd.int .i64) W A n xs := by
 have h' := Kd.reads_of_C (d := 0) h
 refine Kd.C_of_reads (d := 0) ⟨h'.1, h'.2.1, fun hn => ?_⟩
 obtain ⟨ad, e, hc⟩ := h'.2.2 hn
 have e2 : ∀ j, (ad.add j).block = ad.block := fun j => by unfold Addr.add; cases ad; first | rfl | (split <;> rfl)
 exact ⟨ad, e, fun j hj => (World.cell?_of_block (a := ad.add j) (by rw [e2]; exact hb ad e hn)).trans (hc j hj)⟩
theorem C_ltI {w : World} {A : Option Addr} {n : Nat} {xs : List Int} (h : Kd.C (Kd.int .i64) w A n xs) (ad : Addr) (e : A = some ad) (hn : 0 < n) : ad.block < w.heap.size := by
 have h' := Kd.reads_of_C (d := 0) h
 obtain ⟨ad', e', hc⟩ := h'.2.2 hn
 have : ad' = ad := Option.some.inj (e'.symm.trans e)
 subst this
 have e2 : (ad'.add 0).block = ad'.block := by unfold Addr.add; cases ad'; first | rfl | (split <;> rfl)
 rw [← e2]
 exact World.block_lt_of_cell? w _ (hc 0 hn)
def ST (W : World) (B Bs Bl : Nat) (v : Value) (s : List Int × Int) : Prop := W.heap[Bs]? = some (.cells #[v] 22 (0, 0)) ∧ W.heap[Bl]? = some (.cells #[.int .i64 s.2] 3 (0, 0)) ∧ Kd.R (Kd.int .i64) 3 W B (fun q => B ≤ q) v s.1
theorem ST.below {W W' : World} {B Bs Bl : Nat} {v : Value} {s : List Int × Int} (h : ST W B Bs Bl v s) (hb : Below W.heap.size W W') : ST W' B Bs Bl v s := ⟨blk_below h.1 hb, blk_below h.2.1 hb, Kd.R_below h.2.2 hb⟩
theorem repsOne {w : World} {b : Nat} {ok : Nat → Prop} (x : Int) : Reps ((Kd.int .i64).M w b ok) (Kd.int .i64).sz [x] [.int .i64 x] := Kd.reps_scalar (enc := Value.int .i64) [x]
theorem C_keepI {w W : World} {A : Option Addr} {n : Nat} {xs : List Int} (h : Kd.C (Kd.int .i64) w A n xs) (hb : Below w.heap.size w W) : Kd.C (Kd.int .i64) W A n xs := Kd.C_below h hb
def Two (Bs Bl : Nat) (q : Nat) : Prop := q = Bs ∨ q = Bl
theorem keptT {w W : World} {S : Nat → Prop} (h : Kept w W S) {g : Nat} (hg : S g) (v : Value) : Kept w (W.setCell ⟨g, 0, none⟩ v) S :=
 ⟨by rw [show (W.setCell ⟨g, 0, none⟩ v).heap.size = W.heap.size by simp [World.setCell]]; exact h.1, fun k hk hn => (Below.heap_setCell W ⟨g, 0, none⟩ v k (fun e => hn (by rw [e]; exact hg))).trans (h.2 k hk hn)⟩
theorem goesV_ {P : Program} {ops : Array Oper} {Q : Exit → Act → World → Prop} {oi : Oper} {N : Option Tmp} {a : Act} {w : World} {K : Act → World → Prop} {f : FuncId} {t : Operand} {os_ : Array Operand} {ts : Array TypeId} {lb : Array Value} (eg : ∀ args w, (callFunc f args).run P w = .ok (.enter f args) w) (args : Array Value)
  (hw : Region.wanted oi (yielded ops a.tmps) = true) (hN : oi.dst = N) (hop : oi.op = .call { callee := .value t, args := os_, argTypes := ts }) (ht : a.eval t = .func (.func f) #[] lb) (hargs : os_.map a.eval ++ lb = args)
  (h : Calls P f args w fun e w' => ∃ v, e = .returned v ∧ K (a.put N v) w') : if Region.wanted oi (yielded ops a.tmps) = true then Oper.wp P oi a w K Q else K (a.put N undef) w := by
 refine call_ f args hw hN ?_ h
 unfold execOp
 simp [hop, resolve, Deferred.ofValue, invoke, ht, hargs, eg]
set_option maxHeartbeats 4000000 in
set_option maxRecDepth 100000 in
theorem impl_bestTracking.ext (k : Nat) (l0 l1 : List S49) (a2 : Int) (A0 A1 : Option Addr) (c0 c1 : Nat) (w0 W1 : World) (Ba Bb Bp Bs Bl Be : Nat) (lb : Array Value)
  (hlb : lb = #[.pointer (some ⟨Ba, 0, none⟩), .pointer (some ⟨Bb, 0, none⟩), .pointer (some ⟨Bp, 0, none⟩), .pointer (some ⟨Bl, 0, none⟩), .pointer (some ⟨Bs, 0, none⟩), .pointer (some ⟨Be, 0, none⟩)])
  (hA : W1.heap[Ba]? = some (.cells #[.slice A0 l0.length c0] 26 (0, 0))) (hBb : W1.heap[Bb]? = some (.cells #[.slice A1 l1.length c1] 26 (0, 0)))
  (hP : W1.heap[Bp]? = some (.cells #[.int .i64 a2] 3 (0, 0))) (hE : W1.heap[Be]? = some (.cells #[.func (.func 85) #[] lb] 85 (0, 0)))
  (hd : Ba ≠ Bs ∧ Ba ≠ Bl ∧ Bb ≠ Bs ∧ Bb ≠ Bl ∧ Bp ≠ Bs ∧ Bp ≠ Bl ∧ Be ≠ Bs ∧ Be ≠ Bl ∧ Bs ≠ Bl) (hg : w0.heap.size ≤ Bs ∧ w0.heap.size ≤ Bl) (hlt : Bs < W1.heap.size ∧ Bl < W1.heap.size) (hl : l0.length ≤ 5 ∧ l1.length ≤ 5)
  (hr0 : Kd.C k49 w0 A0 l0.length l0) (hc0 : l0.length ≤ c0) (hr1 : Kd.C k49 w0 A1 l1.length l1) (hc1 : l1.length ≤ c1) :
  ∀ (n : Nat) (tr : List Int) (At : Option Addr) (ct : Nat) (W : World) (v : Value) (s r : List Int × Int), l0.length = tr.length + n → Kd.C (Kd.int .i64) W At tr.length tr → tr.length ≤ ct → (∀ ad, At = some ad → 0 < tr.length → ad.block ≠ Bs ∧ ad.block ≠ Bl) →
   Below w0.heap.size w0 W → Kept W1 W (Two Bs Bl) → ST W W1.heap.size Bs Bl v s → btF (fun t => impl_trackingCost.f k l0 l1 t a2) l1.length n tr s = some r →
   Calls Try.prog 85 #[.slice At tr.length ct, .pointer (some ⟨Ba, 0, none⟩), .pointer (some ⟨Bb, 0, none⟩), .pointer (some ⟨Bp, 0, none⟩), .pointer (some ⟨Bl, 0, none⟩), .pointer (some ⟨Bs, 0, none⟩), .pointer (some ⟨Be, 0, none⟩)] W fun e w' => e = .returned (.tuple #[]) ∧ Below w0.heap.size w0 w' ∧ Kept W w' (Two Bs Bl) ∧ ∃ v', ST w' W1.heap.size Bs Bl v' r := by
 subst hlb
 have eg : ∀ args w, (callFunc 85 args).run Try.prog w = .ok (.enter 85 args) w := enters_of Try.func85 (by kernel_rfl) rfl
 have EG := Aside0.mk eg
 clear eg
 have env : ∀ W, Kept W1 W (Two Bs Bl) → W.heap[Ba]? = some (.cells #[.slice A0 l0.length c0] 26 (0, 0)) ∧ W.heap[Bb]? = some (.cells #[.slice A1 l1.length c1] 26 (0, 0)) ∧ W.heap[Bp]? = some (.cells #[.int .i64 a2] 3 (0, 0)) ∧ W.heap[Be]? = some (.cells #[.func (.func 85) #[] #[.pointer (some ⟨Ba, 0, none⟩), .pointer (some ⟨Bb, 0, none⟩), .pointer (some ⟨Bp, 0, none⟩), .pointer (some ⟨Bl, 0, none⟩), .pointer (some ⟨Bs, 0, none⟩), .pointer (some ⟨Be, 0, none⟩)]] 85 (0, 0)) := fun W hk =>
  ⟨(hk.2 Ba (blk_lt hA) (fun e => e.elim hd.1 hd.2.1)).trans hA, (hk.2 Bb (blk_lt hBb) (fun e => e.elim hd.2.2.1 hd.2.2.2.1)).trans hBb, (hk.2 Bp (blk_lt hP) (fun e => e.elim hd.2.2.2.2.1 hd.2.2.2.2.2.1)).trans hP, (hk.2 Be (blk_lt hE) (fun e => e.elim hd.2.2.2.2.2.2.1 hd.2.2.2.2.2.2.2.1)).trans hE⟩
 have ENV := Aside0.mk env
 have HD := Aside0.mk hd
 have HG := Aside0.mk hg
 have HLT := Aside0.mk hlt
 have HL := Aside0.mk hl
 have HR0 := Aside0.mk hr0
 have HC0 := Aside0.mk hc0
 have HR1 := Aside0.mk hr1
 have HC1 := Aside0.mk hc1
 clear env hd hg hlt hr0 hc0 hr1 hc1 hA hBb hP hE
 intro n
 induction n with
 | zero =>
  intro tr At ct W v s r hn hC hct hne hB hK hS h
  obtain ⟨eA, eB, eP, eE⟩ := ENV.out W hK
  have cA : W.cell? ⟨Ba, 0, none⟩ = some (.slice A0 l0.length c0) := blk_cell eA 0
  have cB : W.cell? ⟨Bb, 0, none⟩ = some (.slice A1 l1.length c1) := blk_cell eB 0
  have cP : W.cell? ⟨Bp, 0, none⟩ = some (.int .i64 a2) := blk_cell eP 0
  have HCt := Aside0.mk hC
  have Hct := Aside0.mk hct
  have HB := Aside0.mk hB
  have HK := Aside0.mk hK
  have HS := Aside0.mk hS
  unfold btF at h
  obtain ⟨x, hx, h⟩ := Option.bind_eq_some_iff.1 h
  have HX := Aside0.mk hx
  have HR := Aside0.mk (Option.some.inj h)
  have hz1 : ((tr.length : Int) == (l0.length : Int)) = true := beq_iff_eq.2 (by omega)
  have hz2 : decide ((tr.length : Int) = (l0.length : Int)) = true := decide_eq_true (by omega)
  have hz3 : ((tr.length : Int) = (l0.length : Int)) = True := eq_true (by omega)
  have hbig : tr.length < 17592186044416 := by have := HL.out; omega
  have HBIG := Aside0.mk hbig
  clear eA eB eP eE hC hct hne hB hK hS hx h hn hbig hl
  show Calls Try.prog 85 #[.slice At tr.length ct, .pointer (some ⟨Ba, 0, none⟩), .pointer (some ⟨Bb, 0, none⟩), .pointer (some ⟨Bp, 0, none⟩), .pointer (some ⟨Bl, 0, none⟩), .pointer (some ⟨Bs, 0, none⟩), .pointer (some ⟨Be, 0, none⟩)] W _
  go_enter Try.func85, Try.ntmps85
  go_wp2_with fail
  refine (impl_trackingCost.calls k A0 c0 l0 A1 c1 l1 At ct tr a2 x _ (Kd.C_below HR0.out HB.out) HC0.out (Kd.C_below HR1.out HB.out) HC1.out HCt.out Hct.out HX.out).mono ?_
  rintro e w1 ⟨rfl, hb⟩
  have HS1 := Aside0.mk (HS.out.below hb)
  have HB1 := Aside0.mk (HB.out.trans (hb.mono HB.out.size))
  have HK1 := Aside0.mk (Kept.of_below hb (Two Bs Bl))
  have HC1t := Aside0.mk (Kd.C_below HCt.out hb)
  have cl : w1.cell? ⟨Bl, 0, none⟩ = some (.int .i64 s.2) := blk_cell HS1.out.2.1 0
  clear hb cA cB cP
  by_cases k1 : s.2 < 0
  ·
   have k1a : (s.2 < 0) = True := eq_true k1
   have k1b : decide (s.2 < 0) = true := decide_eq_true k1
   go_wp2_with fail
   refine (slices_Clone_int_int.calls At ct tr tr _ HC1t.out Hct.out (if_pos HBIG.out)).mono ?_
   rintro e w2 ⟨v2, rfl, ho2, hb2⟩
   have HS2 := Aside0.mk (HS1.out.below hb2)
   have HB2 := Aside0.mk (HB1.out.trans (hb2.mono HB1.out.size))
   have HK2 := Aside0.mk (Kept.then_ (S := Two Bs Bl) HK1.out (Kept.of_below hb2 (fun _ => False)) (fun _ h => h.elim))
   have hW1 : W1.heap.size ≤ w1.heap.size := Nat.le_trans HK.out.1 HK1.out.1
   have HO2 := Aside0.mk (Kd.R_lower (Kd.R_mono (Kd.R_bound ho2) (ok' := fun q => W1.heap.size ≤ q) (fun q hq => Nat.le_trans hW1 hq.2.1)) hW1)
   have g1 : w2.cell? ⟨Bs, 0, none⟩ = some v := blk_cell HS2.out.1 0
   have g2 : w2.frozen? ⟨Bs, 0, none⟩ = false := blk_frozen HS2.out.1 0
   have g3 : ∀ u, (w2.setCell ⟨Bs, 0, none⟩ u).cell? ⟨Bl, 0, none⟩ = some (.int .i64 s.2) := fun u => blk_cell (blk_far HS2.out.2.1 (fun e => HD.out.2.2.2.2.2.2.2.2 e.symm) u) 0
   have g4 : ∀ u, (w2.setCell ⟨Bs, 0, none⟩ u).frozen? ⟨Bl, 0, none⟩ = false := fun u => blk_frozen (blk_far HS2.out.2.1 (fun e => HD.out.2.2.2.2.2.2.2.2 e.symm) u) 0
   have g5 : w2.cell? ⟨Bl, 0, none⟩ = some (.int .i64 s.2) := blk_cell HS2.out.2.1 0
   have g6 : w2.frozen? ⟨Bl, 0, none⟩ = false := blk_frozen HS2.out.2.1 0
   have hv2 : v2.oneCell' = true := by obtain ⟨A', c', rfl⟩ := Kd.R_slice HO2.out; rfl
   obtain ⟨A2', c2', ev2⟩ := Kd.R_slice HO2.out
   subst ev2
   clear ho2 hb2 hW1 hv2
   go_wp2
   (try simp only [Exit.inBlock, Exit.then]); refine bodyPost_ret (results_none rfl _ _ _) rfl ?_
   rw [← HR.out]
   have lt1 := HLT.out
   have b1 := blk_put HS2.out.1 0 (.slice A2' tr.length c2') (cs' := #[.slice A2' tr.length c2']) rfl
   have b2 := blk_far HS2.out.2.1 (p := ⟨Bs, 0, none⟩) (fun e => HD.out.2.2.2.2.2.2.2.2 e.symm) (.slice A2' tr.length c2')
   have r1 := Kd.R_far HO2.out (p := ⟨Bs, 0, none⟩) (fun q hq => by show q ≠ Bs; omega) (.slice A2' tr.length c2')
   refine ⟨rfl, (HB2.out.setCell (p := ⟨Bs, 0, none⟩) HG.out.1 _).setCell (p := ⟨Bl, 0, none⟩) HG.out.2 _, keptT (keptT HK2.out (.inl rfl) _) (.inr rfl) _, .slice A2' tr.length c2', ?_⟩
   rw [if_pos (.inl k1)]
   exact ⟨blk_far b1 (p := ⟨Bl, 0, none⟩) HD.out.2.2.2.2.2.2.2.2 _, blk_put b2 0 (.int .i64 x) rfl, Kd.R_far r1 (p := ⟨Bl, 0, none⟩) (fun q hq => by show q ≠ Bl; omega) _⟩
  ·
   have k1a : (s.2 < 0) = False := eq_false k1
   have k1b : decide (s.2 < 0) = false := decide_eq_false k1
   by_cases k2 : x < s.2
   ·
    have k2a : (x < s.2) = True := eq_true k2
    have k2b : decide (x < s.2) = true := decide_eq_true k2
    go_wp2_with fail
    refine (slices_Clone_int_int.calls At ct tr tr _ HC1t.out Hct.out (if_pos HBIG.out)).mono ?_
    rintro e w2 ⟨v2, rfl, ho2, hb2⟩
    have HS2 := Aside0.mk (HS1.out.below hb2)
    have HB2 := Aside0.mk (HB1.out.trans (hb2.mono HB1.out.size))
    have HK2 := Aside0.mk (Kept.then_ (S := Two Bs Bl) HK1.out (Kept.of_below hb2 (fun _ => False)) (fun _ h => h.elim))
    have hW1 : W1.heap.size ≤ w1.heap.size := Nat.le_trans HK.out.1 HK1.out.1
    have HO2 := Aside0.mk (Kd.R_lower (Kd.R_mono (Kd.R_bound ho2) (ok' := fun q => W1.heap.size ≤ q) (fun q hq => Nat.le_trans hW1 hq.2.1)) hW1)
    have g1 : w2.cell? ⟨Bs, 0, none⟩ = some v := blk_cell HS2.out.1 0
    have g2 : w2.frozen? ⟨Bs, 0, none⟩ = false := blk_frozen HS2.out.1 0
    have g3 : ∀ u, (w2.setCell ⟨Bs, 0, none⟩ u).cell? ⟨Bl, 0, none⟩ = some (.int .i64 s.2) := fun u => blk_cell (blk_far HS2.out.2.1 (fun e => HD.out.2.2.2.2.2.2.2.2 e.symm) u) 0
    have g4 : ∀ u, (w2.setCell ⟨Bs, 0, none⟩ u).frozen? ⟨Bl, 0, none⟩ = false := fun u => blk_frozen (blk_far HS2.out.2.1 (fun e => HD.out.2.2.2.2.2.2.2.2 e.symm) u) 0
    have g5 : w2.cell? ⟨Bl, 0, none⟩ = some (.int .i64 s.2) := blk_cell HS2.out.2.1 0
    have g6 : w2.frozen? ⟨Bl, 0, none⟩ = false := blk_frozen HS2.out.2.1 0
    have hv2 : v2.oneCell' = true := by obtain ⟨A', c', rfl⟩ := Kd.R_slice HO2.out; rfl
    obtain ⟨A2', c2', ev2⟩ := Kd.R_slice HO2.out
    subst ev2
    clear ho2 hb2 hW1 hv2
    go_wp2
    (try simp only [Exit.inBlock, Exit.then]); refine bodyPost_ret (results_none rfl _ _ _) rfl ?_
    rw [← HR.out]
    have lt1 := HLT.out
    have b1 := blk_put HS2.out.1 0 (.slice A2' tr.length c2') (cs' := #[.slice A2' tr.length c2']) rfl
    have b2 := blk_far HS2.out.2.1 (p := ⟨Bs, 0, none⟩) (fun e => HD.out.2.2.2.2.2.2.2.2 e.symm) (.slice A2' tr.length c2')
    have r1 := Kd.R_far HO2.out (p := ⟨Bs, 0, none⟩) (fun q hq => by show q ≠ Bs; omega) (.slice A2' tr.length c2')
    refine ⟨rfl, (HB2.out.setCell (p := ⟨Bs, 0, none⟩) HG.out.1 _).setCell (p := ⟨Bl, 0, none⟩) HG.out.2 _, keptT (keptT HK2.out (.inl rfl) _) (.inr rfl) _, .slice A2' tr.length c2', ?_⟩
    rw [if_pos (.inr k2)]
    exact ⟨blk_far b1 (p := ⟨Bl, 0, none⟩) HD.out.2.2.2.2.2.2.2.2 _, blk_put b2 0 (.int .i64 x) rfl, Kd.R_far r1 (p := ⟨Bl, 0, none⟩) (fun q hq => by show q ≠ Bl; omega) _⟩
   ·
    have k2a : (x < s.2) = False := eq_false k2
    have k2b : decide (x < s.2) = false := decide_eq_false k2
    go_wp2
    (try simp only [Exit.inBlock, Exit.then]); refine bodyPost_ret (results_none rfl _ _ _) rfl ?_
    rw [← HR.out, if_neg (fun e => e.elim (fun q => by omega) (fun q => by omega))]
    exact ⟨rfl, HB1.out, HK1.out, v, HS1.out⟩
 | succ n ih =>
  intro tr At ct W v s r hn hC hct hne hB hK hS h
  have hbig : tr.length < 17592186044416 := by have := HL.out; omega
  have HBIG := Aside0.mk hbig
  have HN := Aside0.mk hn
  have HCt := Aside0.mk hC
  have Hct := Aside0.mk hct
  have HNE := Aside0.mk hne
  have HB := Aside0.mk hB
  have HK := Aside0.mk hK
  have HS := Aside0.mk hS
  unfold btF at h
  have HH := Aside0.mk h
  have cA : W.cell? ⟨Ba, 0, none⟩ = some (.slice A0 l0.length c0) := blk_cell (ENV.out W hK).1 0
  have hz1 : ((tr.length : Int) == (l0.length : Int)) = false := beq_eq_false_iff_ne.2 (by omega)
  have hz2 : decide ((tr.length : Int) = (l0.length : Int)) = false := decide_eq_false (by omega)
  have hz3 : ((tr.length : Int) = (l0.length : Int)) = False := eq_false (by omega)
  have hl1 : l1.length ≤ 5 := HL.out.2
  have KC : ∀ W', Kept W W' (Two Bs Bl) → Kd.C (Kd.int .i64) W' At tr.length tr := fun W' hk => C_blkI HCt.out (fun ad e hp => hk.2 ad.block (C_ltI HCt.out ad e hp) (fun q => q.elim (HNE.out ad e hp).1 (HNE.out ad e hp).2))
  have HKC := Aside0.mk KC
  clear hbig hn hC hct hne hB hK hS h KC hl
  go_enter Try.func85, Try.ntmps85
  go_wp2_with fail
  clear cA
  go_loopg [9, 30, 31, 32, 33, 34, 35, 36, 37, 38, 39, 40, 41, 42, 43, 44, 45, 46, 47, 48, 49, 50] (l1.length + 1) (fun gg s9 _ _ _ _ _ _ _ _ _ _ _ _ _ _ _ _ _ _ _ _ _ wr => ∃ (i : Nat) (v' : Value) (s' : List Int × Int), i ≤ l1.length + 1 ∧ l1.length + 1 - i ≤ gg ∧ s9 = .int .i64 ((i : Int) - 1) ∧ Aside0 (Below w0.heap.size w0 wr) ∧ Aside0 (Kept W wr (Two Bs Bl)) ∧ Aside0 (ST wr W1.heap.size Bs Bl v' s') ∧ Aside0 (btL (btF (fun t => impl_trackingCost.f k l0 l1 t a2) l1.length n) tr (l1.length + 1 - i) i s' = some r))
  case atStart => exact ⟨0, v, s, by omega, by omega, by go_num, HB, ⟨Kept.refl _ _⟩, HS, HH⟩
  case round =>
   obtain ⟨i, v', s', hi, hgg, rfl, HBr, HKr, HSr, HTr⟩ := hrel
   have HKr1 := Aside0.mk (Kept.then_ (S := Two Bs Bl) HK.out HKr.out (fun _ h => .inl h))
   have cB : wr.cell? ⟨Bb, 0, none⟩ = some (.slice A1 l1.length c1) := blk_cell (ENV.out wr HKr1.out).2.1 0
   by_cases hlt : i < l1.length + 1
   ·
    have hltz : ((i : Int) - 1 < (l1.length : Int)) = True := eq_true (by omega)
    obtain ⟨d, hd⟩ : ∃ d, l1.length + 1 - i = d + 1 := ⟨l1.length - i, by omega⟩
    have HT0 := HTr.out
    rw [hd] at HT0
    unfold btL at HT0
    have cE0 := blk_cell (ENV.out wr HKr1.out).2.2.2 0
    have cE : wr.cell? ⟨Be, 0, none⟩ = some (.func (.func 85) #[] #[.pointer (some ⟨Ba, 0, none⟩), .pointer (some ⟨Bb, 0, none⟩), .pointer (some ⟨Bp, 0, none⟩), .pointer (some ⟨Bl, 0, none⟩), .pointer (some ⟨Bs, 0, none⟩), .pointer (some ⟨Be, 0, none⟩)]) := cE0
    clear cE0
    by_cases hi0 : i = 0
    ·
     have hneg : ((i : Int) - 1 < 0) = True := eq_true (by omega)
     have hnegb : decide ((i : Int) - 1 < 0) = true := decide_eq_true (by omega)
     rw [if_pos (.inl (by omega))] at HT0
     obtain ⟨s2, hf, ht⟩ := Option.bind_eq_some_iff.1 HT0
     have HF := Aside0.mk hf
     have HT := Aside0.mk ht
     clear hf ht HT0
     obtain ⟨wq, hwq⟩ : ∃ wq, wq = wr := ⟨_, rfl⟩
     subst hwq
     have HBq := HBr
     have HKq := HKr
     have HKq1 := HKr1
     have HSq := HSr
     have HCq := Aside0.mk (HKC.out _ HKr.out)
     go_wp2_with fail
     obtain ⟨y, hy⟩ : ∃ y, y = tr ++ [(i : Int) - 1] := ⟨_, rfl⟩
     have NY := Aside0.mk hy
     clear hy
     have HBd := Aside0.mk (below_drew (Below.refl wq.heap.size wq))
     refine start_ (n := 7) (S := fun w' => w'.cell? ⟨Be, 0, none⟩ = some (.func (.func 85) #[] #[.pointer (some ⟨Ba, 0, none⟩), .pointer (some ⟨Bb, 0, none⟩), .pointer (some ⟨Bp, 0, none⟩), .pointer (some ⟨Bl, 0, none⟩), .pointer (some ⟨Bs, 0, none⟩), .pointer (some ⟨Be, 0, none⟩)])) (ds := []) #[false, false, false, false, false, false, false] (by kernel_rfl) rfl rfl (show wq.drew.cell? ⟨Be, 0, none⟩ = _ from cE) (fun hHeld => ?_)
     refine with_tabW impl_bestTracking.c.tab8 impl_bestTracking.c.bits8 (fun HT_ HW_ => ?_)
     generalize wq.drew = wd at HBd hHeld ⊢
     refine zP 1 (some 45) #[zf, zt, zf, zf, zf, zf, zf] ?_ rfl rfl HT_ (Or.inl ⟨by rfl, ?_⟩) ?_ ?_ ?_
     rotate_left; · exact zqB
     rotate_left; · exact zqA
     refine zP 3 (some 47) #[zf, zt, zf, zt, zf, zf, zf] ?_ rfl rfl HT_ (Or.inl ⟨by rfl, ?_⟩) ?_ ?_ ?_
     rotate_left; · exact zqB
     rotate_left; · exact zqA
     refine zT 0 (some 44) #[zt, zt, zf, zt, zf, zf, zf] ?_ rfl rfl HT_ HW_ (Or.inl ⟨by rfl, ?_⟩) hHeld ?_ ?_ ?_
     rotate_left
     ·
      rintro w' s0
      go_simp
      with_reducible rfl
     rotate_left; · exact zqA
     refine join_ (σ := Value × Value) 2 #[true, true, true, true, true, false, false] (fun s_ => [(46, s_.1), (48, s_.2)]) (fun s_ w' => w'.cell? ⟨Be, 0, none⟩ = some (.func (.func 85) #[] #[.pointer (some ⟨Ba, 0, none⟩), .pointer (some ⟨Bb, 0, none⟩), .pointer (some ⟨Bp, 0, none⟩), .pointer (some ⟨Bl, 0, none⟩), .pointer (some ⟨Bs, 0, none⟩), .pointer (some ⟨Be, 0, none⟩)]) ∧ Kd.R (Kd.int .i64) 3 w' wq.heap.size (fun _ => True) s_.1 tr ∧ Kd.R (Kd.int .i64) 3 w' wq.heap.size (fun _ => True) s_.2 [(i : Int) - 1] ∧ Below wq.heap.size wq w') ?_ ?_
     rotate_left
     ·
      intro hCont
      refine two_ (i := 2) (j := 4) (Ni := some 46) (Nj := some 48) #[true, true, true, true, false, false, false] #[true, true, false, true, true, false, false] rfl rfl rfl rfl (by kernel_rfl) (by decide) (by decide) (fun K hK => ?_) (fun K hK => ?_)
      ·
       refine goes_ Try.func59 (by kernel_rfl) rfl #[.slice At tr.length ct] (by rfl) rfl rfl zq42 ?_
       refine (slices_Clone_int_int.calls At ct tr tr _ (C_keepI HCq.out HBd.out) Hct.out (if_pos HBIG.out)).mono ?_
       rintro e wc ⟨vc, rfl, hoc, hb⟩
       refine ⟨_, rfl, ?_⟩
       have HOc := Aside0.mk (Kd.R_lower hoc HBd.out.size)
       have HBc := Aside0.mk (HBd.out.trans (hb.mono HBd.out.size))
       refine hK.out _ _ ((hb.cell (World.block_lt_of_cell? _ _ hHeld)).trans hHeld) (fun hHeld => ?_)
       clear hK K hoc hb
       refine norm_ (a' := ?_) ?_ ?_
       rotate_left
       ·
        show Act.put _ (some 46) _ = _
        simp only [Act.put, List.setIfInBounds_toArray, List.set_cons_zero, List.set_cons_succ, i64_w, i32_w]
        rfl
       refine one_ (i := 4) (N := some 48) #[zt, zt, zt, zt, zt, zf, zf] rfl rfl (by kernel_rfl) (by decide) (fun K hK => ?_)
       refine Kd.R_lit_step (Kd.int .i64) _ 3 ?hg (N := 48) ?hd (xs := [(i : Int) - 1]) (inner := [.int .i64 ((i : Int) - 1)]) (ok := fun _ => True) (okp := fun _ => True) ?hr ?hp (fun _ hk => hk) trivial (Below.refl _ _) (Nat.le_refl _) (by simp) ?_
       case hd => rfl
       case hg => rfl
       case hr => first | (go_simp; done) | (go_simp; rfl)
       case hp => exact repsOne _
       intro vk wk hok hb _ _
       have HOc2 := Aside0.mk (Kd.R_below HOc.out hb)
       have HBk := Aside0.mk (HBc.out.trans (hb.mono HBc.out.size))
       have HOk := Aside0.mk (Kd.R_lower hok HBc.out.size)
       refine hK.out _ _ ((hb.cell (World.block_lt_of_cell? _ _ hHeld)).trans hHeld) (fun hHeld => ?_)
       clear hK K hok hb
       refine norm_ (a' := ?_) ?_ ?_
       rotate_left
       ·
        show Act.put _ (some 48) _ = _
        simp only [Act.put, List.setIfInBounds_toArray, List.set_cons_zero, List.set_cons_succ, i64_w, i32_w]
        rfl
       exact norm_ (by simp only [putAll, Act.put, List.setIfInBounds_toArray, List.set_cons_zero, List.set_cons_succ]) (hCont (vc, vk) _ ⟨hHeld, HOc2.out, HOk.out, HBk.out⟩)
      ·
       skip
       refine Kd.R_lit_step (Kd.int .i64) _ 3 ?hg (N := 48) ?hd (xs := [(i : Int) - 1]) (inner := [.int .i64 ((i : Int) - 1)]) (ok := fun _ => True) (okp := fun _ => True) ?hr ?hp (fun _ hk => hk) trivial (Below.refl _ _) (Nat.le_refl _) (by simp) ?_
       case hd => rfl
       case hg => rfl
       case hr => first | (go_simp; done) | (go_simp; rfl)
       case hp => exact repsOne _
       intro vk wk hok hb _ _
       have HBk := Aside0.mk (HBd.out.trans (hb.mono HBd.out.size))
       have HOk := Aside0.mk (Kd.R_lower hok HBd.out.size)
       refine hK.out _ _ ((hb.cell (World.block_lt_of_cell? _ _ hHeld)).trans hHeld) (fun hHeld => ?_)
       clear hK K hok hb
       refine norm_ (a' := ?_) ?_ ?_
       rotate_left
       ·
        show Act.put _ (some 48) _ = _
        simp only [Act.put, List.setIfInBounds_toArray, List.set_cons_zero, List.set_cons_succ, i64_w, i32_w]
        rfl
       refine one_ (i := 2) (N := some 46) #[zt, zt, zt, zt, zt, zf, zf] rfl rfl (by kernel_rfl) (by decide) (fun K hK => ?_)
       refine goes_ Try.func59 (by kernel_rfl) rfl #[.slice At tr.length ct] (by rfl) rfl rfl zq42 ?_
       refine (slices_Clone_int_int.calls At ct tr tr _ (C_keepI HCq.out HBk.out) Hct.out (if_pos HBIG.out)).mono ?_
       rintro e wc ⟨vc, rfl, hoc, hb⟩
       refine ⟨_, rfl, ?_⟩
       have HOc := Aside0.mk (Kd.R_lower hoc HBk.out.size)
       have HBc := Aside0.mk (HBk.out.trans (hb.mono HBk.out.size))
       have HOk2 := Aside0.mk (Kd.R_below HOk.out hb)
       refine hK.out _ _ ((hb.cell (World.block_lt_of_cell? _ _ hHeld)).trans hHeld) (fun hHeld => ?_)
       clear hK K hoc hb
       refine norm_ (a' := ?_) ?_ ?_
       rotate_left
       ·
        show Act.put _ (some 46) _ = _
        simp only [Act.put, List.setIfInBounds_toArray, List.set_cons_zero, List.set_cons_succ, i64_w, i32_w]
        rfl
       exact norm_ (by simp only [putAll, Act.put, List.setIfInBounds_toArray, List.set_cons_zero, List.set_cons_succ]) (hCont (vc, vk) _ ⟨hHeld, HOc.out, HOk2.out, HBc.out⟩)
     rintro ⟨vc, vk⟩ wj ⟨hS_, h0_, h1_, h2_⟩
     have HOc : Aside0 (Kd.R (Kd.int .i64) 3 wj wq.heap.size (fun _ => True) vc tr) := ⟨h0_⟩
     have HOk : Aside0 (Kd.R (Kd.int .i64) 3 wj wq.heap.size (fun _ => True) vk [(i : Int) - 1]) := ⟨h1_⟩
     have HBj : Aside0 (Below wq.heap.size wq wj) := ⟨h2_⟩
     have hHeld : wj.cell? ⟨Be, 0, none⟩ = some (.func (.func 85) #[] #[.pointer (some ⟨Ba, 0, none⟩), .pointer (some ⟨Bb, 0, none⟩), .pointer (some ⟨Bp, 0, none⟩), .pointer (some ⟨Bl, 0, none⟩), .pointer (some ⟨Bs, 0, none⟩), .pointer (some ⟨Be, 0, none⟩)]) := hS_
     clear h0_ h1_ h2_ hS_
     obtain ⟨Ak, ck, eo⟩ := Kd.R_slice HOk.out
     subst eo
     refine norm_ (a' := ?_) ?_ ?_
     rotate_left
     ·
      simp only [putAll, Act.put, List.setIfInBounds_toArray, List.set_cons_zero, List.set_cons_succ]
      rfl
     refine one_ (i := 5) (N := some 49) #[zt, zt, zt, zt, zt, zt, zf] rfl rfl (by kernel_rfl) (by decide) (fun K hK => ?_)
     refine Kd.R_append_rows_step (Kd.int .i64) wq.heap.size (by rfl) (.tmp 46) (.tmp 48) 22 3 (.int .i64 0) 8 rfl Try.underlying22 info3 rfl (by decide) (by omega) vc tr [(i : Int) - 1] _ _ _ (fun _ => True) (fun _ => False) rfl rfl ?aO ?aR (fun _ _ h => h) (fun _ h => h.elim) ?aF HBj.out ?aS ?aL ?_
     case aO => exact HOc.out
     case aR => exact (Kd.R_reads' HOk.out).2.2
     case aF => exact fun _ _ => trivial
     case aS => exact HBj.out.size
     case aL => have := HBIG.out; simp only [List.length_singleton]; omega
     intro v3 w3 ho hb hg hat
     rw [← NY.out] at ho
     have HO3 := Aside0.mk ho
     have HB3 := Aside0.mk hb
     clear ho hb hg hat
     obtain ⟨Ao, co, eo⟩ := Kd.R_slice HO3.out
     subst eo
     have hHeld3 : w3.cell? ⟨Be, 0, none⟩ = some (.func (.func 85) #[] #[.pointer (some ⟨Ba, 0, none⟩), .pointer (some ⟨Bb, 0, none⟩), .pointer (some ⟨Bp, 0, none⟩), .pointer (some ⟨Bl, 0, none⟩), .pointer (some ⟨Bs, 0, none⟩), .pointer (some ⟨Be, 0, none⟩)]) := (HB3.out.cell (World.block_lt_of_cell? _ _ cE)).trans cE
     clear hHeld
     refine hK.out _ _ hHeld3 (fun hHeld => ?_)
     clear hK K hHeld3
     refine norm_ (a' := ?_) ?_ ?_
     rotate_left
     ·
      show Act.put _ (some 49) _ = _
      simp only [Act.put, List.setIfInBounds_toArray, List.set_cons_zero, List.set_cons_succ, i64_w, i32_w]
      rfl
     refine one_ (i := 6) (N := some 50) #[zt, zt, zt, zt, zt, zt, zt] rfl rfl (by kernel_rfl) (by decide) (fun K hK => ?_)
     refine goesV_ EG.out #[.slice Ao y.length co, .pointer (some ⟨Ba, 0, none⟩), .pointer (some ⟨Bb, 0, none⟩), .pointer (some ⟨Bp, 0, none⟩), .pointer (some ⟨Bl, 0, none⟩), .pointer (some ⟨Bs, 0, none⟩), .pointer (some ⟨Be, 0, none⟩)] (by rfl) rfl rfl (by rfl) (by simp only [List.map_toArray, List.map_cons, List.map_nil]; rfl) ?_
     refine (ih y Ao co w3 v' s' s2 (by rw [NY.out, List.length_append, List.length_singleton]; have := HN.out; omega) (Kd.R_reads' HO3.out).2.2 (Kd.R_reads' HO3.out).2.1 ?hne (HBq.out.trans (HB3.out.mono HBq.out.size)) ?hk (HSq.out.below HB3.out) (by rw [NY.out]; exact HF.out)).mono ?_
     case hne =>
      intro ad ea hpos
      have h1 : wq.heap.size ≤ ad.block := Kd.R_base HO3.out ad.block (by rw [ea]; rfl)
      have h2 := HLT.out
      have h3 := HKq1.out.1
      exact ⟨by omega, by omega⟩
     case hk => exact Kept.then_ (S := Two Bs Bl) HKq1.out (Kept.of_below HB3.out (fun _ => False)) (fun _ h => h.elim)
     rintro e w4 ⟨rfl, hb4, hk4, v4, hs4⟩
     refine ⟨_, rfl, ?_⟩
     have HK4 := Aside0.mk (Kept.then_ (S := Two Bs Bl) (Kept.then_ (S := Two Bs Bl) HKq.out (Kept.of_below HB3.out (fun _ => False)) (fun _ h => h.elim)) hk4 (fun _ h => .inl h))
     have HK41 := Aside0.mk (Kept.then_ (S := Two Bs Bl) (Kept.then_ (S := Two Bs Bl) HKq1.out (Kept.of_below HB3.out (fun _ => False)) (fun _ h => h.elim)) hk4 (fun _ h => .inl h))
     have HB4 := Aside0.mk hb4
     have HS4 := Aside0.mk hs4
     clear hb4 hk4 hs4
     have cE4 := blk_cell (ENV.out w4 HK41.out).2.2.2 0
     refine hK.out _ _ cE4 (fun hHeld4 => ?_)
     clear hK K
     refine done_ (done_of HT_.out (by kernel_rfl)) ?_
     clear hHeld hHeld4 cE4 cE HT_ HW_
     go_wp2
     go_roundg (l1.length + 1 - (i + 1))
     case measure => omega
     case rel => exact ⟨i + 1, v4, s2, by omega, by omega, by go_num, HB4, HK4, HS4, ⟨by rw [show l1.length + 1 - (i + 1) = d from by omega]; exact HT.out⟩⟩
    ·
     have hneg : ((i : Int) - 1 < 0) = False := eq_false (by omega)
     have hnegb : decide ((i : Int) - 1 < 0) = false := decide_eq_false (by omega)
     obtain ⟨k1, hf1⟩ := (ev_containsI tr (by have := HBIG.out; omega) ((i : Int) - 1)).rounds
     have HCN := Aside0.mk hf1
     clear hf1
     go_wp2_with fail
     by_cases hin : ((i : Int) - 1) ∈ tr
     ·
      rw [decide_eq_true hin] at HCN
      rw [if_neg (fun q => q.elim (by omega) (fun n => n hin))] at HT0
      have HT := Aside0.mk HT0
      clear HT0
      refine (slices_Contains_int_int.calls k1 At ct tr ((i : Int) - 1) true _ (HKC.out _ HKr.out) Hct.out HCN.out).mono ?_
      rintro e wq ⟨rfl, hb⟩
      replace hb := hb.below
      go_wp2
      go_roundg (l1.length + 1 - (i + 1))
      case measure => omega
      case rel => exact ⟨i + 1, v', s', by omega, by omega, by go_num, ⟨HBr.out.trans (hb.mono HBr.out.size)⟩, ⟨Kept.then_ (S := Two Bs Bl) HKr.out (Kept.of_below hb (fun _ => False)) (fun _ h => h.elim)⟩, ⟨HSr.out.below hb⟩, ⟨by rw [show l1.length + 1 - (i + 1) = d from by omega]; exact HT.out⟩⟩
     ·
      rw [decide_eq_false hin] at HCN
      rw [if_pos (.inr hin)] at HT0
      obtain ⟨s2, hf, ht⟩ := Option.bind_eq_some_iff.1 HT0
      have HF := Aside0.mk hf
      have HT := Aside0.mk ht
      clear hf ht HT0
      refine (slices_Contains_int_int.calls k1 At ct tr ((i : Int) - 1) false _ (HKC.out _ HKr.out) Hct.out HCN.out).mono ?_
      rintro e wq ⟨rfl, hb⟩
      replace hb := hb.below
      have HBq := Aside0.mk (HBr.out.trans (hb.mono HBr.out.size))
      have HKq := Aside0.mk (Kept.then_ (S := Two Bs Bl) HKr.out (Kept.of_below hb (fun _ => False)) (fun _ h => h.elim))
      have HKq1 := Aside0.mk (Kept.then_ (S := Two Bs Bl) HKr1.out (Kept.of_below hb (fun _ => False)) (fun _ h => h.elim))
      have HSq := Aside0.mk (HSr.out.below hb)
      have HCq := Aside0.mk (HKC.out _ HKq.out)
      replace cE : wq.cell? ⟨Be, 0, none⟩ = some (.func (.func 85) #[] #[.pointer (some ⟨Ba, 0, none⟩), .pointer (some ⟨Bb, 0, none⟩), .pointer (some ⟨Bp, 0, none⟩), .pointer (some ⟨Bl, 0, none⟩), .pointer (some ⟨Bs, 0, none⟩), .pointer (some ⟨Be, 0, none⟩)]) := blk_cell (ENV.out wq HKq1.out).2.2.2 0
      clear hb cB
      go_wp2_with fail
      obtain ⟨y, hy⟩ : ∃ y, y = tr ++ [(i : Int) - 1] := ⟨_, rfl⟩
      have NY := Aside0.mk hy
      clear hy
      have HBd := Aside0.mk (below_drew (Below.refl wq.heap.size wq))
      refine start_ (n := 7) (S := fun w' => w'.cell? ⟨Be, 0, none⟩ = some (.func (.func 85) #[] #[.pointer (some ⟨Ba, 0, none⟩), .pointer (some ⟨Bb, 0, none⟩), .pointer (some ⟨Bp, 0, none⟩), .pointer (some ⟨Bl, 0, none⟩), .pointer (some ⟨Bs, 0, none⟩), .pointer (some ⟨Be, 0, none⟩)])) (ds := []) #[false, false, false, false, false, false, false] (by kernel_rfl) rfl rfl (show wq.drew.cell? ⟨Be, 0, none⟩ = _ from cE) (fun hHeld => ?_)
      refine with_tabW impl_bestTracking.c.tab8 impl_bestTracking.c.bits8 (fun HT_ HW_ => ?_)
      generalize wq.drew = wd at HBd hHeld ⊢
      refine zP 1 (some 45) #[zf, zt, zf, zf, zf, zf, zf] ?_ rfl rfl HT_ (Or.inl ⟨by rfl, ?_⟩) ?_ ?_ ?_
      rotate_left; · exact zqB
      rotate_left; · exact zqA
      refine zP 3 (some 47) #[zf, zt, zf, zt, zf, zf, zf] ?_ rfl rfl HT_ (Or.inl ⟨by rfl, ?_⟩) ?_ ?_ ?_
      rotate_left; · exact zqB
      rotate_left; · exact zqA
      refine zT 0 (some 44) #[zt, zt, zf, zt, zf, zf, zf] ?_ rfl rfl HT_ HW_ (Or.inl ⟨by rfl, ?_⟩) hHeld ?_ ?_ ?_
      rotate_left
      ·
       rintro w' s0
       go_simp
       with_reducible rfl
      rotate_left; · exact zqA
      refine join_ (σ := Value × Value) 2 #[true, true, true, true, true, false, false] (fun s_ => [(46, s_.1), (48, s_.2)]) (fun s_ w' => w'.cell? ⟨Be, 0, none⟩ = some (.func (.func 85) #[] #[.pointer (some ⟨Ba, 0, none⟩), .pointer (some ⟨Bb, 0, none⟩), .pointer (some ⟨Bp, 0, none⟩), .pointer (some ⟨Bl, 0, none⟩), .pointer (some ⟨Bs, 0, none⟩), .pointer (some ⟨Be, 0, none⟩)]) ∧ Kd.R (Kd.int .i64) 3 w' wq.heap.size (fun _ => True) s_.1 tr ∧ Kd.R (Kd.int .i64) 3 w' wq.heap.size (fun _ => True) s_.2 [(i : Int) - 1] ∧ Below wq.heap.size wq w') ?_ ?_
      rotate_left
      ·
       intro hCont
       refine two_ (i := 2) (j := 4) (Ni := some 46) (Nj := some 48) #[true, true, true, true, false, false, false] #[true, true, false, true, true, false, false] rfl rfl rfl rfl (by kernel_rfl) (by decide) (by decide) (fun K hK => ?_) (fun K hK => ?_)
       ·
        refine goes_ Try.func59 (by kernel_rfl) rfl #[.slice At tr.length ct] (by rfl) rfl rfl zq42 ?_
        refine (slices_Clone_int_int.calls At ct tr tr _ (C_keepI HCq.out HBd.out) Hct.out (if_pos HBIG.out)).mono ?_
        rintro e wc ⟨vc, rfl, hoc, hb⟩
        refine ⟨_, rfl, ?_⟩
        have HOc := Aside0.mk (Kd.R_lower hoc HBd.out.size)
        have HBc := Aside0.mk (HBd.out.trans (hb.mono HBd.out.size))
        refine hK.out _ _ ((hb.cell (World.block_lt_of_cell? _ _ hHeld)).trans hHeld) (fun hHeld => ?_)
        clear hK K hoc hb
        refine norm_ (a' := ?_) ?_ ?_
        rotate_left
        ·
         show Act.put _ (some 46) _ = _
         simp only [Act.put, List.setIfInBounds_toArray, List.set_cons_zero, List.set_cons_succ, i64_w, i32_w]
         rfl
        refine one_ (i := 4) (N := some 48) #[zt, zt, zt, zt, zt, zf, zf] rfl rfl (by kernel_rfl) (by decide) (fun K hK => ?_)
        refine Kd.R_lit_step (Kd.int .i64) _ 3 ?hg (N := 48) ?hd (xs := [(i : Int) - 1]) (inner := [.int .i64 ((i : Int) - 1)]) (ok := fun _ => True) (okp := fun _ => True) ?hr ?hp (fun _ hk => hk) trivial (Below.refl _ _) (Nat.le_refl _) (by simp) ?_
        case hd => rfl
        case hg => rfl
        case hr => first | (go_simp; done) | (go_simp; rfl)
        case hp => exact repsOne _
        intro vk wk hok hb _ _
        have HOc2 := Aside0.mk (Kd.R_below HOc.out hb)
        have HBk := Aside0.mk (HBc.out.trans (hb.mono HBc.out.size))
        have HOk := Aside0.mk (Kd.R_lower hok HBc.out.size)
        refine hK.out _ _ ((hb.cell (World.block_lt_of_cell? _ _ hHeld)).trans hHeld) (fun hHeld => ?_)
        clear hK K hok hb
        refine norm_ (a' := ?_) ?_ ?_
        rotate_left
        ·
         show Act.put _ (some 48) _ = _
         simp only [Act.put, List.setIfInBounds_toArray, List.set_cons_zero, List.set_cons_succ, i64_w, i32_w]
         rfl
        exact norm_ (by simp only [putAll, Act.put, List.setIfInBounds_toArray, List.set_cons_zero, List.set_cons_succ]) (hCont (vc, vk) _ ⟨hHeld, HOc2.out, HOk.out, HBk.out⟩)
       ·
        skip
        refine Kd.R_lit_step (Kd.int .i64) _ 3 ?hg (N := 48) ?hd (xs := [(i : Int) - 1]) (inner := [.int .i64 ((i : Int) - 1)]) (ok := fun _ => True) (okp := fun _ => True) ?hr ?hp (fun _ hk => hk) trivial (Below.refl _ _) (Nat.le_refl _) (by simp) ?_
        case hd => rfl
        case hg => rfl
        case hr => first | (go_simp; done) | (go_simp; rfl)
        case hp => exact repsOne _
        intro vk wk hok hb _ _
        have HBk := Aside0.mk (HBd.out.trans (hb.mono HBd.out.size))
        have HOk := Aside0.mk (Kd.R_lower hok HBd.out.size)
        refine hK.out _ _ ((hb.cell (World.block_lt_of_cell? _ _ hHeld)).trans hHeld) (fun hHeld => ?_)
        clear hK K hok hb
        refine norm_ (a' := ?_) ?_ ?_
        rotate_left
        ·
         show Act.put _ (some 48) _ = _
         simp only [Act.put, List.setIfInBounds_toArray, List.set_cons_zero, List.set_cons_succ, i64_w, i32_w]
         rfl
        refine one_ (i := 2) (N := some 46) #[zt, zt, zt, zt, zt, zf, zf] rfl rfl (by kernel_rfl) (by decide) (fun K hK => ?_)
        refine goes_ Try.func59 (by kernel_rfl) rfl #[.slice At tr.length ct] (by rfl) rfl rfl zq42 ?_
        refine (slices_Clone_int_int.calls At ct tr tr _ (C_keepI HCq.out HBk.out) Hct.out (if_pos HBIG.out)).mono ?_
        rintro e wc ⟨vc, rfl, hoc, hb⟩
        refine ⟨_, rfl, ?_⟩
        have HOc := Aside0.mk (Kd.R_lower hoc HBk.out.size)
        have HBc := Aside0.mk (HBk.out.trans (hb.mono HBk.out.size))
        have HOk2 := Aside0.mk (Kd.R_below HOk.out hb)
        refine hK.out _ _ ((hb.cell (World.block_lt_of_cell? _ _ hHeld)).trans hHeld) (fun hHeld => ?_)
        clear hK K hoc hb
        refine norm_ (a' := ?_) ?_ ?_
        rotate_left
        ·
         show Act.put _ (some 46) _ = _
         simp only [Act.put, List.setIfInBounds_toArray, List.set_cons_zero, List.set_cons_succ, i64_w, i32_w]
         rfl
        exact norm_ (by simp only [putAll, Act.put, List.setIfInBounds_toArray, List.set_cons_zero, List.set_cons_succ]) (hCont (vc, vk) _ ⟨hHeld, HOc.out, HOk2.out, HBc.out⟩)
      rintro ⟨vc, vk⟩ wj ⟨hS_, h0_, h1_, h2_⟩
      have HOc : Aside0 (Kd.R (Kd.int .i64) 3 wj wq.heap.size (fun _ => True) vc tr) := ⟨h0_⟩
      have HOk : Aside0 (Kd.R (Kd.int .i64) 3 wj wq.heap.size (fun _ => True) vk [(i : Int) - 1]) := ⟨h1_⟩
      have HBj : Aside0 (Below wq.heap.size wq wj) := ⟨h2_⟩
      have hHeld : wj.cell? ⟨Be, 0, none⟩ = some (.func (.func 85) #[] #[.pointer (some ⟨Ba, 0, none⟩), .pointer (some ⟨Bb, 0, none⟩), .pointer (some ⟨Bp, 0, none⟩), .pointer (some ⟨Bl, 0, none⟩), .pointer (some ⟨Bs, 0, none⟩), .pointer (some ⟨Be, 0, none⟩)]) := hS_
      clear h0_ h1_ h2_ hS_
      obtain ⟨Ak, ck, eo⟩ := Kd.R_slice HOk.out
      subst eo
      refine norm_ (a' := ?_) ?_ ?_
      rotate_left
      ·
       simp only [putAll, Act.put, List.setIfInBounds_toArray, List.set_cons_zero, List.set_cons_succ]
       rfl
      refine one_ (i := 5) (N := some 49) #[zt, zt, zt, zt, zt, zt, zf] rfl rfl (by kernel_rfl) (by decide) (fun K hK => ?_)
      refine Kd.R_append_rows_step (Kd.int .i64) wq.heap.size (by rfl) (.tmp 46) (.tmp 48) 22 3 (.int .i64 0) 8 rfl Try.underlying22 info3 rfl (by decide) (by omega) vc tr [(i : Int) - 1] _ _ _ (fun _ => True) (fun _ => False) rfl rfl ?aO ?aR (fun _ _ h => h) (fun _ h => h.elim) ?aF HBj.out ?aS ?aL ?_
      case aO => exact HOc.out
      case aR => exact (Kd.R_reads' HOk.out).2.2
      case aF => exact fun _ _ => trivial
      case aS => exact HBj.out.size
      case aL => have := HBIG.out; simp only [List.length_singleton]; omega
      intro v3 w3 ho hb hg hat
      rw [← NY.out] at ho
      have HO3 := Aside0.mk ho
      have HB3 := Aside0.mk hb
      clear ho hb hg hat
      obtain ⟨Ao, co, eo⟩ := Kd.R_slice HO3.out
      subst eo
      have hHeld3 : w3.cell? ⟨Be, 0, none⟩ = some (.func (.func 85) #[] #[.pointer (some ⟨Ba, 0, none⟩), .pointer (some ⟨Bb, 0, none⟩), .pointer (some ⟨Bp, 0, none⟩), .pointer (some ⟨Bl, 0, none⟩), .pointer (some ⟨Bs, 0, none⟩), .pointer (some ⟨Be, 0, none⟩)]) := (HB3.out.cell (World.block_lt_of_cell? _ _ cE)).trans cE
      clear hHeld
      refine hK.out _ _ hHeld3 (fun hHeld => ?_)
      clear hK K hHeld3
      refine norm_ (a' := ?_) ?_ ?_
      rotate_left
      ·
       show Act.put _ (some 49) _ = _
       simp only [Act.put, List.setIfInBounds_toArray, List.set_cons_zero, List.set_cons_succ, i64_w, i32_w]
       rfl
      refine one_ (i := 6) (N := some 50) #[zt, zt, zt, zt, zt, zt, zt] rfl rfl (by kernel_rfl) (by decide) (fun K hK => ?_)
      refine goesV_ EG.out #[.slice Ao y.length co, .pointer (some ⟨Ba, 0, none⟩), .pointer (some ⟨Bb, 0, none⟩), .pointer (some ⟨Bp, 0, none⟩), .pointer (some ⟨Bl, 0, none⟩), .pointer (some ⟨Bs, 0, none⟩), .pointer (some ⟨Be, 0, none⟩)] (by rfl) rfl rfl (by rfl) (by simp only [List.map_toArray, List.map_cons, List.map_nil]; rfl) ?_
      refine (ih y Ao co w3 v' s' s2 (by rw [NY.out, List.length_append, List.length_singleton]; have := HN.out; omega) (Kd.R_reads' HO3.out).2.2 (Kd.R_reads' HO3.out).2.1 ?hne (HBq.out.trans (HB3.out.mono HBq.out.size)) ?hk (HSq.out.below HB3.out) (by rw [NY.out]; exact HF.out)).mono ?_
      case hne =>
       intro ad ea hpos
       have h1 : wq.heap.size ≤ ad.block := Kd.R_base HO3.out ad.block (by rw [ea]; rfl)
       have h2 := HLT.out
       have h3 := HKq1.out.1
       exact ⟨by omega, by omega⟩
      case hk => exact Kept.then_ (S := Two Bs Bl) HKq1.out (Kept.of_below HB3.out (fun _ => False)) (fun _ h => h.elim)
      rintro e w4 ⟨rfl, hb4, hk4, v4, hs4⟩
      refine ⟨_, rfl, ?_⟩
      have HK4 := Aside0.mk (Kept.then_ (S := Two Bs Bl) (Kept.then_ (S := Two Bs Bl) HKq.out (Kept.of_below HB3.out (fun _ => False)) (fun _ h => h.elim)) hk4 (fun _ h => .inl h))
      have HK41 := Aside0.mk (Kept.then_ (S := Two Bs Bl) (Kept.then_ (S := Two Bs Bl) HKq1.out (Kept.of_below HB3.out (fun _ => False)) (fun _ h => h.elim)) hk4 (fun _ h => .inl h))
      have HB4 := Aside0.mk hb4
      have HS4 := Aside0.mk hs4
      clear hb4 hk4 hs4
      have cE4 := blk_cell (ENV.out w4 HK41.out).2.2.2 0
      refine hK.out _ _ cE4 (fun hHeld4 => ?_)
      clear hK K
      refine done_ (done_of HT_.out (by kernel_rfl)) ?_
      clear hHeld hHeld4 cE4 cE HT_ HW_
      go_wp2
      go_roundg (l1.length + 1 - (i + 1))
      case measure => omega
      case rel => exact ⟨i + 1, v4, s2, by omega, by omega, by go_num, HB4, HK4, HS4, ⟨by rw [show l1.length + 1 - (i + 1) = d from by omega]; exact HT.out⟩⟩
   ·
    have hltz : ((i : Int) - 1 < (l1.length : Int)) = False := eq_false (by omega)
    have HT0 := HTr.out
    rw [show l1.length + 1 - i = 0 from by omega] at HT0
    have hr : s' = r := Option.some.inj HT0
    subst hr
    clear HT0
    go_wp2
    (try simp only [Exit.inBlock, Exit.then]); first | refine bodyPost_end (results_none rfl _ _ _) rfl ?_ | refine bodyPost_ret (results_none rfl _ _ _) rfl ?_
    exact ⟨rfl, HBr.out, HKr.out, v', HSr.out⟩
theorem rsFunc (P : Program) (w : World) (a : Addr) (m : Mode) (fn : Fn) (first captured : Array Value) : (store a (.func fn first captured) m).run P w = stored P w a (.func fn first captured) m := run_store P w a _ m rfl
attribute [local go_sem] rsFunc
set_option maxHeartbeats 4000000 in
set_option maxRecDepth 100000 in
theorem impl_bestTracking.calls (k : Nat) (A0 : Option Addr) (c0 : Nat) (l0 : List S49) (A1 : Option Addr) (c1 : Nat) (l1 : List S49) (a2 : Int) (r1 : List Int) (r2 : Int) (w : World) (hr0 : Kd.C k49 w A0 l0.length l0) (hc0 : l0.length ≤ c0) (hr1 : Kd.C k49 w A1 l1.length l1) (hc1 : l1.length ≤ c1) (h : impl_bestTracking.f k l0 l1 a2 = some (r1, r2)) :
  Calls Try.prog 71 #[.slice A0 l0.length c0, .slice A1 l1.length c1, .int .i64 a2] w fun e w' => ∃ v0_ : Value, e = .returned (.tuple #[v0_, .int .i64 r2]) ∧ Kd.R (Kd.int .i64) 3 w' w.heap.size (fun _ => True) v0_ r1 ∧ Below w.heap.size w w' := by
 have H := h
 unfold impl_bestTracking.f at H
 split at H
 ·
  rename_i hl
  obtain ⟨W1, hW1⟩ : ∃ W1, W1 = ((((((w.alloc (.cells #[.slice A0 l0.length c0] 26)).alloc (.cells #[.slice A1 l1.length c1] 26)).alloc (.cells #[.int .i64 a2] 3)).alloc (.cells #[.slice none 0 0] 22)).alloc (.cells #[.int .i64 (-1)] 3)).alloc (.cells #[.func (.func 85) #[] #[.pointer (some ⟨w.heap.size, 0, none⟩), .pointer (some ⟨w.heap.size + 1, 0, none⟩), .pointer (some ⟨w.heap.size + 1 + 1, 0, none⟩), .pointer (some ⟨w.heap.size + 1 + 1 + 1 + 1, 0, none⟩), .pointer (some ⟨w.heap.size + 1 + 1 + 1, 0, none⟩), .pointer (some ⟨w.heap.size + 1 + 1 + 1 + 1 + 1, 0, none⟩)]] 85)) := ⟨_, rfl⟩
  have a1B : Below w.heap.size w W1 := by rw [hW1]; repeat (first | exact Below.refl _ _ | apply below_alloc)
  have n0 : W1.heap[w.heap.size]? = some (.cells #[.slice A0 l0.length c0] 26 (0, 0)) := by
   rw [hW1]
   have q := blk_new w (.cells #[.slice A0 l0.length c0] 26)
   have q := blk_alloc q (.cells #[.slice A1 l1.length c1] 26)
   have q := blk_alloc q (.cells #[.int .i64 a2] 3)
   have q := blk_alloc q (.cells #[.slice none 0 0] 22)
   have q := blk_alloc q (.cells #[.int .i64 (-1)] 3)
   have q := blk_alloc q (.cells #[.func (.func 85) #[] #[.pointer (some ⟨w.heap.size, 0, none⟩), .pointer (some ⟨w.heap.size + 1, 0, none⟩), .pointer (some ⟨w.heap.size + 1 + 1, 0, none⟩), .pointer (some ⟨w.heap.size + 1 + 1 + 1 + 1, 0, none⟩), .pointer (some ⟨w.heap.size + 1 + 1 + 1, 0, none⟩), .pointer (some ⟨w.heap.size + 1 + 1 + 1 + 1 + 1, 0, none⟩)]] 85)
   simpa using q
  have n1 : W1.heap[w.heap.size + 1]? = some (.cells #[.slice A1 l1.length c1] 26 (0, 0)) := by
   rw [hW1]
   have q := blk_new (w.alloc (.cells #[.slice A0 l0.length c0] 26)) (.cells #[.slice A1 l1.length c1] 26)
   have q := blk_alloc q (.cells #[.int .i64 a2] 3)
   have q := blk_alloc q (.cells #[.slice none 0 0] 22)
   have q := blk_alloc q (.cells #[.int .i64 (-1)] 3)
   have q := blk_alloc q (.cells #[.func (.func 85) #[] #[.pointer (some ⟨w.heap.size, 0, none⟩), .pointer (some ⟨w.heap.size + 1, 0, none⟩), .pointer (some ⟨w.heap.size + 1 + 1, 0, none⟩), .pointer (some ⟨w.heap.size + 1 + 1 + 1 + 1, 0, none⟩), .pointer (some ⟨w.heap.size + 1 + 1 + 1, 0, none⟩), .pointer (some ⟨w.heap.size + 1 + 1 + 1 + 1 + 1, 0, none⟩)]] 85)
   simpa using q
  have n2 : W1.heap[w.heap.size + 1 + 1]? = some (.cells #[.int .i64 a2] 3 (0, 0)) := by
   rw [hW1]
   have q := blk_new ((w.alloc (.cells #[.slice A0 l0.length c0] 26)).alloc (.cells #[.slice A1 l1.length c1] 26)) (.cells #[.int .i64 a2] 3)
   have q := blk_alloc q (.cells #[.slice none 0 0] 22)
   have q := blk_alloc q (.cells #[.int .i64 (-1)] 3)
   have q := blk_alloc q (.cells #[.func (.func 85) #[] #[.pointer (some ⟨w.heap.size, 0, none⟩), .pointer (some ⟨w.heap.size + 1, 0, none⟩), .pointer (some ⟨w.heap.size + 1 + 1, 0, none⟩), .pointer (some ⟨w.heap.size + 1 + 1 + 1 + 1, 0, none⟩), .pointer (some ⟨w.heap.size + 1 + 1 + 1, 0, none⟩), .pointer (some ⟨w.heap.size + 1 + 1 + 1 + 1 + 1, 0, none⟩)]] 85)
   simpa using q
  have n3 : W1.heap[w.heap.size + 1 + 1 + 1]? = some (.cells #[.slice none 0 0] 22 (0, 0)) := by
   rw [hW1]
   have q := blk_new (((w.alloc (.cells #[.slice A0 l0.length c0] 26)).alloc (.cells #[.slice A1 l1.length c1] 26)).alloc (.cells #[.int .i64 a2] 3)) (.cells #[.slice none 0 0] 22)
   have q := blk_alloc q (.cells #[.int .i64 (-1)] 3)
   have q := blk_alloc q (.cells #[.func (.func 85) #[] #[.pointer (some ⟨w.heap.size, 0, none⟩), .pointer (some ⟨w.heap.size + 1, 0, none⟩), .pointer (some ⟨w.heap.size + 1 + 1, 0, none⟩), .pointer (some ⟨w.heap.size + 1 + 1 + 1 + 1, 0, none⟩), .pointer (some ⟨w.heap.size + 1 + 1 + 1, 0, none⟩), .pointer (some ⟨w.heap.size + 1 + 1 + 1 + 1 + 1, 0, none⟩)]] 85)
   simpa using q
  have n4 : W1.heap[w.heap.size + 1 + 1 + 1 + 1]? = some (.cells #[.int .i64 (-1)] 3 (0, 0)) := by
   rw [hW1]
   have q := blk_new ((((w.alloc (.cells #[.slice A0 l0.length c0] 26)).alloc (.cells #[.slice A1 l1.length c1] 26)).alloc (.cells #[.int .i64 a2] 3)).alloc (.cells #[.slice none 0 0] 22)) (.cells #[.int .i64 (-1)] 3)
   have q := blk_alloc q (.cells #[.func (.func 85) #[] #[.pointer (some ⟨w.heap.size, 0, none⟩), .pointer (some ⟨w.heap.size + 1, 0, none⟩), .pointer (some ⟨w.heap.size + 1 + 1, 0, none⟩), .pointer (some ⟨w.heap.size + 1 + 1 + 1 + 1, 0, none⟩), .pointer (some ⟨w.heap.size + 1 + 1 + 1, 0, none⟩), .pointer (some ⟨w.heap.size + 1 + 1 + 1 + 1 + 1, 0, none⟩)]] 85)
   simpa using q
  have n5 : W1.heap[w.heap.size + 1 + 1 + 1 + 1 + 1]? = some (.cells #[.func (.func 85) #[] #[.pointer (some ⟨w.heap.size, 0, none⟩), .pointer (some ⟨w.heap.size + 1, 0, none⟩), .pointer (some ⟨w.heap.size + 1 + 1, 0, none⟩), .pointer (some ⟨w.heap.size + 1 + 1 + 1 + 1, 0, none⟩), .pointer (some ⟨w.heap.size + 1 + 1 + 1, 0, none⟩), .pointer (some ⟨w.heap.size + 1 + 1 + 1 + 1 + 1, 0, none⟩)]] 85 (0, 0)) := by
   rw [hW1]
   have q := blk_new (((((w.alloc (.cells #[.slice A0 l0.length c0] 26)).alloc (.cells #[.slice A1 l1.length c1] 26)).alloc (.cells #[.int .i64 a2] 3)).alloc (.cells #[.slice none 0 0] 22)).alloc (.cells #[.int .i64 (-1)] 3)) (.cells #[.func (.func 85) #[] #[.pointer (some ⟨w.heap.size, 0, none⟩), .pointer (some ⟨w.heap.size + 1, 0, none⟩), .pointer (some ⟨w.heap.size + 1 + 1, 0, none⟩), .pointer (some ⟨w.heap.size + 1 + 1 + 1 + 1, 0, none⟩), .pointer (some ⟨w.heap.size + 1 + 1 + 1, 0, none⟩), .pointer (some ⟨w.heap.size + 1 + 1 + 1 + 1 + 1, 0, none⟩)]] 85)
   simpa using q
  have hsz : W1.heap.size = w.heap.size + 6 := by rw [hW1]; simp
  have HW := Aside0.mk hW1
  have HBW := Aside0.mk a1B
  have HSZ := Aside0.mk hsz
  have HX := Aside0.mk (impl_bestTracking.ext k l0 l1 a2 A0 A1 c0 c1 w W1 (w.heap.size) (w.heap.size + 1) (w.heap.size + 1 + 1) (w.heap.size + 1 + 1 + 1) (w.heap.size + 1 + 1 + 1 + 1) (w.heap.size + 1 + 1 + 1 + 1 + 1) _ rfl n0 n1 n2 n5 ⟨by omega, by omega, by omega, by omega, by omega, by omega, by omega, by omega, by omega⟩ ⟨by omega, by omega⟩ ⟨by omega, by omega⟩ hl hr0 hc0 hr1 hc1 l0.length [] none 0 W1 (.slice none 0 0) ([], -1) (r1, r2) (by simp) (Kd.C_nil _ _) (by simp) (fun ad e => by cases e) a1B (Kept.refl _ _) ⟨n3, n4, Kd.R_nil _ _ _ _ _⟩ H)
  clear hW1 a1B n0 n1 n2 n3 n4 n5 hsz hr0 hc0 hr1 hc1 h H hl
  go_enter Try.func71, Try.ntmps71
  go_wp2_with fail
  rw [← HW.out]
  refine HX.out.mono ?_
  rintro e we ⟨rfl, hb, hk, v', hs⟩
  obtain ⟨Av, cv, ev⟩ := Kd.R_slice hs.2.2
  subst ev
  have HB := Aside0.mk (below_drew hb)
  have HR := Aside0.mk (Kd.R_drew hs.2.2)
  have d0 : we.cell? ⟨w.heap.size + 1 + 1 + 1, 0, none⟩ = some (.slice Av r1.length cv) := blk_cell hs.1 0
  have d1 : we.cell? ⟨w.heap.size + 1 + 1 + 1 + 1, 0, none⟩ = some (.int .i64 r2) := blk_cell hs.2.1 0
  clear hb hk hs
  go_wp2_with fail
  refine start_ (n := 4) (S := fun w' => w'.cell? ⟨w.heap.size + 1 + 1 + 1, 0, none⟩ = some (.slice Av r1.length cv) ∧ w'.cell? ⟨w.heap.size + 1 + 1 + 1 + 1, 0, none⟩ = some (.int .i64 r2)) (ds := []) #[false, false, false, false] (by kernel_rfl) rfl rfl ⟨(show we.drew.cell? _ = _ from d0), (show we.drew.cell? _ = _ from d1)⟩ (fun hHeld => ?_)
  refine with_tabW impl_bestTracking.d.tab6 impl_bestTracking.d.bits6 (fun HT_ HW_ => ?_)
  generalize we.drew = w1 at HB HR hHeld ⊢
  refine zT 0 (some 14) #[zt, zf, zf, zf] ?_ rfl rfl HT_ HW_ (Or.inl ⟨by rfl, ?_⟩) hHeld ?_ ?_ ?_
  rotate_left
  ·
   rintro w' ⟨s0, s1⟩
   go_simp
   with_reducible rfl
  rotate_left; · exact zqA
  refine zP 2 (some 6) #[zt, zf, zt, zf] ?_ rfl rfl HT_ (Or.inl ⟨by rfl, ?_⟩) ?_ ?_ ?_
  rotate_left; · exact zqB
  rotate_left; · exact zqA
  refine zT 1 (some 15) #[zt, zt, zt, zf] ?_ rfl rfl HT_ HW_ (Or.inl ⟨by rfl, ?_⟩) hHeld ?_ ?_ ?_
  rotate_left
  ·
   rintro w' ⟨s0, s1⟩
   go_simp
   with_reducible rfl
  rotate_left; · exact zqA
  refine zP 3 (some 7) #[zt, zt, zt, zt] ?_ rfl rfl HT_ (Or.inl ⟨by rfl, ?_⟩) ?_ ?_ ?_
  rotate_left; · exact zqB
  rotate_left; · exact zqA
  refine done_ (done_of HT_.out (by kernel_rfl)) ?_
  go_wp2
  go_ret2
  exact ⟨_, rfl, Kd.R_mono (Kd.R_lower HR.out HBW.out.size) (fun _ _ => trivial), HB.out⟩
 ·
  cases H
end Go.Proofs.Ytpdeapefekbdpaa.Q
namespace Go.Proofs.Ytpdeapefekbdpaa.Q
open Go.RowKit Go.Proofs.YtpdeapefekbdpaaW.PrintWords Go.Proofs.YtpdeapefekbdpaaW.PrintLast Go.Proofs.YtpdeapefekbdpaaW.PrintMore
attribute [local go_sem] max2_int min2_int max_two min_two max_three min_three max_four min_four
set_option linter.unusedVariables false
set_option linter.unusedSimpArgs false
def impl_trackingsOf.c.T7 : Bool × List (List Nat × List Nat) := (true, [([], []), ([], []), ([1], [1]), ([0, 2], [0, 2]), ([3], [3]), ([], []), ([], []), ([5, 6], [5, 6]), ([7], [7]), ([], []), ([4, 8, 9], [4, 8, 9]), ([10], [10]), ([11], [11]), ([11], [11]), ([12, 10, 0, 1, 2, 3, 4, 5, 6, 7, 8, 9, 10, 11, 12], [12]), ([13, 14, 0, 1, 2, 3, 4, 5, 6, 7, 8, 9, 10, 11, 12, 13, 14], [13])])
def impl_trackingsOf.c.B7 : List Nat := [0, 0, 2, 7, 15, 0, 0, 96, 224, 0, 1023, 2047, 4095, 4095, 8191, 32767]
theorem impl_trackingsOf.c.tab7 : rtab .any (opsOf Try.f38 7) = impl_trackingsOf.c.T7 := by kernel_rfl
theorem impl_trackingsOf.c.bits7 : waitsOk impl_trackingsOf.c.T7.2 impl_trackingsOf.c.B7 = true := by kernel_rfl
def okL (l : List S49) : Bool := decide (l.length ≤ 5) && !(l.any badS)
def trL (c : List S49 → List S49 → Option (List Int × Int)) (l0 : List (List S49)) : Nat → Nat → List (List Int) → Option (List (List Int))
 | 0, _, acc => some acc
 | d + 1, i, acc => (c (rd_L8 l0 ((i : Int) - 1)) (rd_L8 l0 (i : Int))).bind fun t => trL c l0 d (i + 1) (acc ++ [t.1])
theorem trL_mono {c e : List S49 → List S49 → Option (List Int × Int)} (h : ∀ x y, LeO (c x y) (e x y)) (l0 : List (List S49)) : ∀ d i acc, LeO (trL c l0 d i acc) (trL e l0 d i acc)
 | 0, _, _ => LeO.refl _
 | d + 1, i, acc => LeO.bind (h _ _) (fun _ => trL_mono h l0 d _ _)
def impl_trackingsOf.f (k : Nat) (l0 : List (List S49)) (a1 : Int) : Option (List (List Int) × Bool) := if 6 < l0.length then some ([], false) else if (decide (0 ≤ a1 ∧ a1 ≤ 20)) = true then (if (l0.any fun l => !okL l) = true then some ([], false) else (trL (fun x y => impl_bestTracking.f k x y a1) l0 (l0.length - 1) 1 []).bind fun t => some (t, true)) else some ([], false)
set_option maxRecDepth 100000 in
theorem impl_trackingsOf.pred : ∀ (W : World) (A : Option Addr) (c : Nat) (x : List S49), Kd.C k49 W A x.length x → x.length ≤ c → Calls Try.prog 70 (#[.slice A x.length c] ++ #[]) W fun e w' => e = .returned (.bool (!okL x)) ∧ Below W.heap.size W w' := by
 intro W A c x hC hc
 have HC := Aside0.mk hC
 have Hc := Aside0.mk hc
 clear hC hc
 show Calls Try.prog 70 #[.slice A x.length c] W _
 have h : impl_areStorms.f x = some (okL x) := rfl
 have H := Aside0.mk h
 clear h
 generalize okL x = q at H ⊢
 go_enter Try.func70, Try.ntmps70
 go_wp2_with fail
 refine (impl_areStorms.calls A c x q _ HC.out Hc.out H.out).mono ?_
 rintro e w1 ⟨rfl, hb⟩
 go_wp2
 go_ret
 exact ⟨rfl, hb⟩
set_option maxHeartbeats 4000000 in
set_option maxRecDepth 1000000 in
theorem impl_trackingsOf.calls (k : Nat) (A0 : Option Addr) (c0 : Nat) (l0 : List (List S49)) (a1 : Int) (r1 : List (List Int)) (r2 : Bool) (w : World) (hr0 : Kd.C (Kd.slice 49 k49) w A0 l0.length l0) (hc0 : l0.length ≤ c0) (h : impl_trackingsOf.f k l0 a1 = some (r1, r2)) :
  Calls Try.prog 38 #[.slice A0 l0.length c0, .int .i64 a1] w fun e w' => ∃ v0_ : Value, e = .returned (.tuple #[v0_, .bool r2]) ∧ Kd.R (Kd.slice 3 (Kd.int .i64)) 22 w' w.heap.size (fun _ => True) v0_ r1 ∧ Below w.heap.size w w' := by
 have eg : ∀ args w, (callFunc 70 args).run Try.prog w = .ok (.enter 70 args) w := enters_of Try.func70 (by kernel_rfl) rfl
 have EG := Aside0.mk eg
 have HR0 := Aside0.mk hr0
 have HC0 := Aside0.mk hc0
 have hbig : l0.length ≤ 9223372036854775807 := hr0.2.1
 clear eg hr0 hc0
 unfold impl_trackingsOf.f at h
 by_cases c1 : 6 < l0.length
 case pos =>
  rw [if_pos c1] at h
  have c1a : ((l0.length : Int) > 6) = True := eq_true (by omega)
  have c1b : (6 < (l0.length : Int)) = True := eq_true (by omega)
  have c1c : decide (6 < (l0.length : Int)) = true := decide_eq_true (by omega)
  injection h with h
  injection h with h1 h2
  subst h1 h2
  clear c1
  go_enter Try.func38, Try.ntmps38
  go_wp2
  go_ret2
  exact ⟨_, rfl, Kd.R_nil _ _ _ _ _, by first | exact Below.refl _ _ | exact pw_below_drewN (Below.refl _ _) _⟩
 rw [if_neg c1] at h
 have c1a : ((l0.length : Int) > 6) = False := eq_false (by omega)
 have c1b : (6 < (l0.length : Int)) = False := eq_false (by omega)
 have c1c : decide (6 < (l0.length : Int)) = false := decide_eq_false (by omega)
 have hpen : impl_isPenalty.f a1 = some (decide (0 ≤ a1 ∧ a1 ≤ 20)) := by unfold impl_isPenalty.f; rw [within_f]; rfl
 have hle : l0.length ≤ 6 := by omega
 generalize decide (0 ≤ a1 ∧ a1 ≤ 20) = b at hpen h
 have HPEN := Aside0.mk hpen
 have H := Aside0.mk h
 have HLE := Aside0.mk hle
 clear c1 hpen h hle
 go_enter Try.func38, Try.ntmps38
 go_wp2_with fail
 refine (impl_isPenalty.calls a1 b _ HPEN.out).mono ?_
 rintro e w1 ⟨rfl, hb⟩
 try replace hb := hb.below
 have HB1 := Aside0.mk hb
 clear hb
 cases b with
 | false =>
  have h := H.out
  first | rw [if_neg (by simp)] at h | simp only [if_false] at h
  injection h with h
  injection h with h1 h2
  subst h1 h2
  go_wp2
  go_ret2
  exact ⟨_, rfl, Kd.R_nil _ _ _ _ _, HB1.out⟩
 | true =>
  go_wp2_with fail
  refine (ContainsFuncL.calls 70 #[] (fun l => !okL l) EG.out A0 l0.length c0 l0 _ rfl ?hr1 HC0.out (fun W A c x _ hC hc => impl_trackingsOf.pred W A c x hC hc)).mono ?_
  case hr1 => first | exact Kd.C_below HR0.out HB1.out | exact Kd.C_drew (Kd.C_below HR0.out HB1.out)
  rintro e w2 ⟨rfl, hb⟩
  have HB2 := Aside0.mk (below_step HB1.out hb)
  clear hb
  have h := H.out
  first | rw [if_pos rfl] at h | rw [if_pos trivial] at h
  have HQ := Aside0.mk h
  clear h
  generalize (l0.any fun l => !okL l) = q at HQ ⊢
  cases q with
  | true =>
   have h := HQ.out
   first | rw [if_pos rfl] at h | rw [if_pos trivial] at h
   injection h with h
   injection h with h1 h2
   subst h1 h2
   go_wp2
   go_ret2
   exact ⟨_, rfl, Kd.R_nil _ _ _ _ _, HB2.out⟩
  | false =>
   have h := HQ.out
   first | rw [if_neg (by simp)] at h | simp only [if_false] at h
   obtain ⟨t, ht, h⟩ := Option.bind_eq_some_iff.1 h
   injection h with h
   injection h with h1 h2
   subst h1 h2
   have HT := Aside0.mk ht
   clear ht H HQ
   go_wp2
   go_loopg [7, 6, 8, 9, 22, 23, 24, 25, 26, 27, 28, 29, 30, 31, 32, 33, 34, 35, 36, 37, 38, 39, 40, 41, 42, 43, 44, 45] (l0.length + 1) (fun gg s7 s6 _ _ _ _ _ _ _ _ _ _ _ _ _ _ _ _ _ _ _ _ _ _ _ _ _ _ wr => ∃ (i : Nat) (acc : List (List Int)), 1 ≤ i ∧ l0.length + 1 - i ≤ gg ∧ s7 = .int .i64 (i : Int) ∧ Aside0 (Below w.heap.size w wr) ∧ Aside0 (Kd.R (Kd.slice 3 (Kd.int .i64)) 22 wr w.heap.size (fun _ => True) s6 acc) ∧ Aside0 (acc.length < i) ∧ Aside0 (trL (fun x y => impl_bestTracking.f k x y a1) l0 (l0.length - i) i acc = some t))
   case atStart => exact ⟨1, [], by omega, by omega, by go_num, HB2, ⟨Kd.R_nil _ _ _ _ _⟩, ⟨by simp⟩, HT⟩
   obtain ⟨i, acc, hi, hgg, rfl, HBr, HOr0, HAL, HTr⟩ := hrel
   by_cases hlt : i < l0.length
   case neg =>
    have hltz : ((i : Int) < (l0.length : Int)) = False := eq_false (by omega)
    have ht := HTr.out
    rw [show l0.length - i = 0 from by omega] at ht
    obtain rfl := Option.some.inj ht
    clear ht
    go_wp2
    go_ret2
    exact ⟨_, rfl, HOr0.out, HBr.out⟩
   have hltz : ((i : Int) < (l0.length : Int)) = True := eq_true (by omega)
   obtain ⟨d, hd⟩ : ∃ d, l0.length - i = d + 1 := ⟨l0.length - i - 1, by omega⟩
   have ht := HTr.out
   rw [hd] at ht
   unfold trL at ht
   obtain ⟨⟨t1, t2⟩, h1, ht⟩ := Option.bind_eq_some_iff.1 ht
   have HT1 := Aside0.mk h1
   have HT2 := Aside0.mk ht
   clear h1 ht
   obtain ⟨ad, Ax, cx, e0, hx, hlx, hcx⟩ := at_L8 HR0.out ((i : Int) - 1) (by omega) (by omega)
   cases e0
   obtain ⟨ad', Ay, cy, e1, hy, hly, hcy⟩ := at_L8 HR0.out (i : Int) (by omega) (by omega)
   obtain rfl : ad = ad' := by injection e1
   have HCx := Aside0.mk (Kd.C_below hcx HBr.out)
   have HCy := Aside0.mk (Kd.C_below hcy HBr.out)
   have HLx := Aside0.mk hlx
   have HLy := Aside0.mk hly
   replace hx := (HBr.out.cell (World.block_lt_of_cell? w _ hx)).trans hx
   replace hy := (HBr.out.cell (World.block_lt_of_cell? w _ hy)).trans hy
   rw [show ((i : Int) - 1).toNat = i - 1 from by omega] at hx
   rw [Int.toNat_natCast] at hy
   clear hcx hcy hlx hly e1
   have P1 : (0 ≤ (i : Int) - 1) = True := eq_true (by omega)
   have P2 : ((i : Int) - 1 < (l0.length : Int)) = True := eq_true (by omega)
   have WI : wrap64 ((i : Int) - 1) = (i : Int) - 1 := by have := HLE.out; unfold wrap64; omega
   have P4 : (1 ≤ (i : Int)) = True := eq_true (by omega)
   have P5 : (1 ≤ i) = True := eq_true (by omega)
   have P3 : (0 ≤ (i : Int)) = True := eq_true (by omega)
   have HI := Aside0.mk hi
   have HD := Aside0.mk hd
   clear hi hd
   have HB := Aside0.mk (below_drew (Below.refl wr.heap.size wr))
   have HOw := Aside0.mk (Kd.R_drew HOr0.out)
   go_wp2_with fail
   refine start_ (n := 16) (S := fun w' => w'.cell? (ad.add (i - 1)) = some (.slice Ax (rd_L8 l0 ((i : Int) - 1)).length cx) ∧ w'.cell? (ad.add i) = some (.slice Ay (rd_L8 l0 (i : Int)).length cy)) (ds := []) #[false, false, false, false, false, false, false, false, false, false, false, false, false, false, false, false] (by kernel_rfl) rfl rfl ⟨(show wr.drew.cell? _ = _ from hx), (show wr.drew.cell? _ = _ from hy)⟩ (fun hHeld => ?_)
   refine with_tabW impl_trackingsOf.c.tab7 impl_trackingsOf.c.bits7 (fun HT_ HW_ => ?_)
   generalize wr.drew = w1 at HB HOw hHeld ⊢
   refine zP 0 (some 29) #[zt, zf, zf, zf, zf, zf, zf, zf, zf, zf, zf, zf, zf, zf, zf, zf] ?_ rfl rfl HT_ (Or.inl ⟨by rfl, ?_⟩) ?_ ?_ ?_
   rotate_left; · exact zqB
   rotate_left; · exact zqA
   refine zP 1 (some 30) #[zt, zt, zf, zf, zf, zf, zf, zf, zf, zf, zf, zf, zf, zf, zf, zf] ?_ rfl rfl HT_ (Or.inl ⟨by rfl, ?_⟩) ?_ ?_ ?_
   rotate_left; · exact zqB
   rotate_left; · exact zqA
   refine zP 2 (some 31) #[zt, zt, zt, zf, zf, zf, zf, zf, zf, zf, zf, zf, zf, zf, zf, zf] ?_ rfl rfl HT_ (Or.inl ⟨by rfl, ?_⟩) ?_ ?_ ?_
   rotate_left; · exact zqB
   rotate_left; · exact zqA
   refine zP 3 (some 32) #[zt, zt, zt, zt, zf, zf, zf, zf, zf, zf, zf, zf, zf, zf, zf, zf] ?_ rfl rfl HT_ (Or.inl ⟨by rfl, ?_⟩) ?_ ?_ ?_
   rotate_left; · exact zqB
   rotate_left; · exact zqA
   refine zP 5 (some 34) #[zt, zt, zt, zt, zf, zt, zf, zf, zf, zf, zf, zf, zf, zf, zf, zf] ?_ rfl rfl HT_ (Or.inl ⟨by rfl, ?_⟩) ?_ ?_ ?_
   rotate_left; · exact zqB
   rotate_left; · exact zqA
   refine zP 6 (some 35) #[zt, zt, zt, zt, zf, zt, zt, zf, zf, zf, zf, zf, zf, zf, zf, zf] ?_ rfl rfl HT_ (Or.inl ⟨by rfl, ?_⟩) ?_ ?_ ?_
   rotate_left; · exact zqB
   rotate_left; · exact zqA
   refine zP 7 (some 36) #[zt, zt, zt, zt, zf, zt, zt, zt, zf, zf, zf, zf, zf, zf, zf, zf] ?_ rfl rfl HT_ (Or.inl ⟨by rfl, ?_⟩) ?_ ?_ ?_
   rotate_left; · exact zqB
   rotate_left; · exact zqA
   refine zP 9 (some 38) #[zt, zt, zt, zt, zf, zt, zt, zt, zf, zt, zf, zf, zf, zf, zf, zf] ?_ rfl rfl HT_ (Or.inl ⟨by rfl, ?_⟩) ?_ ?_ ?_
   rotate_left; · exact zqB
   rotate_left; · exact zqA
   refine zT 4 (some 33) #[zt, zt, zt, zt, zt, zt, zt, zt, zf, zt, zf, zf, zf, zf, zf, zf] ?_ rfl rfl HT_ HW_ (Or.inl ⟨by rfl, ?_⟩) hHeld ?_ ?_ ?_
   rotate_left
   ·
    rintro w' ⟨s0, s1⟩
    go_simp
    with_reducible rfl
   rotate_left; · exact zqA
   refine zT 8 (some 37) #[zt, zt, zt, zt, zt, zt, zt, zt, zt, zt, zf, zf, zf, zf, zf, zf] ?_ rfl rfl HT_ HW_ (Or.inl ⟨by rfl, ?_⟩) hHeld ?_ ?_ ?_
   rotate_left
   ·
    rintro w' ⟨s0, s1⟩
    go_simp
    with_reducible rfl
   rotate_left; · exact zqA
   refine one_ (i := 10) (N := some 39) #[zt, zt, zt, zt, zt, zt, zt, zt, zt, zt, zt, zf, zf, zf, zf, zf] rfl rfl (one_of HT_.out (by kernel_rfl)) (by decide) (fun K hK => ?_)
   refine goes_ Try.func71 (by kernel_rfl) rfl #[.slice Ax (rd_L8 l0 ((i : Int) - 1)).length cx, .slice Ay (rd_L8 l0 (i : Int)).length cy, .int .i64 a1] (by rfl) rfl rfl zq42 ?_
   refine (impl_bestTracking.calls k Ax cx (rd_L8 l0 ((i : Int) - 1)) Ay cy (rd_L8 l0 (i : Int)) a1 t1 t2 _ (Kd.C_below HCx.out HB.out) HLx.out (Kd.C_below HCy.out HB.out) HLy.out HT1.out).mono ?_
   rintro e w2 ⟨vt, rfl, hot, hb⟩
   refine ⟨_, rfl, ?_⟩
   have HOt := Aside0.mk hot
   have HOr := Aside0.mk (Kd.R_elder' HOw.out (Kd.R_base hot) hb)
   have HLW := Aside0.mk HB.out.size
   obtain ⟨At, ct, et_⟩ := Kd.R_slice HOt.out
   subst et_
   clear hot HOw
   obtain ⟨s0, s1⟩ := hHeld
   have HB_ := Aside0.mk (HB.out.trans (hb.mono HB.out.size))
   clear HB
   have HB := HB_
   clear HB_
   refine hK.out _ _ ⟨(hb.cell (World.block_lt_of_cell? _ _ s0)).trans s0, (hb.cell (World.block_lt_of_cell? _ _ s1)).trans s1⟩ (fun hHeld => ?_)
   clear hK K hb s0 s1
   refine norm_ (a' := ?_) ?_ ?_
   rotate_left
   ·
    show Act.put _ (some 39) _ = _
    simp only [Act.put, List.setIfInBounds_toArray, List.set_cons_zero, List.set_cons_succ, i64_w, i32_w]
    rfl
   refine zP 11 (some 28) #[zt, zt, zt, zt, zt, zt, zt, zt, zt, zt, zt, zt, zf, zf, zf, zf] ?_ rfl rfl HT_ (Or.inl ⟨by rfl, ?_⟩) ?_ ?_ ?_
   rotate_left; · exact zqB
   rotate_left; · exact zqA
   refine zP 12 (some 40) #[zt, zt, zt, zt, zt, zt, zt, zt, zt, zt, zt, zt, zt, zf, zf, zf] ?_ rfl rfl HT_ (Or.inl ⟨by rfl, ?_⟩) ?_ ?_ ?_
   rotate_left; · exact zqB
   rotate_left; · exact zqA
   refine zP 13 (some 41) #[zt, zt, zt, zt, zt, zt, zt, zt, zt, zt, zt, zt, zt, zt, zf, zf] ?_ rfl rfl HT_ (Or.inl ⟨by rfl, ?_⟩) ?_ ?_ ?_
   rotate_left; · exact zqB
   rotate_left; · exact zqA
   refine zP 14 (some 8) #[zt, zt, zt, zt, zt, zt, zt, zt, zt, zt, zt, zt, zt, zt, zt, zf] ?_ rfl rfl HT_ (Or.inl ⟨by rfl, ?_⟩) ?_ ?_ ?_
   rotate_left; · exact zqB
   rotate_left; · exact zqA
   refine zP 15 (some 9) #[zt, zt, zt, zt, zt, zt, zt, zt, zt, zt, zt, zt, zt, zt, zt, zt] ?_ rfl rfl HT_ (Or.inl ⟨by rfl, ?_⟩) ?_ ?_ ?_
   rotate_left; · exact zqB
   rotate_left; · exact zqA
   refine done_ (done_of HT_.out (by kernel_rfl)) ?_
   have HBn := Aside0.mk (HBr.out.trans (HB.out.mono HBr.out.size))
   clear hHeld HT_ HW_
   go_wp2_with ((with_reducible refine gate_dst (N := 45) rfl ?_); refine Kd.R_append (Kd.slice 3 (Kd.int .i64)) (w0 := w) w.heap.size rfl (.tmp 42) (.tmp 44) 53 22 (.slice none 0 0) 24 rfl Try.underlying53 info22 rfl (by decide) (by omega) u6 acc t1 [.slice At t1.length ct] (fun _ => True) (fun k_ => some k_ ≠ (u6 : Value).ownBlock) rfl rfl ?aP (fun k_ hk => ⟨trivial, hk⟩) (fun _ _ => trivial) ?aO HBn.out ?aS ?aL ?_; (case aP => exact ⟨_, rfl, Kd.R_mono (Kd.R_lower (Kd.R_new' HOt.out (fun q hq => Nat.lt_of_lt_of_le (Kd.R_lt HOr0.out q hq) HLW.out)) (Nat.le_trans HBr.out.size HLW.out)) (fun _ hk => hk.2)⟩); (case aO => exact Kd.R_mono HOr.out (fun _ _ => trivial)); (case aS => exact HBn.out.size); (case aL => have := HAL.out; have := HLE.out; omega); intro v9 w9 ho hb hg hat; have HO9 := Aside0.mk ho; have HB9 := Aside0.mk hb; clear ho hb hg hat)
   go_wp2
   go_roundg (l0.length + 1 - (i + 1))
   case measure => omega
   case rel => exact ⟨i + 1, acc ++ [t1], by omega, by omega, by go_num, HB9, HO9, ⟨by rw [List.length_append, List.length_singleton]; have := HAL.out; omega⟩, ⟨by rw [show l0.length - (i + 1) = d from by have := HD.out; omega]; exact HT2.out⟩⟩
def impl_trackLength.l0 : Nat → List (List Int) → Int → Int → Int → Option (Int)
 | 0, _, _, _, _ => none
 | k + 1, x0, x1, x2, x7 => if x1 < (x0.length : Int) then (if 0 ≤ x1 then (if 0 ≤ x2 then (if x2 < ((rd_L1 x0 x1).length : Int) then (if (rd (rd_L1 x0 x1) x2) ≥ 0 then (impl_trackLength.l0 k x0 (wrap64 (x1 + 1)) (rd (rd_L1 x0 x1) x2) (wrap64 (x7 + 1))) else (some x7)) else (none)) else (none)) else (none)) else (some x7)
def impl_trackLength.f (k : Nat) (l0 : List (List Int)) (a1 : Int) (a2 : Int) : Option (Int) := impl_trackLength.l0 k l0 a1 a2 1
set_option maxHeartbeats 8000000 in
set_option maxRecDepth 100000 in
theorem impl_trackLength.calls (k : Nat) (A0 : Option Addr) (c0 : Nat) (l0 : List (List Int)) (a1 : Int) (a2 : Int) (r : Int) (w : World) (hr0 : Kd.C (Kd.slice 3 (Kd.int .i64)) w A0 l0.length l0) (hc0 : l0.length ≤ c0) (h : impl_trackLength.f k l0 a1 a2 = some r) :
  Calls Try.prog 40 #[.slice A0 l0.length c0, .int .i64 a1, .int .i64 a2] w fun e w' => e = .returned (.int .i64 r) ∧ Drawn0 w w' := by
 have HR0 := Aside0.mk hr0
 have HC0 := Aside0.mk hc0
 clear hr0 hc0
 have H : (impl_trackLength.l0 k l0 a1 a2 1) = some r := h
 clear h
 have H' := Aside0.mk H
 clear H
 go_enter Try.func40, Try.ntmps40
 go_wp2
 go_loopg [1, 2, 7] k (fun kq v1 v2 v7 w' => ∃ (x1_1 : Int) (x2_1 : Int) (x7_1 : Int), v1 = .int .i64 x1_1 ∧ v2 = .int .i64 x2_1 ∧ v7 = .int .i64 x7_1 ∧ Aside0 (impl_trackLength.l0 kq l0 x1_1 x2_1 x7_1 = some r) ∧ Aside0 (kq ≤ k) ∧ Drawn0 w w')
 case atStart => exact ⟨(a1), (a2), (1), (by first | rfl | (simp; done) | (simp [*]; done)), (by first | rfl | (simp; done) | (simp [*]; done)), (by first | rfl | (simp; done) | (simp [*]; done)), H', ⟨Nat.le_refl _⟩, zq19⟩
 clear H'
 try clear p2
 obtain ⟨x1_1, x2_1, x7_1, rfl, rfl, rfl, HA, HK1, ⟨m1, rfl⟩⟩ := hrel
 cases gk with
 | zero => exact absurd HA.out (by simp [impl_trackLength.l0])
 | succ k1 =>
  have H := HA.out
  clear HA
  simp only [impl_trackLength.l0] at H
  by_cases c4 : x1_1 < (l0.length : Int)
  case neg =>
   rw [if_neg c4] at H
   have c4b0 : decide (x1_1 < (l0.length : Int)) = false := decide_eq_false c4
   clear c4
   obtain rfl := Option.some.inj H
   go_wp2
   go_ret
   exact ⟨by first | rfl | (simp; done) | (simp [*]; done), zq19⟩
  rw [if_pos c4] at H
  have c4b0 : decide (x1_1 < (l0.length : Int)) = true := decide_eq_true c4
  clear c4
  by_cases c5 : 0 ≤ x1_1
  case neg =>
   rw [if_neg c5] at H
   exact absurd H (by simp)
  rw [if_pos c5] at H
  have c5b0 : decide (0 ≤ x1_1) = true := decide_eq_true c5
  clear c5
  by_cases c6 : 0 ≤ x2_1
  case neg =>
   rw [if_neg c6] at H
   exact absurd H (by simp)
  rw [if_pos c6] at H
  have c6b0 : decide (0 ≤ x2_1) = true := decide_eq_true c6
  clear c6
  by_cases c7 : x2_1 < ((rd_L1 l0 x1_1).length : Int)
  case neg =>
   rw [if_neg c7] at H
   exact absurd H (by simp)
  rw [if_pos c7] at H
  have c7b0 : decide (x2_1 < ((rd_L1 l0 x1_1).length : Int)) = true := decide_eq_true c7
  clear c7
  by_cases c8 : (rd (rd_L1 l0 x1_1) x2_1) ≥ 0
  case neg =>
   rw [if_neg c8] at H
   have c8b0 : decide (0 ≤ (rd (rd_L1 l0 x1_1) x2_1)) = false := decide_eq_false c8
   clear c8
   obtain rfl := Option.some.inj H
   have p533 : 0 ≤ (x1_1 : Int) := of_decide_eq_true zq2
   have q533 : x1_1 < (l0.length : Int) := of_decide_eq_true zq2
   obtain ⟨ad533, A533_0, c533_0, e533, hx533_0, hl533_0, hi533_0⟩ := at_L1 HR0.out x1_1 p533 q533
   cases e533
   have HR533_0 := Aside0.mk hi533_0
   have HC533_0 := Aside0.mk hl533_0
   clear hi533_0 hl533_0
   replace p533 := eq_true p533
   replace q533 := eq_true q533
   have p534 : 0 ≤ (x2_1 : Int) := of_decide_eq_true zq2
   have q534 : x2_1 < ((rd_L1 l0 x1_1).length : Int) := of_decide_eq_true zq2
   obtain ⟨ad534, e534, hx534_0⟩ := Kd.at_int HR533_0.out x2_1 p534 q534
   cases e534
   replace p534 := eq_true p534
   replace q534 := eq_true q534
   go_wp2
   go_ret
   exact ⟨by first | rfl | (simp; done) | (simp [*]; done), zq19⟩
  rw [if_pos c8] at H
  have c8b0 : decide (0 ≤ (rd (rd_L1 l0 x1_1) x2_1)) = true := decide_eq_true c8
  clear c8
  have H' := Aside0.mk H
  clear H
  have p533 : 0 ≤ (x1_1 : Int) := of_decide_eq_true zq2
  have q533 : x1_1 < (l0.length : Int) := of_decide_eq_true zq2
  obtain ⟨ad533, A533_0, c533_0, e533, hx533_0, hl533_0, hi533_0⟩ := at_L1 HR0.out x1_1 p533 q533
  cases e533
  have HR533_0 := Aside0.mk hi533_0
  have HC533_0 := Aside0.mk hl533_0
  clear hi533_0 hl533_0
  replace p533 := eq_true p533
  replace q533 := eq_true q533
  have p534 : 0 ≤ (x2_1 : Int) := of_decide_eq_true zq2
  have q534 : x2_1 < ((rd_L1 l0 x1_1).length : Int) := of_decide_eq_true zq2
  obtain ⟨ad534, e534, hx534_0⟩ := Kd.at_int HR533_0.out x2_1 p534 q534
  cases e534
  replace p534 := eq_true p534
  replace q534 := eq_true q534
  have p535 : 0 ≤ (x1_1 : Int) := of_decide_eq_true zq2
  have q535 : x1_1 < (l0.length : Int) := of_decide_eq_true zq2
  obtain ⟨ad535, A535_0, c535_0, e535, hx535_0, hl535_0, hi535_0⟩ := at_L1 HR0.out x1_1 p535 q535
  obtain rfl : ad533 = ad535 := (by injection e535)
  have HR535_0 := Aside0.mk hi535_0
  have HC535_0 := Aside0.mk hl535_0
  clear hi535_0 hl535_0
  replace p535 := eq_true p535
  replace q535 := eq_true q535
  have ea_ := Option.some.inj (hx533_0.symm.trans hx535_0)
  injection ea_ with ea_ en_ ec_
  subst ea_
  subst ec_
  clear en_
  have p536 : 0 ≤ (x2_1 : Int) := of_decide_eq_true zq2
  have q536 : x2_1 < ((rd_L1 l0 x1_1).length : Int) := of_decide_eq_true zq2
  obtain ⟨ad536, e536, hx536_0⟩ := Kd.at_int HR535_0.out x2_1 p536 q536
  cases e536
  replace p536 := eq_true p536
  replace q536 := eq_true q536
  go_wp2
  go_roundg k1
  case measure => have := HK1.out; omega
  case rel => exact ⟨(wrap64 (x1_1 + 1)), (rd (rd_L1 l0 x1_1) x2_1), (wrap64 (x7_1 + 1)), (by first | rfl | (simp; done) | (simp [*]; done)), (by first | rfl | (simp; done) | (simp [*]; done)), (by first | rfl | (simp; done) | (simp [*]; done)), H', ⟨by have := HK1.out; omega⟩, zq19⟩
def impl_TrackLength.f (k : Nat) (l0 : List (List (S49))) (a1 : Int) (a2 : Int) (a3 : Int) : Option (Int × Bool) := (impl_trackingsOf.f k l0 a1).bind fun bt537 => (if bt537.2 = true then ((impl_within.f a2 0 (wrap64 ((l0.length : Int) - 1))).bind fun t541 => (if t541 = true then (if 0 ≤ a2 then (if a2 < (l0.length : Int) then ((impl_within.f a3 0 (wrap64 (((rd_L8 l0 a2).length : Int) - 1))).bind fun t543 => (if t543 = true then ((impl_trackLength.f k bt537.1 a2 a3).bind fun t544 => (some (t544, true))) else (some (0, false)))) else (none)) else (none)) else (some (0, false)))) else (some (0, false)))
set_option maxHeartbeats 8000000 in
set_option maxRecDepth 100000 in
theorem impl_TrackLength.calls (k : Nat) (A0 : Option Addr) (c0 : Nat) (l0 : List (List (S49))) (a1 : Int) (a2 : Int) (a3 : Int) (r1 : Int) (r2 : Bool) (w : World) (hr0 : Kd.C (Kd.slice 49 k49) w A0 l0.length l0) (hc0 : l0.length ≤ c0) (h : impl_TrackLength.f k l0 a1 a2 a3 = some (r1, r2)) :
  Calls Try.prog 16 #[.slice A0 l0.length c0, .int .i64 a1, .int .i64 a2, .int .i64 a3] w fun e w' => e = .returned (.tuple #[.int .i64 r1, .bool r2]) ∧ Below w.heap.size w w' := by
 have HR0 := Aside0.mk hr0
 have HC0 := Aside0.mk hc0
 clear hr0 hc0
 have HB := Aside0.mk (Below.refl w.heap.size w)
 have H : ((impl_trackingsOf.f k l0 a1).bind fun bt537 => (if bt537.2 = true then ((impl_within.f a2 0 (wrap64 ((l0.length : Int) - 1))).bind fun t541 => (if t541 = true then (if 0 ≤ a2 then (if a2 < (l0.length : Int) then ((impl_within.f a3 0 (wrap64 (((rd_L8 l0 a2).length : Int) - 1))).bind fun t543 => (if t543 = true then ((impl_trackLength.f k bt537.1 a2 a3).bind fun t544 => (some (t544, true))) else (some (0, false)))) else (none)) else (none)) else (some (0, false)))) else (some (0, false)))) = some (r1, r2) := h
 clear h
 replace H := Option.bind_eq_some_iff.mp H
 obtain ⟨⟨t537, t538⟩, A50, H⟩ := H
 replace H : (if t538 = true then ((impl_within.f a2 0 (wrap64 ((l0.length : Int) - 1))).bind fun t541 => (if t541 = true then (if 0 ≤ a2 then (if a2 < (l0.length : Int) then ((impl_within.f a3 0 (wrap64 (((rd_L8 l0 a2).length : Int) - 1))).bind fun t543 => (if t543 = true then ((impl_trackLength.f k t537 a2 a3).bind fun t544 => (some (t544, true))) else (some (0, false)))) else (none)) else (none)) else (some (0, false)))) else (some (0, false))) = some (r1, r2) := H
 have A5 := Aside0.mk A50
 clear A50
 by_cases c6 : t538 = true
 case neg =>
  replace c6 := Bool.eq_false_iff.mpr c6
  subst c6
  have H1 : (some (0, false)) = some (r1, r2) := by rw [if_neg (show ¬ (false = true) by decide)] at H; exact H
  clear H
  have H := H1
  clear H1
  simp only [Option.some.injEq, Prod.mk.injEq] at H
  obtain ⟨rfl, rfl⟩ := H
  go_enter Try.func16, Try.ntmps16
  go_wp2_with (first | ((with_reducible refine gate_callee (f := 38) rfl ?_); refine goesL_ (some 15) rfl rfl Try.func38 (by kernel_rfl) rfl #[.slice A0 l0.length c0, .int .i64 a1] rfl zq1 ?_; (with_reducible refine (impl_trackingsOf.calls k _ _ l0 a1 t537 false _ ?side1 ?side2 A5.out).mono ?_); (case side1 => exact zqC HR0.out); (case side2 => exact HC0.out); rintro e w18 ⟨v539, rfl, ho0, hb⟩; refine ⟨_, rfl, ?_⟩; have HO540 := Aside0.mk (Kd.R_lower ho0 (below_size zq0)); replace HB := Aside0.mk (below_step zq0 hb); (try clear hb); (try clear hb2); (try clear hk); (try clear hi); (try clear ho0)))
  go_ret2
  exact ⟨zqE, zq0⟩
 subst c6
 have H1 : ((impl_within.f a2 0 (wrap64 ((l0.length : Int) - 1))).bind fun t541 => (if t541 = true then (if 0 ≤ a2 then (if a2 < (l0.length : Int) then ((impl_within.f a3 0 (wrap64 (((rd_L8 l0 a2).length : Int) - 1))).bind fun t543 => (if t543 = true then ((impl_trackLength.f k t537 a2 a3).bind fun t544 => (some (t544, true))) else (some (0, false)))) else (none)) else (none)) else (some (0, false)))) = some (r1, r2) := by rw [if_pos rfl] at H; exact H
 clear H
 have H := H1
 clear H1
 replace H := Option.bind_eq_some_iff.mp H
 obtain ⟨t541, A70, H⟩ := H
 replace H : (if t541 = true then (if 0 ≤ a2 then (if a2 < (l0.length : Int) then ((impl_within.f a3 0 (wrap64 (((rd_L8 l0 a2).length : Int) - 1))).bind fun t543 => (if t543 = true then ((impl_trackLength.f k t537 a2 a3).bind fun t544 => (some (t544, true))) else (some (0, false)))) else (none)) else (none)) else (some (0, false))) = some (r1, r2) := H
 have A7 := Aside0.mk A70
 clear A70
 by_cases c8 : t541 = true
 case neg =>
  replace c8 := Bool.eq_false_iff.mpr c8
  subst c8
  have H1 : (some (0, false)) = some (r1, r2) := by rw [if_neg (show ¬ (false = true) by decide)] at H; exact H
  clear H
  have H := H1
  clear H1
  simp only [Option.some.injEq, Prod.mk.injEq] at H
  obtain ⟨rfl, rfl⟩ := H
  go_enter Try.func16, Try.ntmps16
  go_wp2_with (first | ((with_reducible refine gate_callee (f := 38) rfl ?_); refine goesL_ (some 15) rfl rfl Try.func38 (by kernel_rfl) rfl #[.slice A0 l0.length c0, .int .i64 a1] rfl zq1 ?_; (with_reducible refine (impl_trackingsOf.calls k _ _ l0 a1 t537 true _ ?side1 ?side2 A5.out).mono ?_); (case side1 => exact zqC HR0.out); (case side2 => exact HC0.out); rintro e w17 ⟨v539, rfl, ho0, hb⟩; refine ⟨_, rfl, ?_⟩; have HO540 := Aside0.mk (Kd.R_lower ho0 (below_size zq0)); replace HB := Aside0.mk (below_step zq0 hb); (try clear hb); (try clear hb2); (try clear hk); (try clear hi); (try clear ho0)) | (go_at_call 39; (with_reducible refine (impl_within.calls a2 0 (wrap64 ((l0.length : Int) - 1)) false _ A7.out).mono ?_); rintro e w' ⟨rfl, ⟨nd, rfl⟩⟩))
  go_ret2
  exact ⟨zqE, zq0⟩
 subst c8
 have H1 : (if 0 ≤ a2 then (if a2 < (l0.length : Int) then ((impl_within.f a3 0 (wrap64 (((rd_L8 l0 a2).length : Int) - 1))).bind fun t543 => (if t543 = true then ((impl_trackLength.f k t537 a2 a3).bind fun t544 => (some (t544, true))) else (some (0, false)))) else (none)) else (none)) = some (r1, r2) := by rw [if_pos rfl] at H; exact H
 clear H
 have H := H1
 clear H1
 by_cases c9 : 0 ≤ a2
 case neg =>
  rw [if_neg c9] at H
  exact absurd H (by simp)
 rw [if_pos c9] at H
 have c9b0 : decide (0 ≤ a2) = true := decide_eq_true c9
 clear c9
 by_cases c10 : a2 < (l0.length : Int)
 case neg =>
  rw [if_neg c10] at H
  exact absurd H (by simp)
 rw [if_pos c10] at H
 have c10b0 : decide (a2 < (l0.length : Int)) = true := decide_eq_true c10
 clear c10
 replace H := Option.bind_eq_some_iff.mp H
 obtain ⟨t543, A110, H⟩ := H
 replace H : (if t543 = true then ((impl_trackLength.f k t537 a2 a3).bind fun t544 => (some (t544, true))) else (some (0, false))) = some (r1, r2) := H
 have A11 := Aside0.mk A110
 clear A110
 by_cases c12 : t543 = true
 case neg =>
  replace c12 := Bool.eq_false_iff.mpr c12
  subst c12
  have H1 : (some (0, false)) = some (r1, r2) := by rw [if_neg (show ¬ (false = true) by decide)] at H; exact H
  clear H
  have H := H1
  clear H1
  simp only [Option.some.injEq, Prod.mk.injEq] at H
  obtain ⟨rfl, rfl⟩ := H
  go_enter Try.func16, Try.ntmps16
  go_wp2_with (first | ((with_reducible refine gate_callee (f := 38) rfl ?_); refine goesL_ (some 15) rfl rfl Try.func38 (by kernel_rfl) rfl #[.slice A0 l0.length c0, .int .i64 a1] rfl zq1 ?_; (with_reducible refine (impl_trackingsOf.calls k _ _ l0 a1 t537 true _ ?side1 ?side2 A5.out).mono ?_); (case side1 => exact zqC HR0.out); (case side2 => exact HC0.out); rintro e w16 ⟨v539, rfl, ho0, hb⟩; refine ⟨_, rfl, ?_⟩; have HO540 := Aside0.mk (Kd.R_lower ho0 (below_size zq0)); replace HB := Aside0.mk (below_step zq0 hb); (try clear hb); (try clear hb2); (try clear hk); (try clear hi); (try clear ho0)) | (go_at_call 39; (with_reducible refine (impl_within.calls a2 0 (wrap64 ((l0.length : Int) - 1)) true _ A7.out).mono ?_); rintro e w' ⟨rfl, ⟨nd, rfl⟩⟩; have p542 : 0 ≤ (a2 : Int) := of_decide_eq_true zq2; have q542 : a2 < (l0.length : Int) := of_decide_eq_true zq2; obtain ⟨ad542, A542_0, c542_0, e542, hx542_0, hl542_0, hi542_0⟩ := at_L8 HR0.out a2 p542 q542; cases e542; replace hx542_0 := bx HB.out hx542_0; have HR542_0 := Aside0.mk hi542_0; have HC542_0 := Aside0.mk hl542_0; clear hi542_0 hl542_0; replace p542 := eq_true p542; replace q542 := eq_true q542) | (go_at_call 39; (with_reducible refine (impl_within.calls a3 0 (wrap64 (((rd_L8 l0 a2).length : Int) - 1)) false _ A11.out).mono ?_); rintro e w' ⟨rfl, ⟨nd, rfl⟩⟩))
  go_ret2
  exact ⟨zqE, zq0⟩
 subst c12
 have H1 : ((impl_trackLength.f k t537 a2 a3).bind fun t544 => (some (t544, true))) = some (r1, r2) := by rw [if_pos rfl] at H; exact H
 clear H
 have H := H1
 clear H1
 replace H := Option.bind_eq_some_iff.mp H
 obtain ⟨t544, A130, H⟩ := H
 replace H : (some (t544, true)) = some (r1, r2) := H
 have A13 := Aside0.mk A130
 clear A130
 simp only [Option.some.injEq, Prod.mk.injEq] at H
 obtain ⟨rfl, rfl⟩ := H
 go_enter Try.func16, Try.ntmps16
 go_wp2_with (first | ((with_reducible refine gate_callee (f := 38) rfl ?_); refine goesL_ (some 15) rfl rfl Try.func38 (by kernel_rfl) rfl #[.slice A0 l0.length c0, .int .i64 a1] rfl zq1 ?_; (with_reducible refine (impl_trackingsOf.calls k _ _ l0 a1 t537 true _ ?side1 ?side2 A5.out).mono ?_); (case side1 => exact zqC HR0.out); (case side2 => exact HC0.out); rintro e w14 ⟨v539, rfl, ho0, hb⟩; refine ⟨_, rfl, ?_⟩; have HO540 := Aside0.mk (Kd.R_lower ho0 (below_size zq0)); replace HB := Aside0.mk (below_step zq0 hb); (try clear hb); (try clear hb2); (try clear hk); (try clear hi); (try clear ho0)) | (go_at_call 39; (with_reducible refine (impl_within.calls a2 0 (wrap64 ((l0.length : Int) - 1)) true _ A7.out).mono ?_); rintro e w' ⟨rfl, ⟨nd, rfl⟩⟩; have p542 : 0 ≤ (a2 : Int) := of_decide_eq_true zq2; have q542 : a2 < (l0.length : Int) := of_decide_eq_true zq2; obtain ⟨ad542, A542_0, c542_0, e542, hx542_0, hl542_0, hi542_0⟩ := at_L8 HR0.out a2 p542 q542; cases e542; replace hx542_0 := bx HB.out hx542_0; have HR542_0 := Aside0.mk hi542_0; have HC542_0 := Aside0.mk hl542_0; clear hi542_0 hl542_0; replace p542 := eq_true p542; replace q542 := eq_true q542) | (go_at_call 39; (with_reducible refine (impl_within.calls a3 0 (wrap64 (((rd_L8 l0 a2).length : Int) - 1)) true _ A11.out).mono ?_); rintro e w' ⟨rfl, ⟨nd, rfl⟩⟩; obtain ⟨Ao15, co15, eo15⟩ := Kd.R_slice HO540.out; subst eo15) | ((with_reducible refine gate_callee (f := 40) rfl ?_); refine goesL_ (some 42) rfl rfl Try.func40 (by kernel_rfl) rfl #[.slice Ao15 t537.length co15, .int .i64 a2, .int .i64 a3] rfl zq1 ?_; (with_reducible refine (impl_trackLength.calls k _ _ t537 a2 a3 t544 _ ?side1 ?side2 A13.out).mono ?_); (case side1 => exact zqC (Kd.R_reads' HO540.out).2.2); (case side2 => exact (Kd.R_reads' HO540.out).2.1); rintro e w' ⟨rfl, ⟨nd, rfl⟩⟩; refine ⟨_, rfl, ?_⟩))
 go_ret2
 exact ⟨zqE, zq0⟩
def spec_l12Good.f (a0_0 : Int) (a0_1 : Int) (a0_2 : Int) (a0_3 : Int) : Option (Bool) := (spec_l1In.f a0_0 0 7).bind fun t546 => (if t546 = true then ((spec_l1In.f a0_1 0 7).bind fun t547 => (if t547 = true then ((spec_l1In.f a0_2 1 64).bind fun t548 => (if t548 = true then ((spec_l1In.f a0_3 (-9000) 9000).bind fun t549 => (some t549)) else (some false))) else (some false))) else (some false))
set_option maxHeartbeats 8000000 in
set_option maxRecDepth 100000 in
theorem spec_l12Good.calls (a0_0 : Int) (a0_1 : Int) (a0_2 : Int) (a0_3 : Int) (r : Bool) (w : World) (h : spec_l12Good.f a0_0 a0_1 a0_2 a0_3 = some r) :
  Calls Try.prog 87 #[.agg #[.int .i64 a0_0, .int .i64 a0_1, .int .i64 a0_2, .int .i64 a0_3]] w fun e w' => e = .returned (.bool r) ∧ Below w.heap.size w w' := by
 have hu49 := Try.underlying49
 have HB := Aside0.mk (Below.refl w.heap.size w)
 have H : ((spec_l1In.f a0_0 0 7).bind fun t546 => (if t546 = true then ((spec_l1In.f a0_1 0 7).bind fun t547 => (if t547 = true then ((spec_l1In.f a0_2 1 64).bind fun t548 => (if t548 = true then ((spec_l1In.f a0_3 (-9000) 9000).bind fun t549 => (some t549)) else (some false))) else (some false))) else (some false))) = some r := h
 clear h
 replace H := Option.bind_eq_some_iff.mp H
 obtain ⟨t546, A20, H⟩ := H
 replace H : (if t546 = true then ((spec_l1In.f a0_1 0 7).bind fun t547 => (if t547 = true then ((spec_l1In.f a0_2 1 64).bind fun t548 => (if t548 = true then ((spec_l1In.f a0_3 (-9000) 9000).bind fun t549 => (some t549)) else (some false))) else (some false))) else (some false)) = some r := H
 have A2 := Aside0.mk A20
 clear A20
 by_cases c3 : t546 = true
 case neg =>
  replace c3 := Bool.eq_false_iff.mpr c3
  subst c3
  have H1 : (some false) = some r := by rw [if_neg (show ¬ (false = true) by decide)] at H; exact H
  clear H
  have H := H1
  clear H1
  obtain rfl := Option.some.inj H
  go_enter Try.func87, Try.ntmps87
  go_wp2_with (first | ((with_reducible refine gate_dst (N := 1) rfl ?_); refine box_event ?hg (N := 1) ?hd (cs := #[.int .i64 a0_0, .int .i64 a0_1, .int .i64 a0_2, .int .i64 a0_3]) (t := 49) ?hr ?_; (case hd => rfl); (case hg => rfl); (case hr => exact zqS); intro gb545 hg w15 hbox hb; have BK545 := Aside0.mk (hbox); have GW545 := Aside0.mk ((by rw [hg]; exact (below_size zq0) : w.heap.size ≤ gb545)); replace HB := Aside0.mk (below_step zq0 hb); have GE545 := GW545; clear hb hbox hg; have hcz16_0 := bz BK545.out 0 (.int .i64 a0_0); have hcz16_1 := bz BK545.out 1 (.int .i64 a0_1); have hcz16_2 := bz BK545.out 2 (.int .i64 a0_2); have hcz16_3 := bz BK545.out 3 (.int .i64 a0_3); have hfz16_0 := blk_frozen BK545.out 0; have hfz16_1 := blk_frozen BK545.out 1; have hfz16_2 := blk_frozen BK545.out 2; have hfz16_3 := blk_frozen BK545.out 3) | ((with_reducible refine gate_callee (f := 42) rfl ?_); refine goesL_ (some 5) rfl rfl Try.func42 (by kernel_rfl) rfl #[.int .i64 a0_0, .int .i64 0, .int .i64 7] rfl zq1 ?_; (with_reducible refine (spec_l1In.calls a0_0 0 7 false _ A2.out).mono ?_); rintro e w' ⟨rfl, ⟨nd, rfl⟩⟩; refine ⟨_, rfl, ?_⟩))
  go_ret
  exact ⟨zqE, zq41⟩
 subst c3
 have H1 : ((spec_l1In.f a0_1 0 7).bind fun t547 => (if t547 = true then ((spec_l1In.f a0_2 1 64).bind fun t548 => (if t548 = true then ((spec_l1In.f a0_3 (-9000) 9000).bind fun t549 => (some t549)) else (some false))) else (some false))) = some r := by rw [if_pos rfl] at H; exact H
 clear H
 have H := H1
 clear H1
 replace H := Option.bind_eq_some_iff.mp H
 obtain ⟨t547, A40, H⟩ := H
 replace H : (if t547 = true then ((spec_l1In.f a0_2 1 64).bind fun t548 => (if t548 = true then ((spec_l1In.f a0_3 (-9000) 9000).bind fun t549 => (some t549)) else (some false))) else (some false)) = some r := H
 have A4 := Aside0.mk A40
 clear A40
 by_cases c5 : t547 = true
 case neg =>
  replace c5 := Bool.eq_false_iff.mpr c5
  subst c5
  have H1 : (some false) = some r := by rw [if_neg (show ¬ (false = true) by decide)] at H; exact H
  clear H
  have H := H1
  clear H1
  obtain rfl := Option.some.inj H
  go_enter Try.func87, Try.ntmps87
  go_wp2_with (first | ((with_reducible refine gate_dst (N := 1) rfl ?_); refine box_event ?hg (N := 1) ?hd (cs := #[.int .i64 a0_0, .int .i64 a0_1, .int .i64 a0_2, .int .i64 a0_3]) (t := 49) ?hr ?_; (case hd => rfl); (case hg => rfl); (case hr => exact zqS); intro gb545 hg w13 hbox hb; have BK545 := Aside0.mk (hbox); have GW545 := Aside0.mk ((by rw [hg]; exact (below_size zq0) : w.heap.size ≤ gb545)); replace HB := Aside0.mk (below_step zq0 hb); have GE545 := GW545; clear hb hbox hg; have hcz14_0 := bz BK545.out 0 (.int .i64 a0_0); have hcz14_1 := bz BK545.out 1 (.int .i64 a0_1); have hcz14_2 := bz BK545.out 2 (.int .i64 a0_2); have hcz14_3 := bz BK545.out 3 (.int .i64 a0_3); have hfz14_0 := blk_frozen BK545.out 0; have hfz14_1 := blk_frozen BK545.out 1; have hfz14_2 := blk_frozen BK545.out 2; have hfz14_3 := blk_frozen BK545.out 3) | ((with_reducible refine gate_callee (f := 42) rfl ?_); refine goesL_ (some 5) rfl rfl Try.func42 (by kernel_rfl) rfl #[.int .i64 a0_0, .int .i64 0, .int .i64 7] rfl zq1 ?_; (with_reducible refine (spec_l1In.calls a0_0 0 7 true _ A2.out).mono ?_); rintro e w' ⟨rfl, ⟨nd, rfl⟩⟩; refine ⟨_, rfl, ?_⟩) | (go_at_call 42; (with_reducible refine (spec_l1In.calls a0_1 0 7 false _ A4.out).mono ?_); rintro e w' ⟨rfl, ⟨nd, rfl⟩⟩))
  go_ret
  exact ⟨zqE, zq41⟩
 subst c5
 have H1 : ((spec_l1In.f a0_2 1 64).bind fun t548 => (if t548 = true then ((spec_l1In.f a0_3 (-9000) 9000).bind fun t549 => (some t549)) else (some false))) = some r := by rw [if_pos rfl] at H; exact H
 clear H
 have H := H1
 clear H1
 replace H := Option.bind_eq_some_iff.mp H
 obtain ⟨t548, A60, H⟩ := H
 replace H : (if t548 = true then ((spec_l1In.f a0_3 (-9000) 9000).bind fun t549 => (some t549)) else (some false)) = some r := H
 have A6 := Aside0.mk A60
 clear A60
 by_cases c7 : t548 = true
 case neg =>
  replace c7 := Bool.eq_false_iff.mpr c7
  subst c7
  have H1 : (some false) = some r := by rw [if_neg (show ¬ (false = true) by decide)] at H; exact H
  clear H
  have H := H1
  clear H1
  obtain rfl := Option.some.inj H
  go_enter Try.func87, Try.ntmps87
  go_wp2_with (first | ((with_reducible refine gate_dst (N := 1) rfl ?_); refine box_event ?hg (N := 1) ?hd (cs := #[.int .i64 a0_0, .int .i64 a0_1, .int .i64 a0_2, .int .i64 a0_3]) (t := 49) ?hr ?_; (case hd => rfl); (case hg => rfl); (case hr => exact zqS); intro gb545 hg w11 hbox hb; have BK545 := Aside0.mk (hbox); have GW545 := Aside0.mk ((by rw [hg]; exact (below_size zq0) : w.heap.size ≤ gb545)); replace HB := Aside0.mk (below_step zq0 hb); have GE545 := GW545; clear hb hbox hg; have hcz12_0 := bz BK545.out 0 (.int .i64 a0_0); have hcz12_1 := bz BK545.out 1 (.int .i64 a0_1); have hcz12_2 := bz BK545.out 2 (.int .i64 a0_2); have hcz12_3 := bz BK545.out 3 (.int .i64 a0_3); have hfz12_0 := blk_frozen BK545.out 0; have hfz12_1 := blk_frozen BK545.out 1; have hfz12_2 := blk_frozen BK545.out 2; have hfz12_3 := blk_frozen BK545.out 3) | ((with_reducible refine gate_callee (f := 42) rfl ?_); refine goesL_ (some 5) rfl rfl Try.func42 (by kernel_rfl) rfl #[.int .i64 a0_0, .int .i64 0, .int .i64 7] rfl zq1 ?_; (with_reducible refine (spec_l1In.calls a0_0 0 7 true _ A2.out).mono ?_); rintro e w' ⟨rfl, ⟨nd, rfl⟩⟩; refine ⟨_, rfl, ?_⟩) | (go_at_call 42; (with_reducible refine (spec_l1In.calls a0_1 0 7 true _ A4.out).mono ?_); rintro e w' ⟨rfl, ⟨nd, rfl⟩⟩) | (go_at_call 42; (with_reducible refine (spec_l1In.calls a0_2 1 64 false _ A6.out).mono ?_); rintro e w' ⟨rfl, ⟨nd, rfl⟩⟩))
  go_ret
  exact ⟨zqE, zq41⟩
 subst c7
 have H1 : ((spec_l1In.f a0_3 (-9000) 9000).bind fun t549 => (some t549)) = some r := by rw [if_pos rfl] at H; exact H
 clear H
 have H := H1
 clear H1
 replace H := Option.bind_eq_some_iff.mp H
 obtain ⟨t549, A80, H⟩ := H
 replace H : (some t549) = some r := H
 have A8 := Aside0.mk A80
 clear A80
 obtain rfl := Option.some.inj H
 go_enter Try.func87, Try.ntmps87
 go_wp2_with (first | ((with_reducible refine gate_dst (N := 1) rfl ?_); refine box_event ?hg (N := 1) ?hd (cs := #[.int .i64 a0_0, .int .i64 a0_1, .int .i64 a0_2, .int .i64 a0_3]) (t := 49) ?hr ?_; (case hd => rfl); (case hg => rfl); (case hr => exact zqS); intro gb545 hg w9 hbox hb; have BK545 := Aside0.mk (hbox); have GW545 := Aside0.mk ((by rw [hg]; exact (below_size zq0) : w.heap.size ≤ gb545)); replace HB := Aside0.mk (below_step zq0 hb); have GE545 := GW545; clear hb hbox hg; have hcz10_0 := bz BK545.out 0 (.int .i64 a0_0); have hcz10_1 := bz BK545.out 1 (.int .i64 a0_1); have hcz10_2 := bz BK545.out 2 (.int .i64 a0_2); have hcz10_3 := bz BK545.out 3 (.int .i64 a0_3); have hfz10_0 := blk_frozen BK545.out 0; have hfz10_1 := blk_frozen BK545.out 1; have hfz10_2 := blk_frozen BK545.out 2; have hfz10_3 := blk_frozen BK545.out 3) | ((with_reducible refine gate_callee (f := 42) rfl ?_); refine goesL_ (some 5) rfl rfl Try.func42 (by kernel_rfl) rfl #[.int .i64 a0_0, .int .i64 0, .int .i64 7] rfl zq1 ?_; (with_reducible refine (spec_l1In.calls a0_0 0 7 true _ A2.out).mono ?_); rintro e w' ⟨rfl, ⟨nd, rfl⟩⟩; refine ⟨_, rfl, ?_⟩) | (go_at_call 42; (with_reducible refine (spec_l1In.calls a0_1 0 7 true _ A4.out).mono ?_); rintro e w' ⟨rfl, ⟨nd, rfl⟩⟩) | (go_at_call 42; (with_reducible refine (spec_l1In.calls a0_2 1 64 true _ A6.out).mono ?_); rintro e w' ⟨rfl, ⟨nd, rfl⟩⟩) | (go_at_call 42; (with_reducible refine (spec_l1In.calls a0_3 (-9000) 9000 t549 _ A8.out).mono ?_); rintro e w' ⟨rfl, ⟨nd, rfl⟩⟩))
 go_ret
 exact ⟨zqE, zq41⟩
mutual
def spec_l12List.l0 : Nat → List (S49) → Int → Option (Bool)
 | 0, _, _ => none
 | k + 1, x0, x3 => if x3 < (x0.length : Int) then (spec_l12List.j1 k x0 x3 (decide (x3 ≤ 5))) else (spec_l12List.j1 k x0 x3 false)
def spec_l12List.j1 : Nat → List (S49) → Int → Bool → Option (Bool)
 | 0, _, _, _ => none
 | k + 1, x0, x3, x11 => if x11 = true then (if 0 ≤ x3 then (if x3 < (x0.length : Int) then ((spec_l12Good.f ((rd_T49 x0 x3).f0) ((rd_T49 x0 x3).f1) ((rd_T49 x0 x3).f2) ((rd_T49 x0 x3).f3)).bind fun t551 => (if t551 = true then (spec_l12List.l0 k x0 (wrap64 (x3 + 1))) else (some false))) else (none)) else (none)) else (some (decide ((x0.length : Int) ≤ 5)))
end
def spec_l12List.f (k : Nat) (l0 : List (S49)) : Option (Bool) := spec_l12List.l0 k l0 0
set_option maxHeartbeats 8000000 in
set_option maxRecDepth 100000 in
theorem spec_l12List.calls (k : Nat) (A0 : Option Addr) (c0 : Nat) (l0 : List (S49)) (r : Bool) (w : World) (hr0 : Kd.C k49 w A0 l0.length l0) (hc0 : l0.length ≤ c0) (h : spec_l12List.f k l0 = some r) :
  Calls Try.prog 72 #[.slice A0 l0.length c0] w fun e w' => e = .returned (.bool r) ∧ Below w.heap.size w w' := by
 have hu49 := Try.underlying49
 have HR0 := Aside0.mk hr0
 have HC0 := Aside0.mk hc0
 clear hr0 hc0
 have HB := Aside0.mk (Below.refl w.heap.size w)
 have H : (spec_l12List.l0 k l0 0) = some r := h
 clear h
 have H' := Aside0.mk H
 clear H
 go_enter Try.func72, Try.ntmps72
 go_wp2
 go_loopg [3] k (fun kq v3 w' => ∃ (x3_1 : Int), v3 = .int .i64 x3_1 ∧ Aside0 (spec_l12List.l0 kq l0 x3_1 = some r) ∧ Aside0 (kq ≤ k) ∧ Aside0 (Below w.heap.size w w'))
 case atStart => exact ⟨(0), (by first | rfl | (simp; done) | (simp [*]; done)), H', ⟨Nat.le_refl _⟩, ⟨zq0⟩⟩
 clear H'
 obtain ⟨x3_1, rfl, HA, HK1, HB⟩ := hrel
 cases gk with
 | zero => exact absurd HA.out (by simp [spec_l12List.l0])
 | succ k1 =>
  have H := HA.out
  clear HA
  simp only [spec_l12List.l0] at H
  have HC2 := Aside0.mk H
  clear H
  go_upto_region 2 with (fail)
  go_cut [11] (fun v11 wc => ∃ (kq : Nat) (x11_1 : Bool), v11 = .bool x11_1 ∧ Aside0 (spec_l12List.j1 kq l0 x3_1 x11_1 = some r) ∧ Aside0 (kq ≤ k1) ∧ Aside0 (Below w.heap.size w wc))
  case first =>
   have H := HC2.out
   clear HC2
   by_cases c3 : x3_1 < (l0.length : Int)
   case neg =>
    rw [if_neg c3] at H
    have c3b0 : decide (x3_1 < (l0.length : Int)) = false := decide_eq_false c3
    clear c3
    (first | rw [c3b0] | (simp only [i64_w, i32_w]; rw [c3b0]) | skip)
    have H' := Aside0.mk H
    clear H
    go_wp2
    go_meet
    case rel => exact ⟨_, (false), (by first | rfl | (simp; done) | (simp [*]; done)), H', ⟨by have := HK1.out; first | omega | exact Nat.le_refl _⟩, ⟨zq0⟩⟩
   rw [if_pos c3] at H
   have c3b0 : decide (x3_1 < (l0.length : Int)) = true := decide_eq_true c3
   clear c3
   (first | rw [c3b0] | (simp only [i64_w, i32_w]; rw [c3b0]) | skip)
   have H' := Aside0.mk H
   clear H
   go_wp2
   go_meet
   case rel => exact ⟨_, (decide (x3_1 ≤ 5)), (by first | rfl | (simp; done) | (simp [*]; done)), H', ⟨by have := HK1.out; first | omega | exact Nat.le_refl _⟩, ⟨zq0⟩⟩
  clear HC2
  try clear p2
  try clear c3
  try clear c3b0
  obtain ⟨kq, x11_1, rfl, HA, HJ1, HB⟩ := hcut
  cases kq with
  | zero => exact absurd HA.out (by simp [spec_l12List.j1])
  | succ kj1 =>
   have H := HA.out
   clear HA
   simp only [spec_l12List.j1] at H
   by_cases c4 : x11_1 = true
   case neg =>
    replace c4 := Bool.eq_false_iff.mpr c4
    subst c4
    have H1 : (some (decide ((l0.length : Int) ≤ 5))) = some r := by rw [if_neg (show ¬ (false = true) by decide)] at H; exact H
    clear H
    have H := H1
    clear H1
    obtain rfl := Option.some.inj H
    go_wp2
    go_ret
    exact ⟨zqE, zq0⟩
   subst c4
   have H1 : (if 0 ≤ x3_1 then (if x3_1 < (l0.length : Int) then ((spec_l12Good.f ((rd_T49 l0 x3_1).f0) ((rd_T49 l0 x3_1).f1) ((rd_T49 l0 x3_1).f2) ((rd_T49 l0 x3_1).f3)).bind fun t551 => (if t551 = true then (spec_l12List.l0 kj1 l0 (wrap64 (x3_1 + 1))) else (some false))) else (none)) else (none)) = some r := by rw [if_pos rfl] at H; exact H
   clear H
   have H := H1
   clear H1
   by_cases c5 : 0 ≤ x3_1
   case neg =>
    rw [if_neg c5] at H
    exact absurd H (by simp)
   rw [if_pos c5] at H
   have c5b0 : decide (0 ≤ x3_1) = true := decide_eq_true c5
   clear c5
   by_cases c6 : x3_1 < (l0.length : Int)
   case neg =>
    rw [if_neg c6] at H
    exact absurd H (by simp)
   rw [if_pos c6] at H
   have c6b0 : decide (x3_1 < (l0.length : Int)) = true := decide_eq_true c6
   clear c6
   replace H := Option.bind_eq_some_iff.mp H
   obtain ⟨t551, A70, H⟩ := H
   replace H : (if t551 = true then (spec_l12List.l0 kj1 l0 (wrap64 (x3_1 + 1))) else (some false)) = some r := H
   have A7 := Aside0.mk A70
   clear A70
   by_cases c8 : t551 = true
   case neg =>
    replace c8 := Bool.eq_false_iff.mpr c8
    subst c8
    have H1 : (some false) = some r := by rw [if_neg (show ¬ (false = true) by decide)] at H; exact H
    clear H
    have H := H1
    clear H1
    obtain rfl := Option.some.inj H
    have p550 : 0 ≤ (x3_1 : Int) := of_decide_eq_true zq2
    have q550 : x3_1 < (l0.length : Int) := of_decide_eq_true zq2
    obtain ⟨ad550, e550, hx550_0, hx550_1, hx550_2, hx550_3⟩ := at_T49 HR0.out x3_1 p550 q550
    cases e550
    replace hx550_0 := bx HB.out hx550_0
    replace hx550_1 := bx HB.out hx550_1
    replace hx550_2 := bx HB.out hx550_2
    replace hx550_3 := bx HB.out hx550_3
    replace p550 := eq_true p550
    replace q550 := eq_true q550
    go_wp2_with (first | ((with_reducible refine gate_callee (f := 87) rfl ?_); refine goesL_ (some 18) rfl rfl Try.func87 (by kernel_rfl) rfl #[.agg #[.int .i64 ((rd_T49 l0 x3_1).f0), .int .i64 ((rd_T49 l0 x3_1).f1), .int .i64 ((rd_T49 l0 x3_1).f2), .int .i64 ((rd_T49 l0 x3_1).f3)]] rfl zq1 ?_; (with_reducible refine (spec_l12Good.calls ((rd_T49 l0 x3_1).f0) ((rd_T49 l0 x3_1).f1) ((rd_T49 l0 x3_1).f2) ((rd_T49 l0 x3_1).f3) false _ A7.out).mono ?_); rintro e w10 ⟨rfl, hb⟩; refine ⟨_, rfl, ?_⟩; replace HB := Aside0.mk (below_step zq0 hb); (try clear hb); (try clear hb2); (try clear hk); (try clear hi)))
    go_ret
    exact ⟨zqE, zq0⟩
   subst c8
   have H1 : (spec_l12List.l0 kj1 l0 (wrap64 (x3_1 + 1))) = some r := by rw [if_pos rfl] at H; exact H
   clear H
   have H := H1
   clear H1
   have H' := Aside0.mk H
   clear H
   have p550 : 0 ≤ (x3_1 : Int) := of_decide_eq_true zq2
   have q550 : x3_1 < (l0.length : Int) := of_decide_eq_true zq2
   obtain ⟨ad550, e550, hx550_0, hx550_1, hx550_2, hx550_3⟩ := at_T49 HR0.out x3_1 p550 q550
   cases e550
   replace hx550_0 := bx HB.out hx550_0
   replace hx550_1 := bx HB.out hx550_1
   replace hx550_2 := bx HB.out hx550_2
   replace hx550_3 := bx HB.out hx550_3
   replace p550 := eq_true p550
   replace q550 := eq_true q550
   go_wp2_with (first | ((with_reducible refine gate_callee (f := 87) rfl ?_); refine goesL_ (some 18) rfl rfl Try.func87 (by kernel_rfl) rfl #[.agg #[.int .i64 ((rd_T49 l0 x3_1).f0), .int .i64 ((rd_T49 l0 x3_1).f1), .int .i64 ((rd_T49 l0 x3_1).f2), .int .i64 ((rd_T49 l0 x3_1).f3)]] rfl zq1 ?_; (with_reducible refine (spec_l12Good.calls ((rd_T49 l0 x3_1).f0) ((rd_T49 l0 x3_1).f1) ((rd_T49 l0 x3_1).f2) ((rd_T49 l0 x3_1).f3) true _ A7.out).mono ?_); rintro e w9 ⟨rfl, hb⟩; refine ⟨_, rfl, ?_⟩; replace HB := Aside0.mk (below_step zq0 hb); (try clear hb); (try clear hb2); (try clear hk); (try clear hi)))
   go_roundg kj1
   case measure => have := HK1.out; have := HJ1.out; omega
   case rel => exact ⟨(wrap64 (x3_1 + 1)), (by first | rfl | (simp; done) | (simp [*]; done)), H', ⟨by have := HK1.out; have := HJ1.out; omega⟩, ⟨zq0⟩⟩
def spec_l12Penalty.f (a0 : Int) : Option (Bool) := (spec_l1In.f a0 0 20).bind fun t552 => (some t552)
set_option maxHeartbeats 8000000 in
set_option maxRecDepth 100000 in
theorem spec_l12Penalty.calls (a0 : Int) (r : Bool) (w : World) (h : spec_l12Penalty.f a0 = some r) :
  Calls Try.prog 73 #[.int .i64 a0] w fun e w' => e = .returned (.bool r) ∧ Drawn0 w w' := by
 have H : ((spec_l1In.f a0 0 20).bind fun t552 => (some t552)) = some r := h
 clear h
 replace H := Option.bind_eq_some_iff.mp H
 obtain ⟨t552, A20, H⟩ := H
 replace H : (some t552) = some r := H
 have A2 := Aside0.mk A20
 clear A20
 obtain rfl := Option.some.inj H
 go_enter Try.func73, Try.ntmps73
 go_wp2_with (first | ((with_reducible refine gate_callee (f := 42) rfl ?_); refine goesL_ (some 4) rfl rfl Try.func42 (by kernel_rfl) rfl #[.int .i64 a0, .int .i64 0, .int .i64 20] rfl zq1 ?_; (with_reducible refine (spec_l1In.calls a0 0 20 t552 _ A2.out).mono ?_); rintro e w' ⟨rfl, ⟨nd, rfl⟩⟩; refine ⟨_, rfl, ?_⟩))
 go_ret
 exact ⟨by first | rfl | (simp; done) | (simp [*]; done), zq19⟩
mutual
def spec_l12Lists.l0 : Nat → List (List (S49)) → Int → Int → Option (Bool)
 | 0, _, _, _ => none
 | k + 1, x0, x1, x5 => if x5 < (x0.length : Int) then (spec_l12Lists.j1 k x0 x1 x5 (decide (x5 ≤ 6))) else (spec_l12Lists.j1 k x0 x1 x5 false)
def spec_l12Lists.j1 : Nat → List (List (S49)) → Int → Int → Bool → Option (Bool)
 | 0, _, _, _, _ => none
 | k + 1, x0, x1, x5, x13 => if x13 = true then (if 0 ≤ x5 then (if x5 < (x0.length : Int) then ((spec_l12List.f k (rd_L8 x0 x5)).bind fun t554 => (if t554 = true then (spec_l12Lists.l0 k x0 x1 (wrap64 (x5 + 1))) else (some false))) else (none)) else (none)) else (if (x0.length : Int) ≤ 6 then ((spec_l12Penalty.f x1).bind fun t555 => (some t555)) else (some false))
end
def spec_l12Lists.f (k : Nat) (l0 : List (List (S49))) (a1 : Int) : Option (Bool) := spec_l12Lists.l0 k l0 a1 0
set_option maxHeartbeats 8000000 in
set_option maxRecDepth 100000 in
theorem spec_l12Lists.calls (k : Nat) (A0 : Option Addr) (c0 : Nat) (l0 : List (List (S49))) (a1 : Int) (r : Bool) (w : World) (hr0 : Kd.C (Kd.slice 49 k49) w A0 l0.length l0) (hc0 : l0.length ≤ c0) (h : spec_l12Lists.f k l0 a1 = some r) :
  Calls Try.prog 41 #[.slice A0 l0.length c0, .int .i64 a1] w fun e w' => e = .returned (.bool r) ∧ Below w.heap.size w w' := by
 have HR0 := Aside0.mk hr0
 have HC0 := Aside0.mk hc0
 clear hr0 hc0
 have HB := Aside0.mk (Below.refl w.heap.size w)
 have H : (spec_l12Lists.l0 k l0 a1 0) = some r := h
 clear h
 have H' := Aside0.mk H
 clear H
 go_enter Try.func41, Try.ntmps41
 go_wp2
 go_loopg [5] k (fun kq v5 w' => ∃ (x5_1 : Int), v5 = .int .i64 x5_1 ∧ Aside0 (spec_l12Lists.l0 kq l0 a1 x5_1 = some r) ∧ Aside0 (kq ≤ k) ∧ Aside0 (Below w.heap.size w w'))
 case atStart => exact ⟨(0), (by first | rfl | (simp; done) | (simp [*]; done)), H', ⟨Nat.le_refl _⟩, ⟨zq0⟩⟩
 clear H'
 try clear p2
 obtain ⟨x5_1, rfl, HA, HK1, HB⟩ := hrel
 cases gk with
 | zero => exact absurd HA.out (by simp [spec_l12Lists.l0])
 | succ k1 =>
  have H := HA.out
  clear HA
  simp only [spec_l12Lists.l0] at H
  have HC3 := Aside0.mk H
  clear H
  go_upto_region 2 with (fail)
  go_cut [13] (fun v13 wc => ∃ (kq : Nat) (x13_2 : Bool), v13 = .bool x13_2 ∧ Aside0 (spec_l12Lists.j1 kq l0 a1 x5_1 x13_2 = some r) ∧ Aside0 (kq ≤ k1) ∧ Aside0 (Below w.heap.size w wc))
  case first =>
   have H := HC3.out
   clear HC3
   by_cases c4 : x5_1 < (l0.length : Int)
   case neg =>
    rw [if_neg c4] at H
    have c4b0 : decide (x5_1 < (l0.length : Int)) = false := decide_eq_false c4
    clear c4
    (first | rw [c4b0] | (simp only [i64_w, i32_w]; rw [c4b0]) | skip)
    have H' := Aside0.mk H
    clear H
    go_wp2
    go_meet
    case rel => exact ⟨_, (false), (by first | rfl | (simp; done) | (simp [*]; done)), H', ⟨by have := HK1.out; first | omega | exact Nat.le_refl _⟩, ⟨zq0⟩⟩
   rw [if_pos c4] at H
   have c4b0 : decide (x5_1 < (l0.length : Int)) = true := decide_eq_true c4
   clear c4
   (first | rw [c4b0] | (simp only [i64_w, i32_w]; rw [c4b0]) | skip)
   have H' := Aside0.mk H
   clear H
   go_wp2
   go_meet
   case rel => exact ⟨_, (decide (x5_1 ≤ 6)), (by first | rfl | (simp; done) | (simp [*]; done)), H', ⟨by have := HK1.out; first | omega | exact Nat.le_refl _⟩, ⟨zq0⟩⟩
  clear HC3
  try clear p2
  try clear c4
  try clear c4b0
  try clear p2
  obtain ⟨kq, x13_2, rfl, HA, HJ2, HB⟩ := hcut
  cases kq with
  | zero => exact absurd HA.out (by simp [spec_l12Lists.j1])
  | succ kj2 =>
   have H := HA.out
   clear HA
   simp only [spec_l12Lists.j1] at H
   by_cases c5 : x13_2 = true
   case neg =>
    replace c5 := Bool.eq_false_iff.mpr c5
    subst c5
    have H1 : (if (l0.length : Int) ≤ 6 then ((spec_l12Penalty.f a1).bind fun t555 => (some t555)) else (some false)) = some r := by rw [if_neg (show ¬ (false = true) by decide)] at H; exact H
    clear H
    have H := H1
    clear H1
    by_cases c12 : (l0.length : Int) ≤ 6
    case neg =>
     rw [if_neg c12] at H
     have c12b0 : decide ((l0.length : Int) ≤ 6) = false := decide_eq_false c12
     have c12b1 : decide (l0.length ≤ 6) = false := decide_eq_false (by omega)
     clear c12
     obtain rfl := Option.some.inj H
     go_wp2
     go_ret
     exact ⟨zqE, zq0⟩
    rw [if_pos c12] at H
    have c12b0 : decide ((l0.length : Int) ≤ 6) = true := decide_eq_true c12
    have c12b1 : decide (l0.length ≤ 6) = true := decide_eq_true (by omega)
    clear c12
    replace H := Option.bind_eq_some_iff.mp H
    obtain ⟨t555, A130, H⟩ := H
    replace H : (some t555) = some r := H
    have A13 := Aside0.mk A130
    clear A130
    obtain rfl := Option.some.inj H
    go_wp2_with (first | (go_at_call 73; (with_reducible refine (spec_l12Penalty.calls a1 t555 _ A13.out).mono ?_); rintro e w' ⟨rfl, ⟨nd, rfl⟩⟩))
    go_ret
    exact ⟨zqE, zq0⟩
   subst c5
   have H1 : (if 0 ≤ x5_1 then (if x5_1 < (l0.length : Int) then ((spec_l12List.f kj2 (rd_L8 l0 x5_1)).bind fun t554 => (if t554 = true then (spec_l12Lists.l0 kj2 l0 a1 (wrap64 (x5_1 + 1))) else (some false))) else (none)) else (none)) = some r := by rw [if_pos rfl] at H; exact H
   clear H
   have H := H1
   clear H1
   by_cases c6 : 0 ≤ x5_1
   case neg =>
    rw [if_neg c6] at H
    exact absurd H (by simp)
   rw [if_pos c6] at H
   have c6b0 : decide (0 ≤ x5_1) = true := decide_eq_true c6
   clear c6
   by_cases c7 : x5_1 < (l0.length : Int)
   case neg =>
    rw [if_neg c7] at H
    exact absurd H (by simp)
   rw [if_pos c7] at H
   have c7b0 : decide (x5_1 < (l0.length : Int)) = true := decide_eq_true c7
   clear c7
   replace H := Option.bind_eq_some_iff.mp H
   obtain ⟨t554, A80, H⟩ := H
   replace H : (if t554 = true then (spec_l12Lists.l0 kj2 l0 a1 (wrap64 (x5_1 + 1))) else (some false)) = some r := H
   have A8 := Aside0.mk A80
   clear A80
   by_cases c9 : t554 = true
   case neg =>
    replace c9 := Bool.eq_false_iff.mpr c9
    subst c9
    have H1 : (some false) = some r := by rw [if_neg (show ¬ (false = true) by decide)] at H; exact H
    clear H
    have H := H1
    clear H1
    obtain rfl := Option.some.inj H
    have p553 : 0 ≤ (x5_1 : Int) := of_decide_eq_true zq2
    have q553 : x5_1 < (l0.length : Int) := of_decide_eq_true zq2
    obtain ⟨ad553, A553_0, c553_0, e553, hx553_0, hl553_0, hi553_0⟩ := at_L8 HR0.out x5_1 p553 q553
    cases e553
    replace hx553_0 := bx HB.out hx553_0
    have HR553_0 := Aside0.mk hi553_0
    have HC553_0 := Aside0.mk hl553_0
    clear hi553_0 hl553_0
    replace p553 := eq_true p553
    replace q553 := eq_true q553
    go_wp2_with (first | ((with_reducible refine gate_callee (f := 72) rfl ?_); refine goesL_ (some 20) rfl rfl Try.func72 (by kernel_rfl) rfl #[.slice A553_0 (rd_L8 l0 x5_1).length c553_0] rfl zq1 ?_; (with_reducible refine (spec_l12List.calls kj2 _ _ (rd_L8 l0 x5_1) false _ ?side1 ?side2 A8.out).mono ?_); (case side1 => exact zqC (Kd.C_below HR553_0.out HB.out)); (case side2 => exact HC553_0.out); rintro e w11 ⟨rfl, hb⟩; refine ⟨_, rfl, ?_⟩; replace HB := Aside0.mk (below_step zq0 hb); (try clear hb); (try clear hb2); (try clear hk); (try clear hi)))
    go_ret
    exact ⟨zqE, zq0⟩
   subst c9
   have H1 : (spec_l12Lists.l0 kj2 l0 a1 (wrap64 (x5_1 + 1))) = some r := by rw [if_pos rfl] at H; exact H
   clear H
   have H := H1
   clear H1
   have H' := Aside0.mk H
   clear H
   have p553 : 0 ≤ (x5_1 : Int) := of_decide_eq_true zq2
   have q553 : x5_1 < (l0.length : Int) := of_decide_eq_true zq2
   obtain ⟨ad553, A553_0, c553_0, e553, hx553_0, hl553_0, hi553_0⟩ := at_L8 HR0.out x5_1 p553 q553
   cases e553
   replace hx553_0 := bx HB.out hx553_0
   have HR553_0 := Aside0.mk hi553_0
   have HC553_0 := Aside0.mk hl553_0
   clear hi553_0 hl553_0
   replace p553 := eq_true p553
   replace q553 := eq_true q553
   go_wp2_with (first | ((with_reducible refine gate_callee (f := 72) rfl ?_); refine goesL_ (some 20) rfl rfl Try.func72 (by kernel_rfl) rfl #[.slice A553_0 (rd_L8 l0 x5_1).length c553_0] rfl zq1 ?_; (with_reducible refine (spec_l12List.calls kj2 _ _ (rd_L8 l0 x5_1) true _ ?side1 ?side2 A8.out).mono ?_); (case side1 => exact zqC (Kd.C_below HR553_0.out HB.out)); (case side2 => exact HC553_0.out); rintro e w10 ⟨rfl, hb⟩; refine ⟨_, rfl, ?_⟩; replace HB := Aside0.mk (below_step zq0 hb); (try clear hb); (try clear hb2); (try clear hk); (try clear hi)))
   go_roundg kj2
   case measure => have := HK1.out; have := HJ2.out; omega
   case rel => exact ⟨(wrap64 (x5_1 + 1)), (by first | rfl | (simp; done) | (simp [*]; done)), H', ⟨by have := HK1.out; have := HJ2.out; omega⟩, ⟨zq0⟩⟩
def spec_l1Most.f (a0 a1 : Int) : Option Int := if a0 > a1 then (some a0) else (some a1)
theorem spec_l1Most.calls (a0 a1 : Int) (r : Int) (w : World) (h : spec_l1Most.f a0 a1 = some r) :
  Calls Try.prog 110 #[.int .i64 a0, .int .i64 a1] w fun e w' => e = .returned (.int .i64 r) ∧ Below w.heap.size w w' := by
 unfold spec_l1Most.f at h
 by_cases hc : a0 > a1
 case neg =>
  rw [if_neg hc] at h
  obtain rfl := Option.some.inj h
  have hc' : ¬ a1 < a0 := hc
  clear h hc
  go_enter Try.func110, Try.ntmps110
  go_wp2
  go_ret
  exact ⟨rfl, by first | exact Below.refl _ _ | exact pw_below_drewN (Below.refl _ _) _⟩
 rw [if_pos hc] at h
 obtain rfl := Option.some.inj h
 have hc' : a1 < a0 := hc
 clear h hc
 go_enter Try.func110, Try.ntmps110
 go_wp2
 go_ret
 exact ⟨rfl, by first | exact Below.refl _ _ | exact pw_below_drewN (Below.refl _ _) _⟩
end Go.Proofs.Ytpdeapefekbdpaa.Q
