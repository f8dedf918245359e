/- Texts of this seat, put together: Qf18. -/
import Derived.Test.YtlagjagmobbngaaZFnExactBulletinChanges
import Derived.Test.YtlagjagmobbngaaBFnExactBulletinChanges0
import Derived.Test.YtlagjagmobbngaaBFnExactBulletinChanges4
namespace Go.Proofs.Ytlagjagmobbngaa.Q
open Go.RowKit Go.Proofs.YtlagjagmobbngaaW.PrintWords Go.Proofs.YtlagjagmobbngaaW.PrintLast Go.Proofs.YtlagjagmobbngaaW.PrintMore
attribute [local go_sem] max2_int min2_int max_two min_two max_three min_three max_four min_four   -- for this text's walks alone
set_option linter.unusedVariables false
set_option linter.unusedSimpArgs false

/-! ### impl_warningAt: function 18 -/
def impl_warningAt.f (k : Nat) (l0 : List S41) (a1 : Int) : Option Int := (impl_IsConsistent.f k l0).bind fun t => (if t = true then (some (Gen.fIdx (fun x => x.f0 == a1) l0)) else (some (-1)))
theorem impl_warningAt.mono : ∀ a0 a1 k, LeO (impl_warningAt.f k a0 a1) (impl_warningAt.f (k + 1) a0 a1) := fun a0 a1 k => LeO.bind (impl_IsConsistent.mono a0 k) (fun _ => LeO.refl _)
/-- The function that warningAt hands on: it asks whether a warning has the Id in block B. -/
theorem impl_warningAt.pred (B : Nat) (y : Int) (w : World) (hB : w.heap[B]? = some (.cells #[.int .i64 y] 3 (0, 0))) :
  ∀ (W : World) (x : S41), Below w.heap.size w W → Calls Try.prog 27 (#[.agg #[.int .i64 x.f0, .int .i64 x.f1, .int .i64 x.f2, .int .i64 x.f3, .int .i64 x.f4, .int .i64 x.f5]] ++ #[.pointer (some ⟨B, 0, none⟩)]) W fun e w' => e = .returned (.bool (x.f0 == y)) ∧ Below W.heap.size W w' := by
 intro W x hb
 have hlt : B < w.heap.size := by
  rcases Nat.lt_or_ge B w.heap.size with h | h
  ·
   exact h
  ·
   rw [Array.getElem?_eq_none h] at hB; cases hB
 have hBW : W.heap[B]? = some (.cells #[.int .i64 y] 3 (0, 0)) := (hb.block B hlt).trans hB
 have h0 : W.cell? ⟨B, 0, none⟩ = some (.int .i64 y) := by simp [World.cell?, hBW]
 have hBlt : B < W.heap.size := Nat.lt_of_lt_of_le hlt hb.size
 have hne : B ≠ W.heap.size := by omega
 have hu := Try.underlying41
 clear hBW hB hb
 show Calls Try.prog 27 #[.agg #[.int .i64 x.f0, .int .i64 x.f1, .int .i64 x.f2, .int .i64 x.f3, .int .i64 x.f4, .int .i64 x.f5], .pointer (some ⟨B, 0, none⟩)] W _
 go_enter Try.func27, Try.ntmps27
 go_wp2
 go_ret
 refine ⟨by first | rfl | (congr 1) | (simp [BEq.beq]), by first | exact ((Below.refl _ W).alloc (Nat.le_refl _) _) | exact ((Below.refl _ W).alloc (Nat.le_refl _) _).drewN _⟩
theorem impl_warningAt.calls (k : Nat) (A0 : Option Addr) (c0 : Nat) (l0 : List S41) (a1 : Int) (r : Int) (w : World) (hr0 : Kd.C k41 w A0 l0.length l0) (hc0 : l0.length ≤ c0) (h : impl_warningAt.f k l0 a1 = some r) :
  Calls Try.prog 18 #[.slice A0 l0.length c0, .int .i64 a1] w fun e w' => e = .returned (.int .i64 r) ∧ Below w.heap.size w w' := by
 have hu := Try.underlying41
 have HR0 := Aside0.mk hr0
 have HC0 := Aside0.mk hc0
 have hbig : l0.length ≤ 9223372036854775807 := hr0.2.1
 unfold impl_warningAt.f at h
 cases hc : impl_IsConsistent.f k l0 with
 | none => rw [hc] at h; cases h
 | some t =>
  rw [hc] at h
  simp only [Option.bind_some] at h
  have HC := Aside0.mk hc
  have H := Aside0.mk h
  clear hr0 hc0 hc h
  have BW := Aside0.mk (((Below.refl w.heap.size w).alloc (Nat.le_refl _) (.cells #[.int .i64 a1] 3)))
  have PB := Aside0.mk (heap_alloc_new w (.cells #[.int .i64 a1] 3))
  generalize hW : w.alloc (.cells #[.int .i64 a1] 3) = W0 at BW PB
  have HW := Aside0.mk hW
  have hsz : w.heap.size < W0.heap.size := by rw [← hW]; show w.heap.size < (w.heap.push _).size; rw [Array.size_push]; omega
  clear hW
  have HCW := Aside0.mk (Kd.C_below HR0.out BW.out)
  cases t with
  | false =>
   have hr : r = -1 := by have h1 := H.out; simp at h1; exact h1.symm
   subst hr
   go_enter Try.func18, Try.ntmps18
   go_wp2_with (first | (rw [HW.out]; fail) | (go_at_call 25; (try rw [HW.out]); refine (impl_IsConsistent.calls k A0 c0 l0 false _ HCW.out HC0.out HC.out).mono ?_; rintro e w' ⟨rfl, hb'⟩))
   go_ret
   exact ⟨rfl, BW.out.trans (hb'.mono BW.out.size)⟩
  | true =>
   have hr : r = Gen.fIdx (fun x => x.f0 == a1) l0 := by have h1 := H.out; simp at h1; exact h1.symm
   subst hr
   have eg : ∀ args w, (callFunc 27 args).run Try.prog w = .ok (.enter 27 args) w := enters_of Try.func27 (by kernel_rfl) rfl
   go_enter Try.func18, Try.ntmps18
   go_wp2_with (first | (go_at_call 25; (try rw [HW.out]); refine (impl_IsConsistent.calls k A0 c0 l0 true _ HCW.out HC0.out HC.out).mono ?_; rintro e w' ⟨rfl, hb'⟩) | (go_at_call 26; refine (IndexFuncW.calls 27 #[.pointer (some ⟨w.heap.size, 0, none⟩)] (fun x => x.f0 == a1) eg A0 _ c0 l0 _ rfl (Kd.C_below HCW.out hb') HC0.out (impl_warningAt.pred w.heap.size a1 _ ((hb'.block _ hsz).trans PB.out))).mono ?_; rintro e w'' ⟨rfl, hb''⟩))
   go_ret
   exact ⟨rfl, (BW.out.trans (hb'.mono BW.out.size)).trans (hb''.mono (Nat.le_trans BW.out.size hb'.size))⟩
end Go.Proofs.Ytlagjagmobbngaa.Q
