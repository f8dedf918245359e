/- The law FnExactBulletinChanges holds for every input: its row, out of the walk of its code and of the plain law Pure.FnExactBulletinChanges. -/
import Derived.Test.YtlagjagmobbngaaRows
import Derived.WalkKit
import Derived.ProofKit
import Derived.OpenShut
import Derived.OpenVars
import Derived.ShutString
import Derived.ChangeOld
import Derived.Below
import Derived.SizedLaws
import Derived.Carry
import Derived.Test.YtlagjagmobbngaaBFnExactBulletinChanges0
import Derived.Test.YtlagjagmobbngaaBFnExactBulletinChanges9
import Derived.Test.YtlagjagmobbngaaBFnExactBulletinChanges10
namespace Go.Proofs.Ytlagjagmobbngaa.fnExactBulletinChanges
open Go.ChangeShapes Go.WideShapes Go.ChangeAt Go.RowKit Go.Proofs.YtlagjagmobbngaaW.PrintWords Go.Proofs.Ytlagjagmobbngaa.Tells Go.Proofs.Ytlagjagmobbngaa.Q
open Go.ChangeMaps (open_string shut_string)
set_option linter.unusedVariables false
theorem own : ownKnob Try.prog.godebug = none := by kernel_rfl
theorem laidOut : laidOutB Try.prog = true := by kernel_rfl
set_option maxRecDepth 100000 in
theorem lifted (os : Os) (started : os.Started) (H : Type) (enc : TypeId × Value → H) :
    ReturnsInHanded {} Try.checked os 3 .any (Rows.fnExactBulletinChangesSpec.pre6 enc Try.prog Try.f3 Rows.fnExactBulletinChangesRow.domain false) (Rows.fnExactBulletinChangesSpec.post enc Try.prog Try.f3 false true false false) := by
  refine returnsInHanded_of_change_sized (C := Try.checked) own started (by kernel_rfl) Try.func3
    (ChangeSpec.witness6 (enc := enc) (C := Try.checked) false ⟨#[], #[.agg #[.int .i64 0, .int .i64 0, .slice none 0 0], .agg #[.int .i64 0, .int .i64 0, .slice none 0 0]], []⟩ 8 (by kernel_rfl) (by kernel_rfl) (by kernel_rfl) (by kernel_rfl)) ?_
  intro W base args ds gs before hval0 hW hcnd hsz0 _
  have hval : ∀ (j : Nat) t v, Try.f3.params[j]? = some t → args[j]? = some v → Value.okWide Try.prog W .any base t v := hval0
  have hW' := hW
  obtain ⟨p, q, hA0, hV, rfl, hfz, hnd⟩ := hW
  have hA : DataW.TrodAll enc Try.prog W 0 (fun _ => true) true Try.f3.params.toList args.toList ds p := hA0
  rw [Try.params3] at hA hval
  obtain ⟨v0, vs0, d0, ds0, p0, q0, hargs, rfl, rfl, h0, r0⟩ := trodAll_cons hA
  obtain ⟨v1, vs1, d1, ds1, p1, q1, rfl, rfl, rfl, h1, r1⟩ := trodAll_cons r0
  obtain ⟨rfl, rfl, rfl⟩ := trodAll_nil r1
  obtain rfl : args = #[v0, v1] := by cases args; simp_all
  obtain ⟨rfl, rfl⟩ := trodVars_none hV
  have k0 := h0
  have lt0 : ∀ x ∈ p0, x.block < W.heap.size := by obtain ⟨m, hm⟩ := k0; exact DataW.trod_lt m _ _ _ hm
  obtain ⟨x0, cs0, rfl, hK0, hg0⟩ := arg_struct Try.underlying24 (hval 0 24 v0 rfl rfl) tells24 h0
  obtain ⟨A0_2, c0_2, rfl, hc0_2, hr0_2⟩ := k24_open hK0
  have k1 := h1
  have lt1 : ∀ x ∈ p1, x.block < W.heap.size := by obtain ⟨m, hm⟩ := k1; exact DataW.trod_lt m _ _ _ hm
  obtain ⟨x1, cs1, rfl, hK1, hg1⟩ := arg_struct Try.underlying24 (hval 1 24 v1 rfl rfl) tells24 h1
  obtain ⟨A1_2, c1_2, rfl, hc1_2, hr1_2⟩ := k24_open hK1
  clear hA0 hval0 hsz0
  obtain ⟨k, h⟩ := Pure.FnExactBulletinChanges x0 x1 hg0 hg1
  refine (laws_FnExactBulletinChanges.calls k x0.f0 x0.f1 _ _ x0.f2 x1.f0 x1.f1 _ _ x1.f2 true W hr0_2 hc0_2 hr1_2 hc1_2 h).mono fun e W' ⟨he, bel0⟩ => ?_
  subst he
  have bel : Below W.heap.size W W' := bel0
  exact ⟨_, rfl, _, _, _, [], _, [], hW', trodAll_mk1 (shut_bool Try.underlying4 _), (trodAll_cons_mk (Below.trod laidOut (by kernel_rfl) (of_decide_eq_true (by kernel_rfl)) k0 bel lt0) (trodAll_cons_mk (Below.trod laidOut (by kernel_rfl) (of_decide_eq_true (by kernel_rfl)) k1 bel lt1) trodAll_mk0)), rfl, bel.frame _, fun h => by cases h⟩
theorem over : Rows.fnExactBulletinChangesRow.holds Try.pinned (OpenSpec.ofChange Rows.fnExactBulletinChangesSpec) :=
  OpenClaim.holds_of_wide 3 Try.f3 rfl rfl rfl rfl rfl rfl rfl ⟨rfl, rfl, rfl, rfl, rfl⟩ rfl rfl rfl rfl rfl (by kernel_rfl) Try.func3 (by kernel_rfl)
    (of_decide_eq_true (by kernel_rfl)) (by unfold Func.isWrapper; first | (rw [if_pos (by decide +kernel)]; kernel_rfl) | (rw [if_neg (by decide +kernel)]; exact ⟨rfl, rfl⟩))
    (fun os started H enc _ => lifted os started H enc)
theorem proved : Rows.FnExactBulletinChangesSaid := over
end Go.Proofs.Ytlagjagmobbngaa.fnExactBulletinChanges
namespace Go.Proofs.Ytlagjagmobbngaa
/-- The row, under a short name, for the claim. -/
theorem fnExactBulletinChanges_holds : Rows.FnExactBulletinChangesSaid := fnExactBulletinChanges.proved
end Go.Proofs.Ytlagjagmobbngaa
