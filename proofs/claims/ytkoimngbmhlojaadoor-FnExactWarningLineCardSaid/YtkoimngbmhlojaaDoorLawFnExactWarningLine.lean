/- The law FnExactWarningLine holds for every input: its row, out of the walk of its code and of the plain law Pure.FnExactWarningLine. -/
import Derived.Test.YtkoimngbmhlojaaDoorRows
import Derived.Test.YtkoimngbmhlojaaDoorArgs
import Derived.Test.YtkoimngbmhlojaaDoorQf10
import Derived.Test.YtkoimngbmhlojaaDoorPureFnExactWarningLine
import Derived.Test.YtkoimngbmhlojaaDoorTie
import Derived.Test.YtkoimngbmhlojaaDoorCards
import Derived.WalkKit
import Derived.ProofKit
import Derived.OpenShut
import Derived.OpenVars
import Derived.ShutString
import Derived.ChangeOld
import Derived.Below
import Derived.SizedLaws
import Derived.Carry
import Derived.LaidMore
import Derived.Lay
import Derived.SevenTiedAt
import Derived.Stop.Joined
import Derived.Lib.LaidTab
import Derived.Stop.LaidErr
namespace Go.Proofs.YtkoimngbmhlojaaDoor.fnExactWarningLine
open Go.ChangeShapes Go.WideShapes Go.ChangeAt Go.RowKit Go.Proofs.YtkoimngbmhlojaaDoorW.PrintWords Go.Proofs.YtkoimngbmhlojaaDoor.Tells Go.Proofs.YtkoimngbmhlojaaDoor.Q
open Go.ChangeMaps (open_string shut_string)
set_option linter.unusedVariables false
theorem own : ownKnob Tryd.prog.godebug = none := by kernel_rfl
theorem laidOut : laidOutB Tryd.prog = true := by kernel_rfl
theorem tabN {W : World} (h : laidMetH Tryd.prog Rows.fnExactWarningLineRow.laid W) : TabN W := by
  rw [MakeChecks.laidMetH_plain _ _ _ (by kernel_rfl)] at h
  exact Lib.tabIs_of_head (rest := (Rows.fnExactWarningLineRow.laid).drop 3) (show Tryd.prog.globalNamed "internal/strconv.uint64pow10" = some 3 by kernel_rfl) (show (Tryd.prog.globals[3]?).map (·.type) = some 101 by kernel_rfl) Tryd.underlying101 Tryd.underlying87 (by kernel_rfl) (by kernel_rfl) (laidMet_drop 2 h)
theorem tabL {W : World} (h : laidMetH Tryd.prog Rows.fnExactWarningLineRow.laid W) : TabL W := by
  rw [MakeChecks.laidMetH_plain _ _ _ (by kernel_rfl)] at h
  exact strs_of_head (zs := levelT) (rest := (Rows.fnExactWarningLineRow.laid).drop 5) (show Tryd.prog.globalNamed "loop.example/g00889/impl.levelWords" = some 0 by kernel_rfl) (show (Tryd.prog.globals[0]?).map (·.type) = some 55 by kernel_rfl) Tryd.underlying55 Tryd.underlying9 (by kernel_rfl) (by kernel_rfl) (laidMet_drop 4 h)
theorem tabO {W : World} (h : laidMetH Tryd.prog Rows.fnExactWarningLineRow.laid W) : TabO W := by
  rw [MakeChecks.laidMetH_plain _ _ _ (by kernel_rfl)] at h
  exact strs_of_head (zs := topicT) (rest := (Rows.fnExactWarningLineRow.laid).drop 6) (show Tryd.prog.globalNamed "loop.example/g00889/impl.topicWords" = some 1 by kernel_rfl) (show (Tryd.prog.globals[1]?).map (·.type) = some 56 by kernel_rfl) Tryd.underlying56 Tryd.underlying9 (by kernel_rfl) (by kernel_rfl) (laidMet_drop 5 h)
set_option maxRecDepth 100000 in
theorem lifted (os : Os) (started : os.Started) (H : Type) (enc : TypeId × Value → H) :
    ReturnsInHanded {} Tryd.checked os 4 .any (fun w args => (Rows.fnExactWarningLineSpec.pre enc Tryd.prog Tryd.f4 Rows.fnExactWarningLineRow.domain false w args ∧ laidMetH Tryd.prog Rows.fnExactWarningLineRow.laid w) ∧ sizedMet enc Tryd.prog Tryd.f4 (OpenSpec.ofChange Rows.fnExactWarningLineSpec) false w args) (Rows.fnExactWarningLineSpec.post enc Tryd.prog Tryd.f4 false true false false) := by
  refine returnsInHanded_of_change_and (C := Tryd.checked) (X := fun w _ => laidMetH Tryd.prog Rows.fnExactWarningLineRow.laid w) (fun _ _ _ hh h => h.of_heap hh) own started (by kernel_rfl) Tryd.func4
    (ChangeSpec.witness_shaped (enc := enc) (C := Tryd.checked) (os := os) (X := fun w _ => laidMetH Tryd.prog Rows.fnExactWarningLineRow.laid w) false (World.laidAll Tryd.prog os Rows.fnExactWarningLineRow.laid) #[.agg #[.int .i64 0, .int .i64 0, .int .i64 0, .int .i64 0, .int .i64 0, .int .i64 0]] 8 (World.laidAll_os _ _ _)
      (World.shaped_of_ZipB (by kernel_rfl) (by kernel_rfl)) (by kernel_rfl) (by kernel_rfl) (by kernel_rfl)
      (by rw [MakeChecks.laidMetH_plain _ _ _ (by kernel_rfl)]; exact laidMet_laidAll _ (by kernel_rfl) (by kernel_rfl))) ?_
  intro W base args ds gs before hval0 hW hcnd _ hL _
  have hval : ∀ (j : Nat) t v, Tryd.f4.params[j]? = some t → args[j]? = some v → Value.okWide Tryd.prog W .any base t v := hval0
  have hW' := hW
  obtain ⟨p, q, hA0, hV, rfl, hfz, hnd⟩ := hW
  have hA : DataW.TrodAll enc Tryd.prog W 0 (fun _ => true) true Tryd.f4.params.toList args.toList ds p := hA0
  rw [Tryd.params4] at hA hval
  obtain ⟨v0, vs0, d0, ds0, p0, q0, hargs, rfl, rfl, h0, r0⟩ := trodAll_cons hA
  obtain ⟨rfl, rfl, rfl⟩ := trodAll_nil r0
  obtain rfl : args = #[v0] := by cases args; simp_all
  have hVk := hV
  obtain ⟨_, _, _, _, dv0, _, _, _, _, _, dv1, _, rfl, _⟩ := trodVars_two hV
  have k0 := h0
  have lt0 : ∀ x ∈ p0, x.block < W.heap.size := by obtain ⟨m, hm⟩ := k0; exact DataW.trod_lt m _ _ _ hm
  obtain ⟨x0, cs0, rfl, hK0, hg0⟩ := arg_struct Tryd.underlying23 (hval 0 23 v0 rfl rfl) tells23 h0
  obtain rfl := k23_open hK0
  clear hA0 hval0
  have htL : TabL W := tabL hL
  have htN : TabN W := tabN hL
  have htO : TabO W := tabO hL
  obtain ⟨k, h⟩ := Pure.FnExactWarningLine x0 hg0
  refine (laws_FnExactWarningLine.calls k x0.f0 x0.f1 x0.f2 x0.f3 x0.f4 x0.f5 true W htL htN htO  h).mono fun e W' ⟨he, bel0⟩ => ?_
  subst he
  have bel : Below W.heap.size W W' := bel0
  exact ⟨_, rfl, _, _, _, [], _, _, hW', trodAll_mk1 (shut_bool Tryd.underlying4 _), (trodAll_cons_mk (Below.trod laidOut (by kernel_rfl) (of_decide_eq_true (by kernel_rfl)) k0 bel lt0) trodAll_mk0), Below.trodVars laidOut bel (by kernel_rfl) hVk, bel.frame _, fun h => by cases h⟩
theorem over : Rows.fnExactWarningLineRow.holds Tryd.pinned (OpenSpec.ofChange Rows.fnExactWarningLineSpec) :=
  OpenClaim.holds_of_wide 4 Tryd.f4 rfl rfl rfl rfl rfl rfl rfl ⟨rfl, rfl, rfl, rfl, rfl⟩ rfl rfl rfl rfl rfl (by kernel_rfl) Tryd.func4 (by kernel_rfl)
    (of_decide_eq_true (by kernel_rfl)) (by unfold Func.isWrapper; first | (rw [if_pos (by decide +kernel)]; kernel_rfl) | (rw [if_neg (by decide +kernel)]; exact ⟨rfl, rfl⟩))
    (fun os started H enc _ => lifted os started H enc)
theorem proved : Rows.FnExactWarningLineSaid := over
theorem card : Rows.FnExactWarningLineCardSaid :=
  Claim7.holds_tied_plain_at .later [] [.data, .data, .data, .data, .widerDeep, .widerDeep, .pinned, .pinned] true (true, "9d5fd5d18ed57798cf613ca5c47fcdcf84f4699db96dbec4b4448300f033f4cd") false proved (fun _ h => by cases h) (by kernel_rfl) (fun _ h => by cases h) fnExactWarningLine_row_tie rfl ⟨rfl, rfl⟩ (by kernel_rfl) rfl
    (fun f fn hf hfn => by
      obtain rfl : f = 4 := Option.some.inj ((show Tryd.prog.funcNamed "loop.example/g00889/laws.FnExactWarningLine" = some 4 by kernel_rfl).symm.trans hf) |>.symm
      obtain rfl : fn = Tryd.f4 := (Option.some.inj (Tryd.func4.symm.trans hfn)).symm
      exact ⟨by kernel_rfl, fun j t ht => by
        rw [Tryd.params4] at ht
        have hm : t ∈ [23] := by simpa using Array.mem_of_getElem? ht
        have hall : ([23].all fun u => !Tryd.prog.wantsStandIn u) = true := by kernel_rfl
        exact (show Tryd.prog.wantsStandIn t = false by simpa using List.all_eq_true.1 hall t hm)⟩)
    (by kernel_rfl)
end Go.Proofs.YtkoimngbmhlojaaDoor.fnExactWarningLine
namespace Go.Proofs.YtkoimngbmhlojaaDoor
/-- The row, under a short name, for the claim. -/
theorem fnExactWarningLine_holds : Rows.FnExactWarningLineCardSaid := fnExactWarningLine.card
end Go.Proofs.YtkoimngbmhlojaaDoor
