/- The law FnExactWarningText holds for every input: its row, out of the walk of its code and of the plain law Pure.FnExactWarningText. -/
import Derived.Test.YtnfcflekbnfmhaaDoorRows
import Derived.Test.YtnfcflekbnfmhaaDoorArgs
import Derived.Test.YtnfcflekbnfmhaaDoorQf21
import Derived.Test.YtnfcflekbnfmhaaDoorPureFnExactWarningText
import Derived.Test.YtnfcflekbnfmhaaDoorTie
import Derived.Test.YtnfcflekbnfmhaaDoorCards
import Derived.WalkKit
import Derived.ProofKit
import Derived.OpenShut
import Derived.OpenVars
import Derived.ShutString
import Derived.ChangeOld
import Derived.Below
import Derived.SizedLaws
import Derived.Carry
import Derived.LaidMore
import Derived.Lay
import Derived.SevenTiedAt
import Derived.Stop.Joined
import Derived.Lib.LaidTab
import Derived.Stop.LaidErr
namespace Go.Proofs.YtnfcflekbnfmhaaDoor.fnExactWarningText
open Go.ChangeShapes Go.WideShapes Go.ChangeAt Go.RowKit Go.Proofs.YtnfcflekbnfmhaaDoorW.PrintWords Go.Proofs.YtnfcflekbnfmhaaDoor.Tells Go.Proofs.YtnfcflekbnfmhaaDoor.Q
open Go.ChangeMaps (open_string shut_string)
set_option linter.unusedVariables false
theorem own : ownKnob Tryd.prog.godebug = none := by kernel_rfl
theorem laidOut : laidOutB Tryd.prog = true := by kernel_rfl
theorem tabN {W : World} (h : laidMetH Tryd.prog Rows.fnExactWarningTextRow.laid W) : TabN W := by
  rw [MakeChecks.laidMetH_plain _ _ _ (by kernel_rfl)] at h
  exact Lib.tabIs_of_head (rest := (Rows.fnExactWarningTextRow.laid).drop 3) (show Tryd.prog.globalNamed "internal/strconv.uint64pow10" = some 3 by kernel_rfl) (show (Tryd.prog.globals[3]?).map (·.type) = some 81 by kernel_rfl) Tryd.underlying81 Tryd.underlying74 (by kernel_rfl) (by kernel_rfl) (laidMet_drop 2 h)
theorem tabL {W : World} (h : laidMetH Tryd.prog Rows.fnExactWarningTextRow.laid W) : TabL W := by
  rw [MakeChecks.laidMetH_plain _ _ _ (by kernel_rfl)] at h
  exact strs_of_head (zs := levelT) (rest := (Rows.fnExactWarningTextRow.laid).drop 4) (show Tryd.prog.globalNamed "loop.example/g00889/impl.levelWords" = some 1 by kernel_rfl) (show (Tryd.prog.globals[1]?).map (·.type) = some 48 by kernel_rfl) Tryd.underlying48 Tryd.underlying9 (by kernel_rfl) (by kernel_rfl) (laidMet_drop 3 h)
theorem tabO {W : World} (h : laidMetH Tryd.prog Rows.fnExactWarningTextRow.laid W) : TabO W := by
  rw [MakeChecks.laidMetH_plain _ _ _ (by kernel_rfl)] at h
  exact strs_of_head (zs := topicT) (rest := (Rows.fnExactWarningTextRow.laid).drop 5) (show Tryd.prog.globalNamed "loop.example/g00889/impl.topicWords" = some 0 by kernel_rfl) (show (Tryd.prog.globals[0]?).map (·.type) = some 47 by kernel_rfl) Tryd.underlying47 Tryd.underlying9 (by kernel_rfl) (by kernel_rfl) (laidMet_drop 4 h)
set_option maxRecDepth 100000 in
theorem lifted (os : Os) (started : os.Started) (H : Type) (enc : TypeId × Value → H) :
    ReturnsInHanded {} Tryd.checked os 6 .any (fun w args => (Rows.fnExactWarningTextSpec.pre enc Tryd.prog Tryd.f6 Rows.fnExactWarningTextRow.domain false w args ∧ laidMetH Tryd.prog Rows.fnExactWarningTextRow.laid w) ∧ sizedMet enc Tryd.prog Tryd.f6 (OpenSpec.ofChange Rows.fnExactWarningTextSpec) false w args) (Rows.fnExactWarningTextSpec.post enc Tryd.prog Tryd.f6 false true false false) := by
  refine returnsInHanded_of_change_and (C := Tryd.checked) (X := fun w _ => laidMetH Tryd.prog Rows.fnExactWarningTextRow.laid w) (fun _ _ _ hh h => h.of_heap hh) own started (by kernel_rfl) Tryd.func6
    (ChangeSpec.witness_shaped (enc := enc) (C := Tryd.checked) (os := os) (X := fun w _ => laidMetH Tryd.prog Rows.fnExactWarningTextRow.laid w) false (World.laidAll Tryd.prog os Rows.fnExactWarningTextRow.laid) #[.agg #[.int .i64 0, .int .i64 0, .int .i64 0, .int .i64 0, .int .i64 0, .int .i64 0]] 8 (World.laidAll_os _ _ _)
      (World.shaped_of_ZipB (by kernel_rfl) (by kernel_rfl)) (by kernel_rfl) (by kernel_rfl) (by kernel_rfl)
      (by rw [MakeChecks.laidMetH_plain _ _ _ (by kernel_rfl)]; exact laidMet_laidAll _ (by kernel_rfl) (by kernel_rfl))) ?_
  intro W base args ds gs before hval0 hW hcnd _ hL _
  have hval : ∀ (j : Nat) t v, Tryd.f6.params[j]? = some t → args[j]? = some v → Value.okWide Tryd.prog W .any base t v := hval0
  have hW' := hW
  obtain ⟨p, q, hA0, hV, rfl, hfz, hnd⟩ := hW
  have hA : DataW.TrodAll enc Tryd.prog W 0 (fun _ => true) true Tryd.f6.params.toList args.toList ds p := hA0
  rw [Tryd.params6] at hA hval
  obtain ⟨v0, vs0, d0, ds0, p0, q0, hargs, rfl, rfl, h0, r0⟩ := trodAll_cons hA
  obtain ⟨rfl, rfl, rfl⟩ := trodAll_nil r0
  obtain rfl : args = #[v0] := by cases args; simp_all
  have hVk := hV
  obtain ⟨_, _, _, _, dv0, _, _, _, _, _, dv1, _, rfl, _⟩ := trodVars_two hV
  have k0 := h0
  have lt0 : ∀ x ∈ p0, x.block < W.heap.size := by obtain ⟨m, hm⟩ := k0; exact DataW.trod_lt m _ _ _ hm
  obtain ⟨x0, cs0, rfl, hK0, hg0⟩ := arg_struct Tryd.underlying36 (hval 0 36 v0 rfl rfl) tells36 h0
  obtain rfl := k36_open hK0
  clear hA0 hval0
  have htL : TabL W := tabL hL
  have htN : TabN W := tabN hL
  have htO : TabO W := tabO hL
  obtain ⟨k, h⟩ := Pure.FnExactWarningText x0 hg0
  refine (laws_FnExactWarningText.calls k x0.f0 x0.f1 x0.f2 x0.f3 x0.f4 x0.f5 true W htL htN htO  h).mono fun e W' ⟨he, bel0⟩ => ?_
  subst he
  have bel : Below W.heap.size W W' := bel0
  exact ⟨_, rfl, _, _, _, [], _, _, hW', trodAll_mk1 (shut_bool Tryd.underlying4 _), (trodAll_cons_mk (Below.trod laidOut (by kernel_rfl) (of_decide_eq_true (by kernel_rfl)) k0 bel lt0) trodAll_mk0), Below.trodVars laidOut bel (by kernel_rfl) hVk, bel.frame _, fun h => by cases h⟩
theorem over : Rows.fnExactWarningTextRow.holds Tryd.pinned (OpenSpec.ofChange Rows.fnExactWarningTextSpec) :=
  OpenClaim.holds_of_wide 6 Tryd.f6 rfl rfl rfl rfl rfl rfl rfl ⟨rfl, rfl, rfl, rfl, rfl⟩ rfl rfl rfl rfl rfl (by kernel_rfl) Tryd.func6 (by kernel_rfl)
    (of_decide_eq_true (by kernel_rfl)) (by unfold Func.isWrapper; first | (rw [if_pos (by decide +kernel)]; kernel_rfl) | (rw [if_neg (by decide +kernel)]; exact ⟨rfl, rfl⟩))
    (fun os started H enc _ => lifted os started H enc)
theorem proved : Rows.FnExactWarningTextSaid := over
theorem card : Rows.FnExactWarningTextCardSaid :=
  Claim7.holds_tied_plain_at .later [] [.data, .data, .data, .widerDeep, .widerDeep] true (true, "b54165c409e250be21794c40d098ee4d5667e4c7b5171e7aad3490ca3c48af52") false proved (fun _ h => by cases h) (by kernel_rfl) (fun _ h => by cases h) fnExactWarningText_row_tie rfl ⟨rfl, rfl⟩ (by kernel_rfl) rfl
    (fun f fn hf hfn => by
      obtain rfl : f = 6 := Option.some.inj ((show Tryd.prog.funcNamed "loop.example/g00889/laws.FnExactWarningText" = some 6 by kernel_rfl).symm.trans hf) |>.symm
      obtain rfl : fn = Tryd.f6 := (Option.some.inj (Tryd.func6.symm.trans hfn)).symm
      exact ⟨by kernel_rfl, fun j t ht => by
        rw [Tryd.params6] at ht
        have hm : t ∈ [36] := by simpa using Array.mem_of_getElem? ht
        have hall : ([36].all fun u => !Tryd.prog.wantsStandIn u) = true := by kernel_rfl
        exact (show Tryd.prog.wantsStandIn t = false by simpa using List.all_eq_true.1 hall t hm)⟩)
    (by kernel_rfl)
end Go.Proofs.YtnfcflekbnfmhaaDoor.fnExactWarningText
namespace Go.Proofs.YtnfcflekbnfmhaaDoor
/-- The row, under a short name, for the claim. -/
theorem fnExactWarningText_holds : Rows.FnExactWarningTextCardSaid := fnExactWarningText.card
end Go.Proofs.YtnfcflekbnfmhaaDoor
