/- The law FnShortTexts holds for every input: its row, out of the walk of its code and of the plain law Pure.FnShortTexts. -/
import Derived.Test.YtjgkinpjjbgcpaaDoorRows
import Derived.Test.YtjgkinpjjbgcpaaDoorTie
import Derived.Test.YtjgkinpjjbgcpaaDoorCards
import Derived.WalkKit
import Derived.ProofKit
import Derived.OpenShut
import Derived.OpenVars
import Derived.ShutString
import Derived.ChangeOld
import Derived.Below
import Derived.SizedLaws
import Derived.Carry
import Derived.LaidMore
import Derived.Lay
import Derived.SevenTiedAt
import Derived.Stop.Joined
import Derived.Lib.LaidTab
import Derived.Stop.LaidErr
import Derived.Test.YtjgkinpjjbgcpaaDoorBFnShortTexts0
import Derived.Test.YtjgkinpjjbgcpaaDoorBFnShortTexts12
import Derived.Test.YtjgkinpjjbgcpaaDoorBFnShortTexts13
namespace Go.Proofs.YtjgkinpjjbgcpaaDoor.fnShortTexts
open Go.ChangeShapes Go.WideShapes Go.ChangeAt Go.RowKit Go.Proofs.YtjgkinpjjbgcpaaDoorW.PrintWords Go.Proofs.YtjgkinpjjbgcpaaDoor.Tells Go.Proofs.YtjgkinpjjbgcpaaDoor.Q
open Go.ChangeMaps (open_string shut_string)
set_option linter.unusedVariables false
theorem own : ownKnob Tryd.prog.godebug = none := by kernel_rfl
theorem laidOut : laidOutB Tryd.prog = true := by kernel_rfl
theorem tabN {W : World} (h : laidMetH Tryd.prog Rows.fnShortTextsRow.laid W) : TabN W := by
  rw [MakeChecks.laidMetH_plain _ _ _ (by kernel_rfl)] at h
  exact Lib.tabIs_of_head (rest := (Rows.fnShortTextsRow.laid).drop 3) (show Tryd.prog.globalNamed "internal/strconv.uint64pow10" = some 2 by kernel_rfl) (show (Tryd.prog.globals[2]?).map (·.type) = some 83 by kernel_rfl) Tryd.underlying83 Tryd.underlying44 (by kernel_rfl) (by kernel_rfl) (laidMet_drop 2 h)
theorem tabL {W : World} (h : laidMetH Tryd.prog Rows.fnShortTextsRow.laid W) : TabL W := by
  rw [MakeChecks.laidMetH_plain _ _ _ (by kernel_rfl)] at h
  exact strs_of_head (zs := levelT) (rest := (Rows.fnShortTextsRow.laid).drop 4) (show Tryd.prog.globalNamed "loop.example/g00889/impl.levelWords" = some 0 by kernel_rfl) (show (Tryd.prog.globals[0]?).map (·.type) = some 37 by kernel_rfl) Tryd.underlying37 Tryd.underlying9 (by kernel_rfl) (by kernel_rfl) (laidMet_drop 3 h)
theorem tabO {W : World} (h : laidMetH Tryd.prog Rows.fnShortTextsRow.laid W) : TabO W := by
  rw [MakeChecks.laidMetH_plain _ _ _ (by kernel_rfl)] at h
  exact strs_of_head (zs := topicT) (rest := (Rows.fnShortTextsRow.laid).drop 5) (show Tryd.prog.globalNamed "loop.example/g00889/impl.topicWords" = some 1 by kernel_rfl) (show (Tryd.prog.globals[1]?).map (·.type) = some 36 by kernel_rfl) Tryd.underlying36 Tryd.underlying9 (by kernel_rfl) (by kernel_rfl) (laidMet_drop 4 h)
set_option maxRecDepth 100000 in
theorem lifted (os : Os) (started : os.Started) (H : Type) (enc : TypeId × Value → H) :
    ReturnsInHanded {} Tryd.checked os 3 .any (fun w args => (Rows.fnShortTextsSpec.pre enc Tryd.prog Tryd.f3 Rows.fnShortTextsRow.domain false w args ∧ laidMetH Tryd.prog Rows.fnShortTextsRow.laid w) ∧ sizedMet enc Tryd.prog Tryd.f3 (OpenSpec.ofChange Rows.fnShortTextsSpec) false w args) (Rows.fnShortTextsSpec.post enc Tryd.prog Tryd.f3 false true false false) := by
  refine returnsInHanded_of_change_and (C := Tryd.checked) (X := fun w _ => laidMetH Tryd.prog Rows.fnShortTextsRow.laid w) (fun _ _ _ hh h => h.of_heap hh) own started (by kernel_rfl) Tryd.func3
    (ChangeSpec.witness_shaped (enc := enc) (C := Tryd.checked) (os := os) (X := fun w _ => laidMetH Tryd.prog Rows.fnShortTextsRow.laid w) false (World.laidAll Tryd.prog os Rows.fnShortTextsRow.laid) #[.slice none 0 0] 8 (World.laidAll_os _ _ _)
      (World.shaped_of_ZipB (by kernel_rfl) (by kernel_rfl)) (by kernel_rfl) (by kernel_rfl) (by kernel_rfl)
      (by rw [MakeChecks.laidMetH_plain _ _ _ (by kernel_rfl)]; exact laidMet_laidAll _ (by kernel_rfl) (by kernel_rfl))) ?_
  intro W base args ds gs before hval0 hW hcnd _ hL _
  have hval : ∀ (j : Nat) t v, Tryd.f3.params[j]? = some t → args[j]? = some v → Value.okWide Tryd.prog W .any base t v := hval0
  have hW' := hW
  obtain ⟨p, q, hA0, hV, rfl, hfz, hnd⟩ := hW
  have hA : DataW.TrodAll enc Tryd.prog W 0 (fun _ => true) true Tryd.f3.params.toList args.toList ds p := hA0
  rw [Tryd.params3] at hA hval
  obtain ⟨v0, vs0, d0, ds0, p0, q0, hargs, rfl, rfl, h0, r0⟩ := trodAll_cons hA
  obtain ⟨rfl, rfl, rfl⟩ := trodAll_nil r0
  obtain rfl : args = #[v0] := by cases args; simp_all
  have hVk := hV
  obtain ⟨_, _, _, _, dv0, _, _, _, _, _, dv1, _, rfl, _⟩ := trodVars_two hV
  have k0 := h0
  have lt0 : ∀ x ∈ p0, x.block < W.heap.size := by obtain ⟨m, hm⟩ := k0; exact DataW.trod_lt m _ _ _ hm
  obtain ⟨a0, len0, cap0, rfl⟩ := okWide_slice Tryd.underlying22 (hval 0 22 v0 rfl rfl)
  obtain ⟨l0, rfl, hr0, hc0, hm0, hg0⟩ := arg_slice (tells_slice Tryd.underlying22 (by kernel_rfl) (tells_u8 Tryd.underlying5)) h0
  clear hA0 hval0
  have htL : TabL W := tabL hL
  have htN : TabN W := tabN hL
  have htO : TabO W := tabO hL
  obtain ⟨k, h⟩ := Pure.FnShortTexts l0 hm0 hg0
  refine (laws_FnShortTexts.calls k _ _ l0 true W htL htN htO hr0 hc0 h).mono fun e W' ⟨he, bel0⟩ => ?_
  subst he
  have bel : Below W.heap.size W W' := bel0
  exact ⟨_, rfl, _, _, _, [], _, _, hW', trodAll_mk1 (shut_bool Tryd.underlying4 _), (trodAll_cons_mk (Below.trod laidOut (by kernel_rfl) (of_decide_eq_true (by kernel_rfl)) k0 bel lt0) trodAll_mk0), Below.trodVars laidOut bel (by kernel_rfl) hVk, bel.frame _, fun h => by cases h⟩
theorem over : Rows.fnShortTextsRow.holds Tryd.pinned (OpenSpec.ofChange Rows.fnShortTextsSpec) :=
  OpenClaim.holds_of_wide 3 Tryd.f3 rfl rfl rfl rfl rfl rfl rfl ⟨rfl, rfl, rfl, rfl, rfl⟩ rfl rfl rfl rfl rfl (by kernel_rfl) Tryd.func3 (by kernel_rfl)
    (of_decide_eq_true (by kernel_rfl)) (by unfold Func.isWrapper; first | (rw [if_pos (by decide +kernel)]; kernel_rfl) | (rw [if_neg (by decide +kernel)]; exact ⟨rfl, rfl⟩))
    (fun os started H enc _ => lifted os started H enc)
theorem proved : Rows.FnShortTextsSaid := over
theorem card : Rows.FnShortTextsCardSaid :=
  Claim7.holds_tied_plain_at .later [] [.data, .data, .data, .widerDeep, .widerDeep] true (true, "4c99589f689e66be51a1956a0860e8e1b304d6367e8d4522e0c5fd77b230288b") false proved (fun _ h => by cases h) (by kernel_rfl) (fun _ h => by cases h) fnShortTexts_row_tie rfl ⟨rfl, rfl⟩ (by kernel_rfl) rfl
    (fun f fn hf hfn => by
      obtain rfl : f = 3 := Option.some.inj ((show Tryd.prog.funcNamed "loop.example/g00889/laws.FnShortTexts" = some 3 by kernel_rfl).symm.trans hf) |>.symm
      obtain rfl : fn = Tryd.f3 := (Option.some.inj (Tryd.func3.symm.trans hfn)).symm
      exact ⟨by kernel_rfl, fun j t ht => by
        rw [Tryd.params3] at ht
        have hm : t ∈ [22] := by simpa using Array.mem_of_getElem? ht
        have hall : ([22].all fun u => !Tryd.prog.wantsStandIn u) = true := by kernel_rfl
        exact (show Tryd.prog.wantsStandIn t = false by simpa using List.all_eq_true.1 hall t hm)⟩)
    (by kernel_rfl)
end Go.Proofs.YtjgkinpjjbgcpaaDoor.fnShortTexts
namespace Go.Proofs.YtjgkinpjjbgcpaaDoor
/-- The row, under a short name, for the claim. -/
theorem fnShortTexts_holds : Rows.FnShortTextsCardSaid := fnShortTexts.card
end Go.Proofs.YtjgkinpjjbgcpaaDoor
