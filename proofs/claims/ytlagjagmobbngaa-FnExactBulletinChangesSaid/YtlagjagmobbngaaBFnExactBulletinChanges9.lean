/- Texts of this seat, put together: Qf3. -/
import Derived.Test.YtlagjagmobbngaaZFnExactBulletinChanges
import Derived.Test.YtlagjagmobbngaaBFnExactBulletinChanges0
import Derived.Test.YtlagjagmobbngaaBFnExactBulletinChanges2
import Derived.Test.YtlagjagmobbngaaBFnExactBulletinChanges3
import Derived.Test.YtlagjagmobbngaaBFnExactBulletinChanges6
import Derived.Test.YtlagjagmobbngaaBFnExactBulletinChanges7
import Derived.Test.YtlagjagmobbngaaBFnExactBulletinChanges8
namespace Go.Proofs.Ytlagjagmobbngaa.Q
open Go.RowKit Go.Proofs.YtlagjagmobbngaaW.PrintWords Go.Proofs.YtlagjagmobbngaaW.PrintLast Go.Proofs.YtlagjagmobbngaaW.PrintMore
attribute [local go_sem] max2_int min2_int max_two min_two max_three min_three max_four min_four   -- for this text's walks alone
set_option linter.unusedVariables false
set_option linter.unusedSimpArgs false

/-! ### laws_FnExactBulletinChanges: function 3 -/
mutual
def laws_FnExactBulletinChanges.j0 : Nat → List Int → List Int → List Int → Bool → List Int → List Int → List Int → Bool → Bool → Int → Int → List (S48) → Int → Int → List (S48) → Int → Int → List (S41) → Int → Int → List (S41) → Option (Bool)
 | 0, _, _, _, _, _, _, _, _, _, _, _, _, _, _, _, _, _, _, _, _, _ => none
 | k + 1, x6, x7, x8, x9, x12, x13, x14, x15, x75, x230000, x230001, x230002, x231000, x231001, x231002, x259000, x259001, x259002, x265000, x265001, x265002 => if x75 = true then (none) else ((laws_toBulletin.f k x230000 x230001 x230002).bind fun bt278 => ((laws_eqBulletin.f k x259000 x259001 x259002 bt278.1 bt278.2.1 bt278.2.2).bind fun t283 => (if t283 = true then ((laws_toBulletin.f k x231000 x231001 x231002).bind fun bt284 => ((laws_eqBulletin.f k x265000 x265001 x265002 bt284.1 bt284.2.1 bt284.2.2).bind fun t289 => (if t289 = true then ((laws_markBulletin.f k x259000 x259001 x259002 1).bind fun bt290 => ((laws_markBulletin.f k x265000 x265001 x265002 bt290.1).bind fun bt292 => (if bt292.1 < 0 then (none) else ((laws_eqIntS.f k x12 x6).bind fun t294 => (if t294 = true then ((laws_eqIntS.f k x13 x7).bind fun t295 => (if t295 = true then ((laws_eqIntS.f k x14 x8).bind fun t296 => (if t296 = true then (laws_FnExactBulletinChanges.j1 k x6 x7 x8 x9 x12 x13 x14 (x15 != x9) x230000 x230001 x230002 x231000 x231001 x231002) else (none))) else (none))) else (none)))))) else (none)))) else (none))))
def laws_FnExactBulletinChanges.j1 : Nat → List Int → List Int → List Int → Bool → List Int → List Int → List Int → Bool → Int → Int → List (S48) → Int → Int → List (S48) → Option (Bool)
 | 0, _, _, _, _, _, _, _, _, _, _, _, _, _, _ => none
 | k + 1, x6, x7, x8, x9, x12, x13, x14, x116, x230000, x230001, x230002, x231000, x231001, x231002 => if x116 = true then (none) else ((laws_markIntS.f k x12 1).bind fun bt297 => ((laws_markIntS.f k x13 bt297.1).bind fun bt299 => ((laws_markIntS.f k x14 bt299.1).bind fun bt301 => ((laws_heldIntS.f k bt297.2 1).bind fun t303 => (if t303 < 0 then (none) else ((laws_heldIntS.f k bt299.2 t303).bind fun t304 => (if t304 < 0 then (none) else ((laws_heldIntS.f k bt301.2 t304).bind fun t305 => (if t305 < 0 then (none) else (if t305 = bt301.1 then ((laws_toBulletin.f k x230000 x230001 x230002).bind fun bt306 => ((laws_toBulletin.f k x231000 x231001 x231002).bind fun bt311 => ((impl_BulletinChanges.f k bt306.1 bt306.2.1 bt306.2.2 bt311.1 bt311.2.1 bt311.2.2).bind fun bt316 => ((laws_eqIntS.f k bt316.1 x6).bind fun t326 => (if t326 = true then ((laws_eqIntS.f k bt316.2.1 x7).bind fun t327 => (if t327 = true then ((laws_eqIntS.f k bt316.2.2.1 x8).bind fun t328 => (if t328 = true then (laws_FnExactBulletinChanges.j2 k bt297.2 bt299.2 bt301.2 bt301.1 (bt316.2.2.2 != x9)) else (none))) else (none))) else (none)))))) else (none)))))))))))
def laws_FnExactBulletinChanges.j2 : Nat → List Int → List Int → List Int → Int → Bool → Option (Bool)
 | 0, _, _, _, _, _ => none
 | k + 1, x12, x13, x14, x17, x174 => if x174 = true then (none) else ((laws_heldIntS.f k x12 1).bind fun t329 => (if t329 < 0 then (none) else ((laws_heldIntS.f k x13 t329).bind fun t330 => (if t330 < 0 then (none) else ((laws_heldIntS.f k x14 t330).bind fun t331 => (if t331 < 0 then (none) else (if t331 = x17 then (some true) else (none))))))))
end
def laws_FnExactBulletinChanges.f (k : Nat) (a0_0 : Int) (a0_1 : Int) (l0_2 : List (S48)) (a1_0 : Int) (a1_1 : Int) (l1_2 : List (S48)) : Option (Bool) := (laws_szBulletin.f a0_0 a0_1 l0_2 1048576).bind fun t231 => (if t231 < 0 then (some true) else ((laws_szBulletin.f a1_0 a1_1 l1_2 t231).bind fun t232 => (if t232 < 0 then (some true) else ((laws_toBulletin.f k a0_0 a0_1 l0_2).bind fun bt233 => ((laws_toBulletin.f k a1_0 a1_1 l1_2).bind fun bt238 => ((spec_BulletinChanges.f k bt233.1 bt233.2.1 bt233.2.2 bt238.1 bt238.2.1 bt238.2.2).bind fun bt243 => ((laws_toBulletin.f k a0_0 a0_1 l0_2).bind fun bt253 => ((laws_toBulletin.f k a1_0 a1_1 l1_2).bind fun bt259 => ((impl_BulletinChanges.f k bt253.1 bt253.2.1 bt253.2.2 bt259.1 bt259.2.1 bt259.2.2).bind fun bt265 => ((laws_eqIntS.f k bt265.1 bt243.1).bind fun t275 => (if t275 = true then ((laws_eqIntS.f k bt265.2.1 bt243.2.1).bind fun t276 => (if t276 = true then ((laws_eqIntS.f k bt265.2.2.1 bt243.2.2.1).bind fun t277 => (if t277 = true then (laws_FnExactBulletinChanges.j0 k bt243.1 bt243.2.1 bt243.2.2.1 bt243.2.2.2 bt265.1 bt265.2.1 bt265.2.2.1 bt265.2.2.2 (bt265.2.2.2 != bt243.2.2.2) a0_0 a0_1 l0_2 a1_0 a1_1 l1_2 bt253.1 bt253.2.1 bt253.2.2 bt259.1 bt259.2.1 bt259.2.2) else (none))) else (none))) else (none))))))))))))
theorem laws_FnExactBulletinChanges.mono_l : ∀ k, (∀ y0 y1 y2 y3 y4 y5 y6 y7 y8 y9 y10 y11 y12 y13 y14 y15 y16 y17 y18 y19 y20, LeO (laws_FnExactBulletinChanges.j0 k y0 y1 y2 y3 y4 y5 y6 y7 y8 y9 y10 y11 y12 y13 y14 y15 y16 y17 y18 y19 y20) (laws_FnExactBulletinChanges.j0 (k + 1) y0 y1 y2 y3 y4 y5 y6 y7 y8 y9 y10 y11 y12 y13 y14 y15 y16 y17 y18 y19 y20)) ∧ (∀ y0 y1 y2 y3 y4 y5 y6 y7 y8 y9 y10 y11 y12 y13, LeO (laws_FnExactBulletinChanges.j1 k y0 y1 y2 y3 y4 y5 y6 y7 y8 y9 y10 y11 y12 y13) (laws_FnExactBulletinChanges.j1 (k + 1) y0 y1 y2 y3 y4 y5 y6 y7 y8 y9 y10 y11 y12 y13)) ∧ (∀ y0 y1 y2 y3 y4, LeO (laws_FnExactBulletinChanges.j2 k y0 y1 y2 y3 y4) (laws_FnExactBulletinChanges.j2 (k + 1) y0 y1 y2 y3 y4))
 | 0 => ⟨fun _ _ _ _ _ _ _ _ _ _ _ _ _ _ _ _ _ _ _ _ _ r h => by simp [laws_FnExactBulletinChanges.j0] at h, fun _ _ _ _ _ _ _ _ _ _ _ _ _ _ r h => by simp [laws_FnExactBulletinChanges.j1] at h, fun _ _ _ _ _ r h => by simp [laws_FnExactBulletinChanges.j2] at h⟩
 | k + 1 => by
  obtain ⟨ih0, ih1, ih2⟩ := laws_FnExactBulletinChanges.mono_l k
  refine ⟨?_, ?_, ?_⟩
  ·
   intro y0 y1 y2 y3 y4 y5 y6 y7 y8 y9 y10 y11 y12 y13 y14 y15 y16 y17 y18 y19 y20
   unfold laws_FnExactBulletinChanges.j0
   repeat' first
   | (with_reducible exact ih0 _ _ _ _ _ _ _ _ _ _ _ _ _ _ _ _ _ _ _ _ _)
   | (with_reducible exact ih1 _ _ _ _ _ _ _ _ _ _ _ _ _ _)
   | (with_reducible exact ih2 _ _ _ _ _)
   | (with_reducible exact impl_BulletinChanges.mono _ _ _ _ _ _ _)
   | (with_reducible exact laws_eqBulletin.mono _ _ _ _ _ _ _)
   | (with_reducible exact laws_eqIntS.mono _ _ _)
   | (with_reducible exact laws_heldIntS.mono _ _ _)
   | (with_reducible exact laws_markBulletin.mono _ _ _ _ _)
   | (with_reducible exact laws_markIntS.mono _ _ _)
   | (with_reducible exact laws_toBulletin.mono _ _ _ _)
   | (with_reducible exact spec_BulletinChanges.mono _ _ _ _ _ _ _)
   | (with_reducible exact LeO.refl _)
   | (with_reducible exact LeO.none _)
   | (with_reducible refine LeO.ite ?_ ?_)
   | (with_reducible refine LeO.bind ?_ (fun _ => ?_))
   | exact ih0 _ _ _ _ _ _ _ _ _ _ _ _ _ _ _ _ _ _ _ _ _
   | exact ih1 _ _ _ _ _ _ _ _ _ _ _ _ _ _
   | exact ih2 _ _ _ _ _
   | exact impl_BulletinChanges.mono _ _ _ _ _ _ _
   | exact laws_eqBulletin.mono _ _ _ _ _ _ _
   | exact laws_eqIntS.mono _ _ _
   | exact laws_heldIntS.mono _ _ _
   | exact laws_markBulletin.mono _ _ _ _ _
   | exact laws_markIntS.mono _ _ _
   | exact laws_toBulletin.mono _ _ _ _
   | exact spec_BulletinChanges.mono _ _ _ _ _ _ _
   | exact LeO.none _
   | refine LeO.ite ?_ ?_
   | refine LeO.bind ?_ (fun _ => ?_)
  ·
   intro y0 y1 y2 y3 y4 y5 y6 y7 y8 y9 y10 y11 y12 y13
   unfold laws_FnExactBulletinChanges.j1
   repeat' first
   | (with_reducible exact ih0 _ _ _ _ _ _ _ _ _ _ _ _ _ _ _ _ _ _ _ _ _)
   | (with_reducible exact ih1 _ _ _ _ _ _ _ _ _ _ _ _ _ _)
   | (with_reducible exact ih2 _ _ _ _ _)
   | (with_reducible exact impl_BulletinChanges.mono _ _ _ _ _ _ _)
   | (with_reducible exact laws_eqBulletin.mono _ _ _ _ _ _ _)
   | (with_reducible exact laws_eqIntS.mono _ _ _)
   | (with_reducible exact laws_heldIntS.mono _ _ _)
   | (with_reducible exact laws_markBulletin.mono _ _ _ _ _)
   | (with_reducible exact laws_markIntS.mono _ _ _)
   | (with_reducible exact laws_toBulletin.mono _ _ _ _)
   | (with_reducible exact spec_BulletinChanges.mono _ _ _ _ _ _ _)
   | (with_reducible exact LeO.refl _)
   | (with_reducible exact LeO.none _)
   | (with_reducible refine LeO.ite ?_ ?_)
   | (with_reducible refine LeO.bind ?_ (fun _ => ?_))
   | exact ih0 _ _ _ _ _ _ _ _ _ _ _ _ _ _ _ _ _ _ _ _ _
   | exact ih1 _ _ _ _ _ _ _ _ _ _ _ _ _ _
   | exact ih2 _ _ _ _ _
   | exact impl_BulletinChanges.mono _ _ _ _ _ _ _
   | exact laws_eqBulletin.mono _ _ _ _ _ _ _
   | exact laws_eqIntS.mono _ _ _
   | exact laws_heldIntS.mono _ _ _
   | exact laws_markBulletin.mono _ _ _ _ _
   | exact laws_markIntS.mono _ _ _
   | exact laws_toBulletin.mono _ _ _ _
   | exact spec_BulletinChanges.mono _ _ _ _ _ _ _
   | exact LeO.none _
   | refine LeO.ite ?_ ?_
   | refine LeO.bind ?_ (fun _ => ?_)
  ·
   intro y0 y1 y2 y3 y4
   unfold laws_FnExactBulletinChanges.j2
   repeat' first
   | (with_reducible exact ih0 _ _ _ _ _ _ _ _ _ _ _ _ _ _ _ _ _ _ _ _ _)
   | (with_reducible exact ih1 _ _ _ _ _ _ _ _ _ _ _ _ _ _)
   | (with_reducible exact ih2 _ _ _ _ _)
   | (with_reducible exact impl_BulletinChanges.mono _ _ _ _ _ _ _)
   | (with_reducible exact laws_eqBulletin.mono _ _ _ _ _ _ _)
   | (with_reducible exact laws_eqIntS.mono _ _ _)
   | (with_reducible exact laws_heldIntS.mono _ _ _)
   | (with_reducible exact laws_markBulletin.mono _ _ _ _ _)
   | (with_reducible exact laws_markIntS.mono _ _ _)
   | (with_reducible exact laws_toBulletin.mono _ _ _ _)
   | (with_reducible exact spec_BulletinChanges.mono _ _ _ _ _ _ _)
   | (with_reducible exact LeO.refl _)
   | (with_reducible exact LeO.none _)
   | (with_reducible refine LeO.ite ?_ ?_)
   | (with_reducible refine LeO.bind ?_ (fun _ => ?_))
   | exact ih0 _ _ _ _ _ _ _ _ _ _ _ _ _ _ _ _ _ _ _ _ _
   | exact ih1 _ _ _ _ _ _ _ _ _ _ _ _ _ _
   | exact ih2 _ _ _ _ _
   | exact impl_BulletinChanges.mono _ _ _ _ _ _ _
   | exact laws_eqBulletin.mono _ _ _ _ _ _ _
   | exact laws_eqIntS.mono _ _ _
   | exact laws_heldIntS.mono _ _ _
   | exact laws_markBulletin.mono _ _ _ _ _
   | exact laws_markIntS.mono _ _ _
   | exact laws_toBulletin.mono _ _ _ _
   | exact spec_BulletinChanges.mono _ _ _ _ _ _ _
   | exact LeO.none _
   | refine LeO.ite ?_ ?_
   | refine LeO.bind ?_ (fun _ => ?_)
theorem laws_FnExactBulletinChanges.mono : ∀ a0 a1 a2 a3 a4 a5 k, LeO (laws_FnExactBulletinChanges.f k a0 a1 a2 a3 a4 a5) (laws_FnExactBulletinChanges.f (k + 1) a0 a1 a2 a3 a4 a5) := by
 intro a0 a1 a2 a3 a4 a5 k
 obtain ⟨ih0, ih1, ih2⟩ := laws_FnExactBulletinChanges.mono_l k
 unfold laws_FnExactBulletinChanges.f
 repeat' first
   | (with_reducible exact ih0 _ _ _ _ _ _ _ _ _ _ _ _ _ _ _ _ _ _ _ _ _)
   | (with_reducible exact ih1 _ _ _ _ _ _ _ _ _ _ _ _ _ _)
   | (with_reducible exact ih2 _ _ _ _ _)
   | (with_reducible exact impl_BulletinChanges.mono _ _ _ _ _ _ _)
   | (with_reducible exact laws_eqBulletin.mono _ _ _ _ _ _ _)
   | (with_reducible exact laws_eqIntS.mono _ _ _)
   | (with_reducible exact laws_heldIntS.mono _ _ _)
   | (with_reducible exact laws_markBulletin.mono _ _ _ _ _)
   | (with_reducible exact laws_markIntS.mono _ _ _)
   | (with_reducible exact laws_toBulletin.mono _ _ _ _)
   | (with_reducible exact spec_BulletinChanges.mono _ _ _ _ _ _ _)
   | (with_reducible exact LeO.refl _)
   | (with_reducible exact LeO.none _)
   | (with_reducible refine LeO.ite ?_ ?_)
   | (with_reducible refine LeO.bind ?_ (fun _ => ?_))
   | exact ih0 _ _ _ _ _ _ _ _ _ _ _ _ _ _ _ _ _ _ _ _ _
   | exact ih1 _ _ _ _ _ _ _ _ _ _ _ _ _ _
   | exact ih2 _ _ _ _ _
   | exact impl_BulletinChanges.mono _ _ _ _ _ _ _
   | exact laws_eqBulletin.mono _ _ _ _ _ _ _
   | exact laws_eqIntS.mono _ _ _
   | exact laws_heldIntS.mono _ _ _
   | exact laws_markBulletin.mono _ _ _ _ _
   | exact laws_markIntS.mono _ _ _
   | exact laws_toBulletin.mono _ _ _ _
   | exact spec_BulletinChanges.mono _ _ _ _ _ _ _
   | exact LeO.none _
   | refine LeO.ite ?_ ?_
   | refine LeO.bind ?_ (fun _ => ?_)
def laws_FnExactBulletinChanges.T8 : Bool × List (List Nat × List Nat) := (true, [([], []), ([0], [0]), ([], []), ([2, 1], [2]), ([1, 3, 3], [1, 3]), ([4], [4]), ([5], [5]), ([5], [5]), ([5], [5]), ([5], [5]), ([6, 4, 0, 1, 2, 3, 4, 5, 6], [6]), ([7, 10, 0, 1, 2, 3, 4, 5, 6, 7, 10], [7]), ([8, 11, 0, 1, 2, 3, 4, 5, 6, 7, 8, 10, 11], [8]), ([9, 12, 0, 1, 2, 3, 4, 5, 6, 7, 8, 9, 10, 11, 12], [9])])
def laws_FnExactBulletinChanges.B8 : List Nat := [0, 1, 0, 7, 15, 31, 63, 63, 63, 63, 127, 1279, 3583, 8191]
theorem laws_FnExactBulletinChanges.tab8 : rtab .any (opsOf Try.f3 8) = laws_FnExactBulletinChanges.T8 := by kernel_rfl
theorem laws_FnExactBulletinChanges.bits8 : waitsOk laws_FnExactBulletinChanges.T8.2 laws_FnExactBulletinChanges.B8 = true := by kernel_rfl
def laws_FnExactBulletinChanges.T39 : Bool × List (List Nat × List Nat) := (true, [([], []), ([0], [0]), ([], []), ([2, 1], [2]), ([1, 3, 3], [1, 3]), ([4], [4]), ([5], [5]), ([5], [5]), ([5], [5]), ([5], [5]), ([6, 4, 0, 1, 2, 3, 4, 5, 6], [6]), ([7, 10, 0, 1, 2, 3, 4, 5, 6, 7, 10], [7]), ([8, 11, 0, 1, 2, 3, 4, 5, 6, 7, 8, 10, 11], [8]), ([9, 12, 0, 1, 2, 3, 4, 5, 6, 7, 8, 9, 10, 11, 12], [9])])
def laws_FnExactBulletinChanges.B39 : List Nat := [0, 1, 0, 7, 15, 31, 63, 63, 63, 63, 127, 1279, 3583, 8191]
theorem laws_FnExactBulletinChanges.tab39 : rtab .any (opsOf Try.f3 39) = laws_FnExactBulletinChanges.T39 := by kernel_rfl
theorem laws_FnExactBulletinChanges.bits39 : waitsOk laws_FnExactBulletinChanges.T39.2 laws_FnExactBulletinChanges.B39 = true := by kernel_rfl
set_option maxHeartbeats 8000000 in
set_option maxRecDepth 100000 in
theorem laws_FnExactBulletinChanges.calls (k : Nat) (a0_0 : Int) (a0_1 : Int) (A0_2 : Option Addr) (c0_2 : Nat) (l0_2 : List (S48)) (a1_0 : Int) (a1_1 : Int) (A1_2 : Option Addr) (c1_2 : Nat) (l1_2 : List (S48)) (r : Bool) (w : World) (hr0_2 : Kd.C k48 w A0_2 l0_2.length l0_2) (hc0_2 : l0_2.length ≤ c0_2) (hr1_2 : Kd.C k48 w A1_2 l1_2.length l1_2) (hc1_2 : l1_2.length ≤ c1_2) (h : laws_FnExactBulletinChanges.f k a0_0 a0_1 l0_2 a1_0 a1_1 l1_2 = some r) :
  Calls Try.prog 3 #[.agg #[.int .i64 a0_0, .int .i64 a0_1, .slice A0_2 l0_2.length c0_2], .agg #[.int .i64 a1_0, .int .i64 a1_1, .slice A1_2 l1_2.length c1_2]] w fun e w' => e = .returned (.bool r) ∧ Below w.heap.size w w' := by
 have hu24 := Try.underlying24
 have hu31 := Try.underlying31
 have HR0_2 := Aside0.mk hr0_2
 have HC0_2 := Aside0.mk hc0_2
 clear hr0_2 hc0_2
 have HR1_2 := Aside0.mk hr1_2
 have HC1_2 := Aside0.mk hc1_2
 clear hr1_2 hc1_2
 have HB := Aside0.mk (Below.refl w.heap.size w)
 have H : ((laws_szBulletin.f a0_0 a0_1 l0_2 1048576).bind fun t231 => (if t231 < 0 then (some true) else ((laws_szBulletin.f a1_0 a1_1 l1_2 t231).bind fun t232 => (if t232 < 0 then (some true) else ((laws_toBulletin.f k a0_0 a0_1 l0_2).bind fun bt233 => ((laws_toBulletin.f k a1_0 a1_1 l1_2).bind fun bt238 => ((spec_BulletinChanges.f k bt233.1 bt233.2.1 bt233.2.2 bt238.1 bt238.2.1 bt238.2.2).bind fun bt243 => ((laws_toBulletin.f k a0_0 a0_1 l0_2).bind fun bt253 => ((laws_toBulletin.f k a1_0 a1_1 l1_2).bind fun bt259 => ((impl_BulletinChanges.f k bt253.1 bt253.2.1 bt253.2.2 bt259.1 bt259.2.1 bt259.2.2).bind fun bt265 => ((laws_eqIntS.f k bt265.1 bt243.1).bind fun t275 => (if t275 = true then ((laws_eqIntS.f k bt265.2.1 bt243.2.1).bind fun t276 => (if t276 = true then ((laws_eqIntS.f k bt265.2.2.1 bt243.2.2.1).bind fun t277 => (if t277 = true then (laws_FnExactBulletinChanges.j0 k bt243.1 bt243.2.1 bt243.2.2.1 bt243.2.2.2 bt265.1 bt265.2.1 bt265.2.2.1 bt265.2.2.2 (bt265.2.2.2 != bt243.2.2.2) a0_0 a0_1 l0_2 a1_0 a1_1 l1_2 bt253.1 bt253.2.1 bt253.2.2 bt259.1 bt259.2.1 bt259.2.2) else (none))) else (none))) else (none))))))))))))) = some r := h
 clear h
 replace H := Option.bind_eq_some_iff.mp H
 obtain ⟨t231, A30, H⟩ := H
 replace H : (if t231 < 0 then (some true) else ((laws_szBulletin.f a1_0 a1_1 l1_2 t231).bind fun t232 => (if t232 < 0 then (some true) else ((laws_toBulletin.f k a0_0 a0_1 l0_2).bind fun bt233 => ((laws_toBulletin.f k a1_0 a1_1 l1_2).bind fun bt238 => ((spec_BulletinChanges.f k bt233.1 bt233.2.1 bt233.2.2 bt238.1 bt238.2.1 bt238.2.2).bind fun bt243 => ((laws_toBulletin.f k a0_0 a0_1 l0_2).bind fun bt253 => ((laws_toBulletin.f k a1_0 a1_1 l1_2).bind fun bt259 => ((impl_BulletinChanges.f k bt253.1 bt253.2.1 bt253.2.2 bt259.1 bt259.2.1 bt259.2.2).bind fun bt265 => ((laws_eqIntS.f k bt265.1 bt243.1).bind fun t275 => (if t275 = true then ((laws_eqIntS.f k bt265.2.1 bt243.2.1).bind fun t276 => (if t276 = true then ((laws_eqIntS.f k bt265.2.2.1 bt243.2.2.1).bind fun t277 => (if t277 = true then (laws_FnExactBulletinChanges.j0 k bt243.1 bt243.2.1 bt243.2.2.1 bt243.2.2.2 bt265.1 bt265.2.1 bt265.2.2.1 bt265.2.2.2 (bt265.2.2.2 != bt243.2.2.2) a0_0 a0_1 l0_2 a1_0 a1_1 l1_2 bt253.1 bt253.2.1 bt253.2.2 bt259.1 bt259.2.1 bt259.2.2) else (none))) else (none))) else (none)))))))))))) = some r := H
 have A3 := Aside0.mk A30
 clear A30
 by_cases c4 : t231 < 0
 case pos =>
  rw [if_pos c4] at H
  have c4b0 : decide (t231 < 0) = true := decide_eq_true c4
  clear c4
  obtain rfl := Option.some.inj H
  go_enter Try.func3, Try.ntmps3
  go_wp2_with (first | ((with_reducible refine gate_dst (N := 2) rfl ?_); refine box_event ?hg (N := 2) ?hd (cs := #[.int .i64 a0_0, .int .i64 a0_1, .slice A0_2 l0_2.length c0_2]) (t := 24) ?hr ?_; (case hd => rfl); (case hg => rfl); (case hr => exact zqS); intro gb229 hg w5 hbox hb; have n0_ := Aside0.mk (below_step zq0 hb); have n1_ := Aside0.mk (hbox); have n2_ := Aside0.mk ((by rw [hg]; exact (below_size zq0) : w.heap.size ≤ gb229)); have n3_ := n2_; clear HB; have HB := n0_; have BK229 := n1_; have GW229 := n2_; have GE229 := n3_; clear n0_ n1_ n2_ n3_; clear hb hbox hg) | ((with_reducible refine gate_dst (N := 3) rfl ?_); refine box_event ?hg (N := 3) ?hd (cs := #[.int .i64 a1_0, .int .i64 a1_1, .slice A1_2 l1_2.length c1_2]) (t := 24) ?hr ?_; (case hd => rfl); (case hg => rfl); (case hr => exact zqS); intro gb230 hg w6 hbox hb; have n0_ := Aside0.mk (blk_below (g := gb229) (o := .cells #[.int .i64 a0_0, .int .i64 a0_1, .slice A0_2 l0_2.length c0_2] 24 (0, 0)) (zqK BK229.out) hb); have n1_ := Aside0.mk (below_step zq30 hb); have n2_ := Aside0.mk (hbox); have n3_ := Aside0.mk ((by rw [hg]; exact (below_size zq30) : w.heap.size ≤ gb230)); have n4_ := n3_; have n5_ := Aside0.mk ((by rw [hg]; exact Nat.ne_of_lt (blk_lt (g := gb229) (o := .cells #[.int .i64 a0_0, .int .i64 a0_1, .slice A0_2 l0_2.length c0_2] 24 (0, 0)) (zqK BK229.out)) : gb229 ≠ gb230)); have n6_ := Aside0.mk ((by rw [hg]; exact Nat.ne_of_gt (blk_lt (g := gb229) (o := .cells #[.int .i64 a0_0, .int .i64 a0_1, .slice A0_2 l0_2.length c0_2] 24 (0, 0)) (zqK BK229.out)) : gb230 ≠ gb229)); clear BK229; clear HB; have BK229 := n0_; have HB := n1_; have BK230 := n2_; have GW230 := n3_; have GE230 := n4_; have NB229_230 := n5_; have NB230_229 := n6_; clear n0_ n1_ n2_ n3_ n4_ n5_ n6_; clear hb hbox hg; have hnb7 := NB229_230.out; have hnc7 := NB230_229.out; have hcz8_0 := bz BK229.out 0 (.int .i64 a0_0); have hcz8_1 := bz BK229.out 1 (.int .i64 a0_1); have hcz8_2 := bz BK229.out 2 (.slice A0_2 l0_2.length c0_2); have hfz8_0 := blk_frozen BK229.out 0; have hfz8_1 := blk_frozen BK229.out 1; have hfz8_2 := blk_frozen BK229.out 2) | ((with_reducible refine gate_callee (f := 4) rfl ?_); refine goesL_ (some 25) rfl rfl Try.func4 (by kernel_rfl) rfl #[.agg #[.int .i64 a0_0, .int .i64 a0_1, .slice A0_2 l0_2.length c0_2], .int .i64 1048576] rfl zq2 ?_; (with_reducible refine (laws_szBulletin.calls a0_0 a0_1 _ _ l0_2 1048576 t231 _ ?side1 ?side2 A3.out).mono ?_); (case side1 => exact zqC (Kd.C_below HR0_2.out HB.out)); (case side2 => exact HC0_2.out); rintro e w9 ⟨rfl, hb⟩; refine ⟨_, rfl, ?_⟩; have n0_ := Aside0.mk (blk_below (g := gb229) (o := .cells #[.int .i64 a0_0, .int .i64 a0_1, .slice A0_2 l0_2.length c0_2] 24 (0, 0)) (zqK BK229.out) hb); have n1_ := Aside0.mk (blk_below (g := gb230) (o := .cells #[.int .i64 a1_0, .int .i64 a1_1, .slice A1_2 l1_2.length c1_2] 24 (0, 0)) (zqK BK230.out) hb); have n2_ := Aside0.mk (below_step zq14 hb); clear BK229; clear BK230; clear HB; have BK229 := n0_; have BK230 := n1_; have HB := n2_; clear n0_ n1_ n2_; (try clear hb); (try clear hb2); (try clear hk); (try clear hi)))
  go_ret
  exact ⟨zqE, zq14⟩
 rw [if_neg c4] at H
 have c4b0 : decide (t231 < 0) = false := decide_eq_false c4
 clear c4
 replace H := Option.bind_eq_some_iff.mp H
 obtain ⟨t232, A100, H⟩ := H
 replace H : (if t232 < 0 then (some true) else ((laws_toBulletin.f k a0_0 a0_1 l0_2).bind fun bt233 => ((laws_toBulletin.f k a1_0 a1_1 l1_2).bind fun bt238 => ((spec_BulletinChanges.f k bt233.1 bt233.2.1 bt233.2.2 bt238.1 bt238.2.1 bt238.2.2).bind fun bt243 => ((laws_toBulletin.f k a0_0 a0_1 l0_2).bind fun bt253 => ((laws_toBulletin.f k a1_0 a1_1 l1_2).bind fun bt259 => ((impl_BulletinChanges.f k bt253.1 bt253.2.1 bt253.2.2 bt259.1 bt259.2.1 bt259.2.2).bind fun bt265 => ((laws_eqIntS.f k bt265.1 bt243.1).bind fun t275 => (if t275 = true then ((laws_eqIntS.f k bt265.2.1 bt243.2.1).bind fun t276 => (if t276 = true then ((laws_eqIntS.f k bt265.2.2.1 bt243.2.2.1).bind fun t277 => (if t277 = true then (laws_FnExactBulletinChanges.j0 k bt243.1 bt243.2.1 bt243.2.2.1 bt243.2.2.2 bt265.1 bt265.2.1 bt265.2.2.1 bt265.2.2.2 (bt265.2.2.2 != bt243.2.2.2) a0_0 a0_1 l0_2 a1_0 a1_1 l1_2 bt253.1 bt253.2.1 bt253.2.2 bt259.1 bt259.2.1 bt259.2.2) else (none))) else (none))) else (none)))))))))) = some r := H
 have A10 := Aside0.mk A100
 clear A100
 by_cases c11 : t232 < 0
 case pos =>
  rw [if_pos c11] at H
  have c11b0 : decide (t232 < 0) = true := decide_eq_true c11
  clear c11
  obtain rfl := Option.some.inj H
  go_enter Try.func3, Try.ntmps3
  go_wp2_with (first | ((with_reducible refine gate_dst (N := 2) rfl ?_); refine box_event ?hg (N := 2) ?hd (cs := #[.int .i64 a0_0, .int .i64 a0_1, .slice A0_2 l0_2.length c0_2]) (t := 24) ?hr ?_; (case hd => rfl); (case hg => rfl); (case hr => exact zqS); intro gb229 hg w12 hbox hb; have n0_ := Aside0.mk (below_step zq0 hb); have n1_ := Aside0.mk (hbox); have n2_ := Aside0.mk ((by rw [hg]; exact (below_size zq0) : w.heap.size ≤ gb229)); have n3_ := n2_; clear HB; have HB := n0_; have BK229 := n1_; have GW229 := n2_; have GE229 := n3_; clear n0_ n1_ n2_ n3_; clear hb hbox hg) | ((with_reducible refine gate_dst (N := 3) rfl ?_); refine box_event ?hg (N := 3) ?hd (cs := #[.int .i64 a1_0, .int .i64 a1_1, .slice A1_2 l1_2.length c1_2]) (t := 24) ?hr ?_; (case hd => rfl); (case hg => rfl); (case hr => exact zqS); intro gb230 hg w13 hbox hb; have n0_ := Aside0.mk (blk_below (g := gb229) (o := .cells #[.int .i64 a0_0, .int .i64 a0_1, .slice A0_2 l0_2.length c0_2] 24 (0, 0)) (zqK BK229.out) hb); have n1_ := Aside0.mk (below_step zq30 hb); have n2_ := Aside0.mk (hbox); have n3_ := Aside0.mk ((by rw [hg]; exact (below_size zq30) : w.heap.size ≤ gb230)); have n4_ := n3_; have n5_ := Aside0.mk ((by rw [hg]; exact Nat.ne_of_lt (blk_lt (g := gb229) (o := .cells #[.int .i64 a0_0, .int .i64 a0_1, .slice A0_2 l0_2.length c0_2] 24 (0, 0)) (zqK BK229.out)) : gb229 ≠ gb230)); have n6_ := Aside0.mk ((by rw [hg]; exact Nat.ne_of_gt (blk_lt (g := gb229) (o := .cells #[.int .i64 a0_0, .int .i64 a0_1, .slice A0_2 l0_2.length c0_2] 24 (0, 0)) (zqK BK229.out)) : gb230 ≠ gb229)); clear BK229; clear HB; have BK229 := n0_; have HB := n1_; have BK230 := n2_; have GW230 := n3_; have GE230 := n4_; have NB229_230 := n5_; have NB230_229 := n6_; clear n0_ n1_ n2_ n3_ n4_ n5_ n6_; clear hb hbox hg; have hnb14 := NB229_230.out; have hnc14 := NB230_229.out; have hcz15_0 := bz BK229.out 0 (.int .i64 a0_0); have hcz15_1 := bz BK229.out 1 (.int .i64 a0_1); have hcz15_2 := bz BK229.out 2 (.slice A0_2 l0_2.length c0_2); have hfz15_0 := blk_frozen BK229.out 0; have hfz15_1 := blk_frozen BK229.out 1; have hfz15_2 := blk_frozen BK229.out 2) | ((with_reducible refine gate_callee (f := 4) rfl ?_); refine goesL_ (some 25) rfl rfl Try.func4 (by kernel_rfl) rfl #[.agg #[.int .i64 a0_0, .int .i64 a0_1, .slice A0_2 l0_2.length c0_2], .int .i64 1048576] rfl zq2 ?_; (with_reducible refine (laws_szBulletin.calls a0_0 a0_1 _ _ l0_2 1048576 t231 _ ?side1 ?side2 A3.out).mono ?_); (case side1 => exact zqC (Kd.C_below HR0_2.out HB.out)); (case side2 => exact HC0_2.out); rintro e w16 ⟨rfl, hb⟩; refine ⟨_, rfl, ?_⟩; have n0_ := Aside0.mk (blk_below (g := gb229) (o := .cells #[.int .i64 a0_0, .int .i64 a0_1, .slice A0_2 l0_2.length c0_2] 24 (0, 0)) (zqK BK229.out) hb); have n1_ := Aside0.mk (blk_below (g := gb230) (o := .cells #[.int .i64 a1_0, .int .i64 a1_1, .slice A1_2 l1_2.length c1_2] 24 (0, 0)) (zqK BK230.out) hb); have n2_ := Aside0.mk (below_step zq14 hb); clear BK229; clear BK230; clear HB; have BK229 := n0_; have BK230 := n1_; have HB := n2_; clear n0_ n1_ n2_; (try clear hb); (try clear hb2); (try clear hk); (try clear hi); have hcz17_0 := bz BK230.out 0 (.int .i64 a1_0); have hcz17_1 := bz BK230.out 1 (.int .i64 a1_1); have hcz17_2 := bz BK230.out 2 (.slice A1_2 l1_2.length c1_2); have hfz17_0 := blk_frozen BK230.out 0; have hfz17_1 := blk_frozen BK230.out 1; have hfz17_2 := blk_frozen BK230.out 2) | ((with_reducible refine gate_callee (f := 4) rfl ?_); refine goesL_ (some 30) rfl rfl Try.func4 (by kernel_rfl) rfl #[.agg #[.int .i64 a1_0, .int .i64 a1_1, .slice A1_2 l1_2.length c1_2], .int .i64 t231] rfl zq2 ?_; (with_reducible refine (laws_szBulletin.calls a1_0 a1_1 _ _ l1_2 t231 t232 _ ?side1 ?side2 A10.out).mono ?_); (case side1 => exact zqC (Kd.C_below HR1_2.out HB.out)); (case side2 => exact HC1_2.out); rintro e w18 ⟨rfl, hb⟩; refine ⟨_, rfl, ?_⟩; have n0_ := Aside0.mk (blk_below (g := gb229) (o := .cells #[.int .i64 a0_0, .int .i64 a0_1, .slice A0_2 l0_2.length c0_2] 24 (0, 0)) (zqK BK229.out) hb); have n1_ := Aside0.mk (blk_below (g := gb230) (o := .cells #[.int .i64 a1_0, .int .i64 a1_1, .slice A1_2 l1_2.length c1_2] 24 (0, 0)) (zqK BK230.out) hb); have n2_ := Aside0.mk (below_step zq14 hb); clear BK229; clear BK230; clear HB; have BK229 := n0_; have BK230 := n1_; have HB := n2_; clear n0_ n1_ n2_; (try clear hb); (try clear hb2); (try clear hk); (try clear hi)))
  go_ret
  exact ⟨zqE, zq14⟩
 rw [if_neg c11] at H
 have c11b0 : decide (t232 < 0) = false := decide_eq_false c11
 clear c11
 replace H := Option.bind_eq_some_iff.mp H
 obtain ⟨⟨t233, t234, t235⟩, A190, H⟩ := H
 replace H : ((laws_toBulletin.f k a1_0 a1_1 l1_2).bind fun bt238 => ((spec_BulletinChanges.f k t233 t234 t235 bt238.1 bt238.2.1 bt238.2.2).bind fun bt243 => ((laws_toBulletin.f k a0_0 a0_1 l0_2).bind fun bt253 => ((laws_toBulletin.f k a1_0 a1_1 l1_2).bind fun bt259 => ((impl_BulletinChanges.f k bt253.1 bt253.2.1 bt253.2.2 bt259.1 bt259.2.1 bt259.2.2).bind fun bt265 => ((laws_eqIntS.f k bt265.1 bt243.1).bind fun t275 => (if t275 = true then ((laws_eqIntS.f k bt265.2.1 bt243.2.1).bind fun t276 => (if t276 = true then ((laws_eqIntS.f k bt265.2.2.1 bt243.2.2.1).bind fun t277 => (if t277 = true then (laws_FnExactBulletinChanges.j0 k bt243.1 bt243.2.1 bt243.2.2.1 bt243.2.2.2 bt265.1 bt265.2.1 bt265.2.2.1 bt265.2.2.2 (bt265.2.2.2 != bt243.2.2.2) a0_0 a0_1 l0_2 a1_0 a1_1 l1_2 bt253.1 bt253.2.1 bt253.2.2 bt259.1 bt259.2.1 bt259.2.2) else (none))) else (none))) else (none)))))))) = some r := H
 have A19 := Aside0.mk A190
 clear A190
 replace H := Option.bind_eq_some_iff.mp H
 obtain ⟨⟨t238, t239, t240⟩, A200, H⟩ := H
 replace H : ((spec_BulletinChanges.f k t233 t234 t235 t238 t239 t240).bind fun bt243 => ((laws_toBulletin.f k a0_0 a0_1 l0_2).bind fun bt253 => ((laws_toBulletin.f k a1_0 a1_1 l1_2).bind fun bt259 => ((impl_BulletinChanges.f k bt253.1 bt253.2.1 bt253.2.2 bt259.1 bt259.2.1 bt259.2.2).bind fun bt265 => ((laws_eqIntS.f k bt265.1 bt243.1).bind fun t275 => (if t275 = true then ((laws_eqIntS.f k bt265.2.1 bt243.2.1).bind fun t276 => (if t276 = true then ((laws_eqIntS.f k bt265.2.2.1 bt243.2.2.1).bind fun t277 => (if t277 = true then (laws_FnExactBulletinChanges.j0 k bt243.1 bt243.2.1 bt243.2.2.1 bt243.2.2.2 bt265.1 bt265.2.1 bt265.2.2.1 bt265.2.2.2 (bt265.2.2.2 != bt243.2.2.2) a0_0 a0_1 l0_2 a1_0 a1_1 l1_2 bt253.1 bt253.2.1 bt253.2.2 bt259.1 bt259.2.1 bt259.2.2) else (none))) else (none))) else (none))))))) = some r := H
 have A20 := Aside0.mk A200
 clear A200
 replace H := Option.bind_eq_some_iff.mp H
 obtain ⟨⟨t243, t246, t249, t252⟩, A210, H⟩ := H
 replace H : ((laws_toBulletin.f k a0_0 a0_1 l0_2).bind fun bt253 => ((laws_toBulletin.f k a1_0 a1_1 l1_2).bind fun bt259 => ((impl_BulletinChanges.f k bt253.1 bt253.2.1 bt253.2.2 bt259.1 bt259.2.1 bt259.2.2).bind fun bt265 => ((laws_eqIntS.f k bt265.1 t243).bind fun t275 => (if t275 = true then ((laws_eqIntS.f k bt265.2.1 t246).bind fun t276 => (if t276 = true then ((laws_eqIntS.f k bt265.2.2.1 t249).bind fun t277 => (if t277 = true then (laws_FnExactBulletinChanges.j0 k t243 t246 t249 t252 bt265.1 bt265.2.1 bt265.2.2.1 bt265.2.2.2 (bt265.2.2.2 != t252) a0_0 a0_1 l0_2 a1_0 a1_1 l1_2 bt253.1 bt253.2.1 bt253.2.2 bt259.1 bt259.2.1 bt259.2.2) else (none))) else (none))) else (none)))))) = some r := H
 have A21 := Aside0.mk A210
 clear A210
 replace H := Option.bind_eq_some_iff.mp H
 obtain ⟨⟨t253, t254, t255⟩, A220, H⟩ := H
 replace H : ((laws_toBulletin.f k a1_0 a1_1 l1_2).bind fun bt259 => ((impl_BulletinChanges.f k t253 t254 t255 bt259.1 bt259.2.1 bt259.2.2).bind fun bt265 => ((laws_eqIntS.f k bt265.1 t243).bind fun t275 => (if t275 = true then ((laws_eqIntS.f k bt265.2.1 t246).bind fun t276 => (if t276 = true then ((laws_eqIntS.f k bt265.2.2.1 t249).bind fun t277 => (if t277 = true then (laws_FnExactBulletinChanges.j0 k t243 t246 t249 t252 bt265.1 bt265.2.1 bt265.2.2.1 bt265.2.2.2 (bt265.2.2.2 != t252) a0_0 a0_1 l0_2 a1_0 a1_1 l1_2 t253 t254 t255 bt259.1 bt259.2.1 bt259.2.2) else (none))) else (none))) else (none))))) = some r := H
 have A22 := Aside0.mk A220
 clear A220
 replace H := Option.bind_eq_some_iff.mp H
 obtain ⟨⟨t259, t260, t261⟩, A230, H⟩ := H
 replace H : ((impl_BulletinChanges.f k t253 t254 t255 t259 t260 t261).bind fun bt265 => ((laws_eqIntS.f k bt265.1 t243).bind fun t275 => (if t275 = true then ((laws_eqIntS.f k bt265.2.1 t246).bind fun t276 => (if t276 = true then ((laws_eqIntS.f k bt265.2.2.1 t249).bind fun t277 => (if t277 = true then (laws_FnExactBulletinChanges.j0 k t243 t246 t249 t252 bt265.1 bt265.2.1 bt265.2.2.1 bt265.2.2.2 (bt265.2.2.2 != t252) a0_0 a0_1 l0_2 a1_0 a1_1 l1_2 t253 t254 t255 t259 t260 t261) else (none))) else (none))) else (none)))) = some r := H
 have A23 := Aside0.mk A230
 clear A230
 replace H := Option.bind_eq_some_iff.mp H
 obtain ⟨⟨t265, t268, t271, t274⟩, A240, H⟩ := H
 replace H : ((laws_eqIntS.f k t265 t243).bind fun t275 => (if t275 = true then ((laws_eqIntS.f k t268 t246).bind fun t276 => (if t276 = true then ((laws_eqIntS.f k t271 t249).bind fun t277 => (if t277 = true then (laws_FnExactBulletinChanges.j0 k t243 t246 t249 t252 t265 t268 t271 t274 (t274 != t252) a0_0 a0_1 l0_2 a1_0 a1_1 l1_2 t253 t254 t255 t259 t260 t261) else (none))) else (none))) else (none))) = some r := H
 have A24 := Aside0.mk A240
 clear A240
 have HC25 := Aside0.mk H
 clear H
 go_enter Try.func3, Try.ntmps3
 try go_wp2_with (first | ((with_reducible refine gate_dst (N := 2) rfl ?_); refine box_event ?hg (N := 2) ?hd (cs := #[.int .i64 a0_0, .int .i64 a0_1, .slice A0_2 l0_2.length c0_2]) (t := 24) ?hr ?_; (case hd => rfl); (case hg => rfl); (case hr => exact zqS); intro gb229 hg w26 hbox hb; have n0_ := Aside0.mk (below_step zq0 hb); have n1_ := Aside0.mk (hbox); have n2_ := Aside0.mk ((by rw [hg]; exact (below_size zq0) : w.heap.size ≤ gb229)); have n3_ := n2_; clear HB; have HB := n0_; have BK229 := n1_; have GW229 := n2_; have GE229 := n3_; clear n0_ n1_ n2_ n3_; clear hb hbox hg) | ((with_reducible refine gate_dst (N := 3) rfl ?_); refine box_event ?hg (N := 3) ?hd (cs := #[.int .i64 a1_0, .int .i64 a1_1, .slice A1_2 l1_2.length c1_2]) (t := 24) ?hr ?_; (case hd => rfl); (case hg => rfl); (case hr => exact zqS); intro gb230 hg w27 hbox hb; have n0_ := Aside0.mk (blk_below (g := gb229) (o := .cells #[.int .i64 a0_0, .int .i64 a0_1, .slice A0_2 l0_2.length c0_2] 24 (0, 0)) (zqK BK229.out) hb); have n1_ := Aside0.mk (below_step zq30 hb); have n2_ := Aside0.mk (hbox); have n3_ := Aside0.mk ((by rw [hg]; exact (below_size zq30) : w.heap.size ≤ gb230)); have n4_ := n3_; have n5_ := Aside0.mk ((by rw [hg]; exact Nat.ne_of_lt (blk_lt (g := gb229) (o := .cells #[.int .i64 a0_0, .int .i64 a0_1, .slice A0_2 l0_2.length c0_2] 24 (0, 0)) (zqK BK229.out)) : gb229 ≠ gb230)); have n6_ := Aside0.mk ((by rw [hg]; exact Nat.ne_of_gt (blk_lt (g := gb229) (o := .cells #[.int .i64 a0_0, .int .i64 a0_1, .slice A0_2 l0_2.length c0_2] 24 (0, 0)) (zqK BK229.out)) : gb230 ≠ gb229)); clear BK229; clear HB; have BK229 := n0_; have HB := n1_; have BK230 := n2_; have GW230 := n3_; have GE230 := n4_; have NB229_230 := n5_; have NB230_229 := n6_; clear n0_ n1_ n2_ n3_ n4_ n5_ n6_; clear hb hbox hg; have hnb28 := NB229_230.out; have hnc28 := NB230_229.out; have hcz29_0 := bz BK229.out 0 (.int .i64 a0_0); have hcz29_1 := bz BK229.out 1 (.int .i64 a0_1); have hcz29_2 := bz BK229.out 2 (.slice A0_2 l0_2.length c0_2); have hfz29_0 := blk_frozen BK229.out 0; have hfz29_1 := blk_frozen BK229.out 1; have hfz29_2 := blk_frozen BK229.out 2) | ((with_reducible refine gate_callee (f := 4) rfl ?_); refine goesL_ (some 25) rfl rfl Try.func4 (by kernel_rfl) rfl #[.agg #[.int .i64 a0_0, .int .i64 a0_1, .slice A0_2 l0_2.length c0_2], .int .i64 1048576] rfl zq2 ?_; (with_reducible refine (laws_szBulletin.calls a0_0 a0_1 _ _ l0_2 1048576 t231 _ ?side1 ?side2 A3.out).mono ?_); (case side1 => exact zqC (Kd.C_below HR0_2.out HB.out)); (case side2 => exact HC0_2.out); rintro e w30 ⟨rfl, hb⟩; refine ⟨_, rfl, ?_⟩; have n0_ := Aside0.mk (blk_below (g := gb229) (o := .cells #[.int .i64 a0_0, .int .i64 a0_1, .slice A0_2 l0_2.length c0_2] 24 (0, 0)) (zqK BK229.out) hb); have n1_ := Aside0.mk (blk_below (g := gb230) (o := .cells #[.int .i64 a1_0, .int .i64 a1_1, .slice A1_2 l1_2.length c1_2] 24 (0, 0)) (zqK BK230.out) hb); have n2_ := Aside0.mk (below_step zq14 hb); clear BK229; clear BK230; clear HB; have BK229 := n0_; have BK230 := n1_; have HB := n2_; clear n0_ n1_ n2_; (try clear hb); (try clear hb2); (try clear hk); (try clear hi); have hcz31_0 := bz BK230.out 0 (.int .i64 a1_0); have hcz31_1 := bz BK230.out 1 (.int .i64 a1_1); have hcz31_2 := bz BK230.out 2 (.slice A1_2 l1_2.length c1_2); have hfz31_0 := blk_frozen BK230.out 0; have hfz31_1 := blk_frozen BK230.out 1; have hfz31_2 := blk_frozen BK230.out 2) | ((with_reducible refine gate_callee (f := 4) rfl ?_); refine goesL_ (some 30) rfl rfl Try.func4 (by kernel_rfl) rfl #[.agg #[.int .i64 a1_0, .int .i64 a1_1, .slice A1_2 l1_2.length c1_2], .int .i64 t231] rfl zq2 ?_; (with_reducible refine (laws_szBulletin.calls a1_0 a1_1 _ _ l1_2 t231 t232 _ ?side1 ?side2 A10.out).mono ?_); (case side1 => exact zqC (Kd.C_below HR1_2.out HB.out)); (case side2 => exact HC1_2.out); rintro e w32 ⟨rfl, hb⟩; refine ⟨_, rfl, ?_⟩; have n0_ := Aside0.mk (blk_below (g := gb229) (o := .cells #[.int .i64 a0_0, .int .i64 a0_1, .slice A0_2 l0_2.length c0_2] 24 (0, 0)) (zqK BK229.out) hb); have n1_ := Aside0.mk (blk_below (g := gb230) (o := .cells #[.int .i64 a1_0, .int .i64 a1_1, .slice A1_2 l1_2.length c1_2] 24 (0, 0)) (zqK BK230.out) hb); have n2_ := Aside0.mk (below_step zq14 hb); clear BK229; clear BK230; clear HB; have BK229 := n0_; have BK230 := n1_; have HB := n2_; clear n0_ n1_ n2_; (try clear hb); (try clear hb2); (try clear hk); (try clear hi)))
 have n0_ := Aside0.mk (blk_drew BK229.out)
 have n1_ := Aside0.mk (blk_drew BK230.out)
 have n2_ := Aside0.mk (below_drew1 HB.out)
 clear BK229
 clear BK230
 clear HB
 have BK229 := n0_
 have BK230 := n1_
 have HB := n2_
 clear n0_ n1_ n2_
 refine start_ (n := 14) (S := fun w' => w'.cell? ⟨gb229, 0, none⟩ = some (.int .i64 a0_0) ∧ w'.cell? ⟨gb229, 1, none⟩ = some (.int .i64 a0_1) ∧ w'.cell? ⟨gb229, 2, none⟩ = some (.slice A0_2 l0_2.length c0_2) ∧ w'.cell? ⟨gb230, 0, none⟩ = some (.int .i64 a1_0) ∧ w'.cell? ⟨gb230, 1, none⟩ = some (.int .i64 a1_1) ∧ w'.cell? ⟨gb230, 2, none⟩ = some (.slice A1_2 l1_2.length c1_2)) (ds := []) #[false, false, false, false, false, false, false, false, false, false, false, false, false, false] (by kernel_rfl) rfl rfl ⟨(blk_cell BK229.out 0).trans rfl, (blk_cell BK229.out 1).trans rfl, (blk_cell BK229.out 2).trans rfl, (blk_cell BK230.out 0).trans rfl, (blk_cell BK230.out 1).trans rfl, (blk_cell BK230.out 2).trans rfl⟩ (fun hHeld => ?_); refine with_tabW laws_FnExactBulletinChanges.tab8 laws_FnExactBulletinChanges.bits8 (fun HT_ HW_ => ?_)
 generalize w32.drew = w33 at BK229 BK230 HB hHeld ⊢
 refine take_ (i := 0) (N := some 34) (v := ?_) (a' := ?_) #[true, false, false, false, false, false, false, false, false, false, false, false, false, false] rfl rfl (take_ofW HT_.out HW_.out (by kernel_rfl)) (fun _ _ _ h => h) (Or.inl ⟨by rfl, ?_⟩) hHeld ?_ ?_
 rotate_left
 ·
  rintro w' ⟨s0, s1, s2, s3, s4, s5⟩
  go_simp
  with_reducible rfl
 rotate_left; · exact zqA
 refine take_ (i := 2) (N := some 36) (v := ?_) (a' := ?_) #[true, false, true, false, false, false, false, false, false, false, false, false, false, false] rfl rfl (take_ofW HT_.out HW_.out (by kernel_rfl)) (fun _ _ _ h => h) (Or.inl ⟨by rfl, ?_⟩) hHeld ?_ ?_
 rotate_left
 ·
  rintro w' ⟨s0, s1, s2, s3, s4, s5⟩
  go_simp
  with_reducible rfl
 rotate_left; · exact zqA
 refine one_ (i := 1) (N := some 35) #[true, true, true, false, false, false, false, false, false, false, false, false, false, false] rfl rfl (one_of HT_.out (by kernel_rfl)) (by decide) (fun K hK => ?_)
 refine goes_ Try.func6 (by kernel_rfl) rfl #[.agg #[.int .i64 a0_0, .int .i64 a0_1, .slice A0_2 l0_2.length c0_2]] (by rfl) rfl rfl zq2 ?_
 with_reducible refine (laws_toBulletin.calls k a0_0 a0_1 _ _ l0_2 t233 t234 t235 _ ?side1 ?side2 A19.out).mono ?_
 (case side1 => exact zqC (Kd.C_below HR0_2.out HB.out))
 (case side2 => exact HC0_2.out)
 rintro e w34 ⟨v236, rfl, ho0, hb⟩
 refine ⟨_, rfl, ?_⟩
 have n0_ := Aside0.mk (Kd.R_lower ho0 (below_size zq14))
 have n1_ := Aside0.mk (blk_below (g := gb229) (o := .cells #[.int .i64 a0_0, .int .i64 a0_1, .slice A0_2 l0_2.length c0_2] 24 (0, 0)) (zqK BK229.out) hb)
 have n2_ := Aside0.mk (blk_below (g := gb230) (o := .cells #[.int .i64 a1_0, .int .i64 a1_1, .slice A1_2 l1_2.length c1_2] 24 (0, 0)) (zqK BK230.out) hb)
 have n3_ := Aside0.mk (below_step zq14 hb)
 clear BK229
 clear BK230
 clear HB
 have HO237 := n0_
 have BK229 := n1_
 have BK230 := n2_
 have HB := n3_
 clear n0_ n1_ n2_ n3_
 (try clear hb)
 (try clear hb2)
 (try clear hk)
 (try clear hi)
 (try clear ho0)
 refine hK.out _ _ ⟨(blk_cell BK229.out 0).trans rfl, (blk_cell BK229.out 1).trans rfl, (blk_cell BK229.out 2).trans rfl, (blk_cell BK230.out 0).trans rfl, (blk_cell BK230.out 1).trans rfl, (blk_cell BK230.out 2).trans rfl⟩ (fun hHeld => ?_)
 clear hK K
 refine norm_ (a' := ?_) ?_ ?_
 rotate_left
 ·
  show Act.put _ (some 35) _ = _
  simp only [Act.put, List.setIfInBounds_toArray, List.set_cons_zero, List.set_cons_succ, i64_w, i32_w]
  rfl
 refine one_ (i := 3) (N := some 37) #[true, true, true, true, false, false, false, false, false, false, false, false, false, false] rfl rfl (one_of HT_.out (by kernel_rfl)) (by decide) (fun K hK => ?_)
 refine goes_ Try.func6 (by kernel_rfl) rfl #[.agg #[.int .i64 a1_0, .int .i64 a1_1, .slice A1_2 l1_2.length c1_2]] (by rfl) rfl rfl zq2 ?_
 with_reducible refine (laws_toBulletin.calls k a1_0 a1_1 _ _ l1_2 t238 t239 t240 _ ?side1 ?side2 A20.out).mono ?_
 (case side1 => exact zqC (Kd.C_below HR1_2.out HB.out))
 (case side2 => exact HC1_2.out)
 rintro e w35 ⟨v241, rfl, ho0, hb⟩
 refine ⟨_, rfl, ?_⟩
 have n0_ := Aside0.mk (Kd.R_elder' (zqR HO237.out) (Kd.R_base ho0) hb)
 have n1_ := Aside0.mk (Kd.R_lower (Kd.R_new' ho0 (Kd.R_lt (zqR HO237.out))) (below_size zq14))
 have n2_ := Aside0.mk (blk_below (g := gb229) (o := .cells #[.int .i64 a0_0, .int .i64 a0_1, .slice A0_2 l0_2.length c0_2] 24 (0, 0)) (zqK BK229.out) hb)
 have n3_ := Aside0.mk (blk_below (g := gb230) (o := .cells #[.int .i64 a1_0, .int .i64 a1_1, .slice A1_2 l1_2.length c1_2] 24 (0, 0)) (zqK BK230.out) hb)
 have n4_ := Aside0.mk (below_step zq14 hb)
 clear HO237
 clear BK229
 clear BK230
 clear HB
 have HO237 := n0_
 have HO242 := n1_
 have BK229 := n2_
 have BK230 := n3_
 have HB := n4_
 clear n0_ n1_ n2_ n3_ n4_
 (try clear hb)
 (try clear hb2)
 (try clear hk)
 (try clear hi)
 (try clear ho0)
 obtain ⟨Ao36, co36, eo36⟩ := Kd.R_slice HO237.out
 (first | subst eo36 | (injection eo36 with f1_ f2_ f3_; have f4_ := f1_.symm; have f5_ := f3_.symm; clear f1_ f2_ f3_; subst f4_; subst f5_))
 obtain ⟨Ao37, co37, eo37⟩ := Kd.R_slice HO242.out
 (first | subst eo37 | (injection eo37 with f1_ f2_ f3_; have f4_ := f1_.symm; have f5_ := f3_.symm; clear f1_ f2_ f3_; subst f4_; subst f5_))
 refine hK.out _ _ ⟨(blk_cell BK229.out 0).trans rfl, (blk_cell BK229.out 1).trans rfl, (blk_cell BK229.out 2).trans rfl, (blk_cell BK230.out 0).trans rfl, (blk_cell BK230.out 1).trans rfl, (blk_cell BK230.out 2).trans rfl⟩ (fun hHeld => ?_)
 clear hK K
 refine norm_ (a' := ?_) ?_ ?_
 rotate_left
 ·
  show Act.put _ (some 37) _ = _
  simp only [Act.put, List.setIfInBounds_toArray, List.set_cons_zero, List.set_cons_succ, i64_w, i32_w]
  rfl
 refine one_ (i := 4) (N := some 38) #[true, true, true, true, true, false, false, false, false, false, false, false, false, false] rfl rfl (one_of HT_.out (by kernel_rfl)) (by decide) (fun K hK => ?_)
 refine goes_ Try.func5 (by kernel_rfl) rfl #[.agg #[.int .i64 t233, .int .i64 t234, .slice Ao36 t235.length co36], .agg #[.int .i64 t238, .int .i64 t239, .slice Ao37 t240.length co37]] (by rfl) rfl rfl zq2 ?_
 with_reducible refine (spec_BulletinChanges.calls k t233 t234 _ _ t235 t238 t239 _ _ t240 t243 t246 t249 t252 _ ?side1 ?side2 ?side3 ?side4 A21.out).mono ?_
 (case side1 => exact zqC (Kd.R_reads' HO237.out).2.2)
 (case side2 => exact (Kd.R_reads' HO237.out).2.1)
 (case side3 => exact zqC (Kd.R_reads' HO242.out).2.2)
 (case side4 => exact (Kd.R_reads' HO242.out).2.1)
 rintro e w38 ⟨v244, v247, v250, rfl, ho0, ho1, ho2, hb⟩
 refine ⟨_, rfl, ?_⟩
 have n0_ := Aside0.mk (Kd.R_below (zqR HO237.out) hb)
 have n1_ := Aside0.mk (Kd.R_below (zqR HO242.out) hb)
 have n2_ := Aside0.mk (Kd.R_lower ho0 (below_size zq14))
 have n3_ := Aside0.mk (Kd.R_lower ho1 (below_size zq14))
 have n4_ := Aside0.mk (Kd.R_lower ho2 (below_size zq14))
 have n5_ := Aside0.mk (blk_below (g := gb229) (o := .cells #[.int .i64 a0_0, .int .i64 a0_1, .slice A0_2 l0_2.length c0_2] 24 (0, 0)) (zqK BK229.out) hb)
 have n6_ := Aside0.mk (blk_below (g := gb230) (o := .cells #[.int .i64 a1_0, .int .i64 a1_1, .slice A1_2 l1_2.length c1_2] 24 (0, 0)) (zqK BK230.out) hb)
 have n7_ := Aside0.mk (below_step zq14 hb)
 clear HO237
 clear HO242
 clear BK229
 clear BK230
 clear HB
 have HO237 := n0_
 have HO242 := n1_
 have HO245 := n2_
 have HO248 := n3_
 have HO251 := n4_
 have BK229 := n5_
 have BK230 := n6_
 have HB := n7_
 clear n0_ n1_ n2_ n3_ n4_ n5_ n6_ n7_
 (try clear hb)
 (try clear hb2)
 (try clear hk)
 (try clear hi)
 (try clear ho0)
 (try clear ho1)
 (try clear ho2)
 refine hK.out _ _ ⟨(blk_cell BK229.out 0).trans rfl, (blk_cell BK229.out 1).trans rfl, (blk_cell BK229.out 2).trans rfl, (blk_cell BK230.out 0).trans rfl, (blk_cell BK230.out 1).trans rfl, (blk_cell BK230.out 2).trans rfl⟩ (fun hHeld => ?_)
 clear hK K
 refine norm_ (a' := ?_) ?_ ?_
 rotate_left
 ·
  show Act.put _ (some 38) _ = _
  simp only [Act.put, List.setIfInBounds_toArray, List.set_cons_zero, List.set_cons_succ, i64_w, i32_w]
  rfl
 refine pure_ (i := 5) (N := some 33) (v := ?_) (a' := ?_) #[true, true, true, true, true, true, false, false, false, false, false, false, false, false] rfl rfl (any_of HT_.out (by kernel_rfl)) (fun _ _ _ h => h) (Or.inl ⟨by rfl, ?_⟩) ?_ ?_
 rotate_left; · exact zqB
 rotate_left; · exact zqA
 refine pure_ (i := 6) (N := some 39) (v := ?_) (a' := ?_) #[true, true, true, true, true, true, true, false, false, false, false, false, false, false] rfl rfl (any_of HT_.out (by kernel_rfl)) (fun _ _ _ h => h) (Or.inl ⟨by rfl, ?_⟩) ?_ ?_
 rotate_left; · exact zqB
 rotate_left; · exact zqA
 refine pure_ (i := 7) (N := some 40) (v := ?_) (a' := ?_) #[true, true, true, true, true, true, true, true, false, false, false, false, false, false] rfl rfl (any_of HT_.out (by kernel_rfl)) (fun _ _ _ h => h) (Or.inl ⟨by rfl, ?_⟩) ?_ ?_
 rotate_left; · exact zqB
 rotate_left; · exact zqA
 refine pure_ (i := 8) (N := some 41) (v := ?_) (a' := ?_) #[true, true, true, true, true, true, true, true, true, false, false, false, false, false] rfl rfl (any_of HT_.out (by kernel_rfl)) (fun _ _ _ h => h) (Or.inl ⟨by rfl, ?_⟩) ?_ ?_
 rotate_left; · exact zqB
 rotate_left; · exact zqA
 refine pure_ (i := 9) (N := some 42) (v := ?_) (a' := ?_) #[true, true, true, true, true, true, true, true, true, true, false, false, false, false] rfl rfl (any_of HT_.out (by kernel_rfl)) (fun _ _ _ h => h) (Or.inl ⟨by rfl, ?_⟩) ?_ ?_
 rotate_left; · exact zqB
 rotate_left; · exact zqA
 refine pure_ (i := 10) (N := some 6) (v := ?_) (a' := ?_) #[true, true, true, true, true, true, true, true, true, true, true, false, false, false] rfl rfl (any_of HT_.out (by kernel_rfl)) (fun _ _ _ h => h) (Or.inl ⟨by rfl, ?_⟩) ?_ ?_
 rotate_left; · exact zqB
 rotate_left; · exact zqA
 refine pure_ (i := 11) (N := some 7) (v := ?_) (a' := ?_) #[true, true, true, true, true, true, true, true, true, true, true, true, false, false] rfl rfl (any_of HT_.out (by kernel_rfl)) (fun _ _ _ h => h) (Or.inl ⟨by rfl, ?_⟩) ?_ ?_
 rotate_left; · exact zqB
 rotate_left; · exact zqA
 refine pure_ (i := 12) (N := some 8) (v := ?_) (a' := ?_) #[true, true, true, true, true, true, true, true, true, true, true, true, true, false] rfl rfl (any_of HT_.out (by kernel_rfl)) (fun _ _ _ h => h) (Or.inl ⟨by rfl, ?_⟩) ?_ ?_
 rotate_left; · exact zqB
 rotate_left; · exact zqA
 refine pure_ (i := 13) (N := some 9) (v := ?_) (a' := ?_) #[true, true, true, true, true, true, true, true, true, true, true, true, true, true] rfl rfl (any_of HT_.out (by kernel_rfl)) (fun _ _ _ h => h) (Or.inl ⟨by rfl, ?_⟩) ?_ ?_
 rotate_left; · exact zqB
 rotate_left; · exact zqA
 refine done_ (done_of HT_.out (by kernel_rfl)) ?_
 have hcz39_0 := bz BK229.out 0 (.int .i64 a0_0)
 have hcz39_1 := bz BK229.out 1 (.int .i64 a0_1)
 have hcz39_2 := bz BK229.out 2 (.slice A0_2 l0_2.length c0_2)
 have hfz39_0 := blk_frozen BK229.out 0
 have hfz39_1 := blk_frozen BK229.out 1
 have hfz39_2 := blk_frozen BK229.out 2
 go_upto_region 12 with (first | ((with_reducible refine gate_callee (f := 6) rfl ?_); refine goesL_ (some 44) rfl rfl Try.func6 (by kernel_rfl) rfl #[.agg #[.int .i64 a0_0, .int .i64 a0_1, .slice A0_2 l0_2.length c0_2]] rfl zq2 ?_; (with_reducible refine (laws_toBulletin.calls k a0_0 a0_1 _ _ l0_2 t253 t254 t255 _ ?side1 ?side2 A22.out).mono ?_); (case side1 => exact zqC (Kd.C_below HR0_2.out HB.out)); (case side2 => exact HC0_2.out); rintro e w40 ⟨v256, rfl, ho0, hb⟩; refine ⟨_, rfl, ?_⟩; have n0_ := Aside0.mk (Kd.R_elder' (zqR HO237.out) (Kd.R_base ho0) hb); have n1_ := Aside0.mk (Kd.R_elder' (zqR HO242.out) (Kd.R_base ho0) hb); have n2_ := Aside0.mk (Kd.R_below (zqR HO245.out) hb); have n3_ := Aside0.mk (Kd.R_below (zqR HO248.out) hb); have n4_ := Aside0.mk (Kd.R_below (zqR HO251.out) hb); have n5_ := Aside0.mk (Kd.R_lower (Kd.R_new' (Kd.R_new' ho0 (Kd.R_lt (zqR HO237.out))) (Kd.R_lt (zqR HO242.out))) (below_size zq14)); have n6_ := Aside0.mk (blk_below (g := gb229) (o := .cells #[.int .i64 a0_0, .int .i64 a0_1, .slice A0_2 l0_2.length c0_2] 24 (0, 0)) (zqK BK229.out) hb); have n7_ := Aside0.mk (blk_below (g := gb230) (o := .cells #[.int .i64 a1_0, .int .i64 a1_1, .slice A1_2 l1_2.length c1_2] 24 (0, 0)) (zqK BK230.out) hb); have n8_ := Aside0.mk (below_step zq14 hb); clear HO237; clear HO242; clear HO245; clear HO248; clear HO251; clear BK229; clear BK230; clear HB; have HO237 := n0_; have HO242 := n1_; have HO245 := n2_; have HO248 := n3_; have HO251 := n4_; have HO257 := n5_; have BK229 := n6_; have BK230 := n7_; have HB := n8_; clear n0_ n1_ n2_ n3_ n4_ n5_ n6_ n7_ n8_; (try clear hb); (try clear hb2); (try clear hk); (try clear hi); (try clear ho0)) | ((with_reducible refine gate_dst (N := 10) rfl ?_); refine box_event ?hg (N := 10) ?hd (cs := #[.int .i64 0, .int .i64 0, .slice none 0 0]) (t := 31) ?hr ?_; (case hd => rfl); (case hg => rfl); (case hr => exact zqS); intro gb258 hg w41 hbox hb; have n0_ := Aside0.mk (Kd.R_below (zqR HO237.out) hb); have n1_ := Aside0.mk (Kd.R_below (zqR HO242.out) hb); have n2_ := Aside0.mk (Kd.R_below (zqR HO245.out) hb); have n3_ := Aside0.mk (Kd.R_below (zqR HO248.out) hb); have n4_ := Aside0.mk (Kd.R_below (zqR HO251.out) hb); have n5_ := Aside0.mk (Kd.R_below (zqR HO257.out) hb); have n6_ := Aside0.mk (blk_below (g := gb229) (o := .cells #[.int .i64 a0_0, .int .i64 a0_1, .slice A0_2 l0_2.length c0_2] 24 (0, 0)) (zqK BK229.out) hb); have n7_ := Aside0.mk (blk_below (g := gb230) (o := .cells #[.int .i64 a1_0, .int .i64 a1_1, .slice A1_2 l1_2.length c1_2] 24 (0, 0)) (zqK BK230.out) hb); have n8_ := Aside0.mk (below_step zq14 hb); have n9_ := Aside0.mk (hbox); have n10_ := Aside0.mk ((by rw [hg]; exact (below_size zq14) : w.heap.size ≤ gb258)); have n11_ := Aside0.mk ((by rw [hg]; exact (below_size zq14) : w.heap.size ≤ gb258)); have n12_ := Aside0.mk ((by rw [hg]; exact Nat.ne_of_lt (blk_lt (g := gb229) (o := .cells #[.int .i64 a0_0, .int .i64 a0_1, .slice A0_2 l0_2.length c0_2] 24 (0, 0)) (zqK BK229.out)) : gb229 ≠ gb258)); have n13_ := Aside0.mk ((by rw [hg]; exact Nat.ne_of_gt (blk_lt (g := gb229) (o := .cells #[.int .i64 a0_0, .int .i64 a0_1, .slice A0_2 l0_2.length c0_2] 24 (0, 0)) (zqK BK229.out)) : gb258 ≠ gb229)); have n14_ := Aside0.mk ((by rw [hg]; exact Nat.ne_of_lt (blk_lt (g := gb230) (o := .cells #[.int .i64 a1_0, .int .i64 a1_1, .slice A1_2 l1_2.length c1_2] 24 (0, 0)) (zqK BK230.out)) : gb230 ≠ gb258)); have n15_ := Aside0.mk ((by rw [hg]; exact Nat.ne_of_gt (blk_lt (g := gb230) (o := .cells #[.int .i64 a1_0, .int .i64 a1_1, .slice A1_2 l1_2.length c1_2] 24 (0, 0)) (zqK BK230.out)) : gb258 ≠ gb230)); clear HO237; clear HO242; clear HO245; clear HO248; clear HO251; clear HO257; clear BK229; clear BK230; clear HB; have HO237 := n0_; have HO242 := n1_; have HO245 := n2_; have HO248 := n3_; have HO251 := n4_; have HO257 := n5_; have BK229 := n6_; have BK230 := n7_; have HB := n8_; have BK258 := n9_; have GW258 := n10_; have GE258 := n11_; have NB229_258 := n12_; have NB258_229 := n13_; have NB230_258 := n14_; have NB258_230 := n15_; clear n0_ n1_ n2_ n3_ n4_ n5_ n6_ n7_ n8_ n9_ n10_ n11_ n12_ n13_ n14_ n15_; clear hb hbox hg; have hnb42 := NB258_229.out; have hnc42 := NB229_258.out; have hnb43 := NB258_230.out; have hnc43 := NB230_258.out; have hcz44_0 := bz BK258.out 0 (.int .i64 0); have hcz44_1 := bz BK258.out 1 (.int .i64 0); have hcz44_2 := bz BK258.out 2 (.slice none 0 0); have hfz44_0 := blk_frozen BK258.out 0; have hfz44_1 := blk_frozen BK258.out 1; have hfz44_2 := blk_frozen BK258.out 2; obtain ⟨Ao45, co45, eo45⟩ := Kd.R_slice HO257.out; subst eo45; have hcz46_0 := bz BK230.out 0 (.int .i64 a1_0); have hcz46_1 := bz BK230.out 1 (.int .i64 a1_1); have hcz46_2 := bz BK230.out 2 (.slice A1_2 l1_2.length c1_2); have hfz46_0 := blk_frozen BK230.out 0; have hfz46_1 := blk_frozen BK230.out 1; have hfz46_2 := blk_frozen BK230.out 2) | ((with_reducible refine gate_callee (f := 6) rfl ?_); refine goesL_ (some 46) rfl rfl Try.func6 (by kernel_rfl) rfl #[.agg #[.int .i64 a1_0, .int .i64 a1_1, .slice A1_2 l1_2.length c1_2]] rfl zq2 ?_; (with_reducible refine (laws_toBulletin.calls k a1_0 a1_1 _ _ l1_2 t259 t260 t261 _ ?side1 ?side2 A23.out).mono ?_); (case side1 => exact Kd.C_below HR1_2.out zq35); (case side2 => exact HC1_2.out); rintro e w47 ⟨v262, rfl, ho0, hb⟩; refine ⟨_, rfl, ?_⟩; have n0_ := Aside0.mk (Kd.R_elder' zq51 (Kd.R_base ho0) hb); have n1_ := Aside0.mk (Kd.R_elder' zq52 (Kd.R_base ho0) hb); have n2_ := Aside0.mk (Kd.R_below (by (with_reducible repeat (first | apply Kd.R_alloc | apply Kd.R_drewN | apply Kd.R_drew)); exact (Kd.R_mono (Kd.R_far (p := ⟨gb258, 2, none⟩) (Kd.R_far (p := ⟨gb258, 1, none⟩) (Kd.R_far (p := ⟨gb258, 0, none⟩) (Kd.R_types HO245.out BK258.out (by decide)) (fun _ hk => hk.2) (.int .i64 t253)) (fun _ hk => hk.2) (.int .i64 t254)) (fun _ hk => hk.2) (.slice Ao45 t255.length co45)) (fun _ h_ => h_.1))) hb); have n3_ := Aside0.mk (Kd.R_below (by (with_reducible repeat (first | apply Kd.R_alloc | apply Kd.R_drewN | apply Kd.R_drew)); exact (Kd.R_mono (Kd.R_far (p := ⟨gb258, 2, none⟩) (Kd.R_far (p := ⟨gb258, 1, none⟩) (Kd.R_far (p := ⟨gb258, 0, none⟩) (Kd.R_types HO248.out BK258.out (by decide)) (fun _ hk => hk.2) (.int .i64 t253)) (fun _ hk => hk.2) (.int .i64 t254)) (fun _ hk => hk.2) (.slice Ao45 t255.length co45)) (fun _ h_ => h_.1))) hb); have n4_ := Aside0.mk (Kd.R_below (by (with_reducible repeat (first | apply Kd.R_alloc | apply Kd.R_drewN | apply Kd.R_drew)); exact (Kd.R_mono (Kd.R_far (p := ⟨gb258, 2, none⟩) (Kd.R_far (p := ⟨gb258, 1, none⟩) (Kd.R_far (p := ⟨gb258, 0, none⟩) (Kd.R_types HO251.out BK258.out (by decide)) (fun _ hk => hk.2) (.int .i64 t253)) (fun _ hk => hk.2) (.int .i64 t254)) (fun _ hk => hk.2) (.slice Ao45 t255.length co45)) (fun _ h_ => h_.1))) hb); have n5_ := Aside0.mk (Kd.R_elder' zq53 (Kd.R_base ho0) hb); have n6_ := Aside0.mk (Kd.R_lower (Kd.R_new' (Kd.R_new' (Kd.R_new' ho0 (Kd.R_lt zq51)) (Kd.R_lt zq52)) (Kd.R_lt zq53)) (below_size zq35)); have n7_ := Aside0.mk (blk_below (g := gb229) (o := .cells #[.int .i64 a0_0, .int .i64 a0_1, .slice A0_2 l0_2.length c0_2] 24 (0, 0)) (by (with_reducible repeat (first | refine blk_drewN ?_ _ | refine blk_drew ?_ | refine blk_alloc ?_ _)); refine blk_far ?_ NB229_258.out _; (with_reducible repeat (first | refine blk_drewN ?_ _ | refine blk_drew ?_ | refine blk_alloc ?_ _)); refine blk_far ?_ NB229_258.out _; (with_reducible repeat (first | refine blk_drewN ?_ _ | refine blk_drew ?_ | refine blk_alloc ?_ _)); refine blk_far ?_ NB229_258.out _; (with_reducible repeat (first | refine blk_drewN ?_ _ | refine blk_drew ?_ | refine blk_alloc ?_ _)); exact BK229.out) hb); have n8_ := Aside0.mk (blk_below (g := gb230) (o := .cells #[.int .i64 a1_0, .int .i64 a1_1, .slice A1_2 l1_2.length c1_2] 24 (0, 0)) (by (with_reducible repeat (first | refine blk_drewN ?_ _ | refine blk_drew ?_ | refine blk_alloc ?_ _)); refine blk_far ?_ NB230_258.out _; (with_reducible repeat (first | refine blk_drewN ?_ _ | refine blk_drew ?_ | refine blk_alloc ?_ _)); refine blk_far ?_ NB230_258.out _; (with_reducible repeat (first | refine blk_drewN ?_ _ | refine blk_drew ?_ | refine blk_alloc ?_ _)); refine blk_far ?_ NB230_258.out _; (with_reducible repeat (first | refine blk_drewN ?_ _ | refine blk_drew ?_ | refine blk_alloc ?_ _)); exact BK230.out) hb); have n9_ := Aside0.mk (blk_below (g := gb258) (o := .cells #[.int .i64 t253, .int .i64 t254, .slice Ao45 t255.length co45] 31 (0, 0)) (by (with_reducible repeat (first | refine blk_drewN ?_ _ | refine blk_drew ?_ | refine blk_alloc ?_ _)); refine blk_put (cs := #[.int .i64 t253, .int .i64 t254, .slice none 0 0]) ?_ 2 _ rfl; (with_reducible repeat (first | refine blk_drewN ?_ _ | refine blk_drew ?_ | refine blk_alloc ?_ _)); refine blk_put (cs := #[.int .i64 t253, .int .i64 0, .slice none 0 0]) ?_ 1 _ rfl; (with_reducible repeat (first | refine blk_drewN ?_ _ | refine blk_drew ?_ | refine blk_alloc ?_ _)); refine blk_put (cs := #[.int .i64 0, .int .i64 0, .slice none 0 0]) ?_ 0 _ rfl; (with_reducible repeat (first | refine blk_drewN ?_ _ | refine blk_drew ?_ | refine blk_alloc ?_ _)); exact BK258.out) hb); have n10_ := Aside0.mk (below_step zq35 hb); clear HO237; clear HO242; clear HO245; clear HO248; clear HO251; clear HO257; clear BK229; clear BK230; clear BK258; clear HB; have HO237 := n0_; have HO242 := n1_; have HO245 := n2_; have HO248 := n3_; have HO251 := n4_; have HO257 := n5_; have HO263 := n6_; have BK229 := n7_; have BK230 := n8_; have BK258 := n9_; have HB := n10_; clear n0_ n1_ n2_ n3_ n4_ n5_ n6_ n7_ n8_ n9_ n10_; (try clear hb); (try clear hb2); (try clear hk); (try clear hi); (try clear ho0)) | ((with_reducible refine gate_dst (N := 11) rfl ?_); refine box_event ?hg (N := 11) ?hd (cs := #[.int .i64 0, .int .i64 0, .slice none 0 0]) (t := 31) ?hr ?_; (case hd => rfl); (case hg => rfl); (case hr => exact zqS); intro gb264 hg w48 hbox hb; have n0_ := Aside0.mk (Kd.R_below (zqR HO237.out) hb); have n1_ := Aside0.mk (Kd.R_below (zqR HO242.out) hb); have n2_ := Aside0.mk (Kd.R_below (zqR HO245.out) hb); have n3_ := Aside0.mk (Kd.R_below (zqR HO248.out) hb); have n4_ := Aside0.mk (Kd.R_below (zqR HO251.out) hb); have n5_ := Aside0.mk (Kd.R_below (zqR HO257.out) hb); have n6_ := Aside0.mk (Kd.R_below (zqR HO263.out) hb); have n7_ := Aside0.mk (blk_below (g := gb229) (o := .cells #[.int .i64 a0_0, .int .i64 a0_1, .slice A0_2 l0_2.length c0_2] 24 (0, 0)) (zqK BK229.out) hb); have n8_ := Aside0.mk (blk_below (g := gb230) (o := .cells #[.int .i64 a1_0, .int .i64 a1_1, .slice A1_2 l1_2.length c1_2] 24 (0, 0)) (zqK BK230.out) hb); have n9_ := Aside0.mk (blk_below (g := gb258) (o := .cells #[.int .i64 t253, .int .i64 t254, .slice Ao45 t255.length co45] 31 (0, 0)) (zqK BK258.out) hb); have n10_ := Aside0.mk (below_step zq35 hb); have n11_ := Aside0.mk (hbox); have n12_ := Aside0.mk ((by rw [hg]; exact (below_size zq35) : w.heap.size ≤ gb264)); have n13_ := Aside0.mk ((by rw [hg]; exact (below_size zq35) : w.heap.size ≤ gb264)); have n14_ := Aside0.mk ((by rw [hg]; exact Nat.ne_of_lt (blk_lt (g := gb229) (o := .cells #[.int .i64 a0_0, .int .i64 a0_1, .slice A0_2 l0_2.length c0_2] 24 (0, 0)) (zqK BK229.out)) : gb229 ≠ gb264)); have n15_ := Aside0.mk ((by rw [hg]; exact Nat.ne_of_gt (blk_lt (g := gb229) (o := .cells #[.int .i64 a0_0, .int .i64 a0_1, .slice A0_2 l0_2.length c0_2] 24 (0, 0)) (zqK BK229.out)) : gb264 ≠ gb229)); have n16_ := Aside0.mk ((by rw [hg]; exact Nat.ne_of_lt (blk_lt (g := gb230) (o := .cells #[.int .i64 a1_0, .int .i64 a1_1, .slice A1_2 l1_2.length c1_2] 24 (0, 0)) (zqK BK230.out)) : gb230 ≠ gb264)); have n17_ := Aside0.mk ((by rw [hg]; exact Nat.ne_of_gt (blk_lt (g := gb230) (o := .cells #[.int .i64 a1_0, .int .i64 a1_1, .slice A1_2 l1_2.length c1_2] 24 (0, 0)) (zqK BK230.out)) : gb264 ≠ gb230)); have n18_ := Aside0.mk ((by rw [hg]; exact Nat.ne_of_lt (blk_lt (g := gb258) (o := .cells #[.int .i64 t253, .int .i64 t254, .slice Ao45 t255.length co45] 31 (0, 0)) (zqK BK258.out)) : gb258 ≠ gb264)); have n19_ := Aside0.mk ((by rw [hg]; exact Nat.ne_of_gt (blk_lt (g := gb258) (o := .cells #[.int .i64 t253, .int .i64 t254, .slice Ao45 t255.length co45] 31 (0, 0)) (zqK BK258.out)) : gb264 ≠ gb258)); clear HO237; clear HO242; clear HO245; clear HO248; clear HO251; clear HO257; clear HO263; clear BK229; clear BK230; clear BK258; clear HB; have HO237 := n0_; have HO242 := n1_; have HO245 := n2_; have HO248 := n3_; have HO251 := n4_; have HO257 := n5_; have HO263 := n6_; have BK229 := n7_; have BK230 := n8_; have BK258 := n9_; have HB := n10_; have BK264 := n11_; have GW264 := n12_; have GE264 := n13_; have NB229_264 := n14_; have NB264_229 := n15_; have NB230_264 := n16_; have NB264_230 := n17_; have NB258_264 := n18_; have NB264_258 := n19_; clear n0_ n1_ n2_ n3_ n4_ n5_ n6_ n7_ n8_ n9_ n10_ n11_ n12_ n13_ n14_ n15_ n16_ n17_ n18_ n19_; clear hb hbox hg; have hnb49 := NB264_229.out; have hnc49 := NB229_264.out; have hnb50 := NB264_230.out; have hnc50 := NB230_264.out; have hnb51 := NB264_258.out; have hnc51 := NB258_264.out; have hcz52_0 := bz BK264.out 0 (.int .i64 0); have hcz52_1 := bz BK264.out 1 (.int .i64 0); have hcz52_2 := bz BK264.out 2 (.slice none 0 0); have hfz52_0 := blk_frozen BK264.out 0; have hfz52_1 := blk_frozen BK264.out 1; have hfz52_2 := blk_frozen BK264.out 2; obtain ⟨Ao53, co53, eo53⟩ := Kd.R_slice HO263.out; subst eo53; have hcz54_0 := bz BK258.out 0 (.int .i64 t253); have hcz54_1 := bz BK258.out 1 (.int .i64 t254); have hcz54_2 := bz BK258.out 2 (.slice Ao45 t255.length co45); have hfz54_0 := blk_frozen BK258.out 0; have hfz54_1 := blk_frozen BK258.out 1; have hfz54_2 := blk_frozen BK258.out 2) | ((with_reducible refine gate_callee (f := 7) rfl ?_); refine goesL_ (some 50) rfl rfl Try.func7 (by kernel_rfl) rfl #[.agg #[.int .i64 t253, .int .i64 t254, .slice Ao45 t255.length co45], .agg #[.int .i64 t259, .int .i64 t260, .slice Ao53 t261.length co53]] rfl zq2 ?_; (with_reducible refine (impl_BulletinChanges.calls k t253 t254 _ _ t255 t259 t260 _ _ t261 t265 t268 t271 t274 _ ?side1 ?side2 ?side3 ?side4 A24.out).mono ?_); (case side1 => refine (Kd.R_reads' (e := 41) (base := w.heap.size) (ok := fun k_ => (((True ∧ some k_ ≠ (.slice Ao36 t235.length co36 : Value).ownBlock) ∧ some k_ ≠ (.slice Ao37 t240.length co37 : Value).ownBlock) ∧ some k_ ≠ (.slice Ao53 t261.length co53 : Value).ownBlock)) (n := t255.length) (c := co45) ?_).2.2; exact zq54); (case side2 => exact (Kd.R_reads' HO257.out).2.1); (case side3 => refine (Kd.R_reads' (e := 41) (base := w.heap.size) (ok := fun k_ => (((True ∧ some k_ ≠ (.slice Ao36 t235.length co36 : Value).ownBlock) ∧ some k_ ≠ (.slice Ao37 t240.length co37 : Value).ownBlock) ∧ some k_ ≠ (.slice Ao45 t255.length co45 : Value).ownBlock)) (n := t261.length) (c := co53) ?_).2.2; exact zq55); (case side4 => exact (Kd.R_reads' HO263.out).2.1); rintro e w55 ⟨v266, v269, v272, rfl, ho0, ho1, ho2, hb⟩; refine ⟨_, rfl, ?_⟩; have n0_ := Aside0.mk (Kd.R_below (by (with_reducible repeat (first | apply Kd.R_alloc | apply Kd.R_drewN | apply Kd.R_drew)); exact (Kd.R_mono (Kd.R_far (p := ⟨gb264, 2, none⟩) (Kd.R_far (p := ⟨gb264, 1, none⟩) (Kd.R_far (p := ⟨gb264, 0, none⟩) (Kd.R_types HO237.out BK264.out (by decide)) (fun _ hk => hk.2) (.int .i64 t259)) (fun _ hk => hk.2) (.int .i64 t260)) (fun _ hk => hk.2) (.slice Ao53 t261.length co53)) (fun _ h_ => h_.1))) hb); have n1_ := Aside0.mk (Kd.R_below (by (with_reducible repeat (first | apply Kd.R_alloc | apply Kd.R_drewN | apply Kd.R_drew)); exact (Kd.R_mono (Kd.R_far (p := ⟨gb264, 2, none⟩) (Kd.R_far (p := ⟨gb264, 1, none⟩) (Kd.R_far (p := ⟨gb264, 0, none⟩) (Kd.R_types HO242.out BK264.out (by decide)) (fun _ hk => hk.2) (.int .i64 t259)) (fun _ hk => hk.2) (.int .i64 t260)) (fun _ hk => hk.2) (.slice Ao53 t261.length co53)) (fun _ h_ => h_.1))) hb); have n2_ := Aside0.mk (Kd.R_mono (Kd.R_told (Kd.R_told (Kd.R_told (Kd.R_old zq31 hb) (Kd.R_base ho0)) (Kd.R_base ho1)) (Kd.R_base ho2)) (fun _ h_ => h_.1)); have n3_ := Aside0.mk (Kd.R_mono (Kd.R_told (Kd.R_told (Kd.R_told (Kd.R_old zq32 hb) (Kd.R_base ho0)) (Kd.R_base ho1)) (Kd.R_base ho2)) (fun _ h_ => h_.1)); have n4_ := Aside0.mk (Kd.R_mono (Kd.R_told (Kd.R_told (Kd.R_told (Kd.R_old zq33 hb) (Kd.R_base ho0)) (Kd.R_base ho1)) (Kd.R_base ho2)) (fun _ h_ => h_.1)); have n5_ := Aside0.mk (Kd.R_below zq54 hb); have n6_ := Aside0.mk (Kd.R_below zq55 hb); have n7_ := Aside0.mk (Kd.R_lower (Kd.R_new' (Kd.R_new' (Kd.R_new' ho0 (Kd.R_lt zq31)) (Kd.R_lt zq32)) (Kd.R_lt zq33)) (below_size zq6)); have n8_ := Aside0.mk (Kd.R_lower (Kd.R_new' (Kd.R_new' (Kd.R_new' ho1 (Kd.R_lt zq31)) (Kd.R_lt zq32)) (Kd.R_lt zq33)) (below_size zq6)); have n9_ := Aside0.mk (Kd.R_lower (Kd.R_new' (Kd.R_new' (Kd.R_new' ho2 (Kd.R_lt zq31)) (Kd.R_lt zq32)) (Kd.R_lt zq33)) (below_size zq6)); have n10_ := Aside0.mk (blk_below (g := gb229) (o := .cells #[.int .i64 a0_0, .int .i64 a0_1, .slice A0_2 l0_2.length c0_2] 24 (0, 0)) (by (with_reducible repeat (first | refine blk_drewN ?_ _ | refine blk_drew ?_ | refine blk_alloc ?_ _)); refine blk_far ?_ NB229_264.out _; (with_reducible repeat (first | refine blk_drewN ?_ _ | refine blk_drew ?_ | refine blk_alloc ?_ _)); refine blk_far ?_ NB229_264.out _; (with_reducible repeat (first | refine blk_drewN ?_ _ | refine blk_drew ?_ | refine blk_alloc ?_ _)); refine blk_far ?_ NB229_264.out _; (with_reducible repeat (first | refine blk_drewN ?_ _ | refine blk_drew ?_ | refine blk_alloc ?_ _)); exact BK229.out) hb); have n11_ := Aside0.mk (blk_below (g := gb230) (o := .cells #[.int .i64 a1_0, .int .i64 a1_1, .slice A1_2 l1_2.length c1_2] 24 (0, 0)) (by (with_reducible repeat (first | refine blk_drewN ?_ _ | refine blk_drew ?_ | refine blk_alloc ?_ _)); refine blk_far ?_ NB230_264.out _; (with_reducible repeat (first | refine blk_drewN ?_ _ | refine blk_drew ?_ | refine blk_alloc ?_ _)); refine blk_far ?_ NB230_264.out _; (with_reducible repeat (first | refine blk_drewN ?_ _ | refine blk_drew ?_ | refine blk_alloc ?_ _)); refine blk_far ?_ NB230_264.out _; (with_reducible repeat (first | refine blk_drewN ?_ _ | refine blk_drew ?_ | refine blk_alloc ?_ _)); exact BK230.out) hb); have n12_ := Aside0.mk (blk_below (g := gb258) (o := .cells #[.int .i64 t253, .int .i64 t254, .slice Ao45 t255.length co45] 31 (0, 0)) (by (with_reducible repeat (first | refine blk_drewN ?_ _ | refine blk_drew ?_ | refine blk_alloc ?_ _)); refine blk_far ?_ NB258_264.out _; (with_reducible repeat (first | refine blk_drewN ?_ _ | refine blk_drew ?_ | refine blk_alloc ?_ _)); refine blk_far ?_ NB258_264.out _; (with_reducible repeat (first | refine blk_drewN ?_ _ | refine blk_drew ?_ | refine blk_alloc ?_ _)); refine blk_far ?_ NB258_264.out _; (with_reducible repeat (first | refine blk_drewN ?_ _ | refine blk_drew ?_ | refine blk_alloc ?_ _)); exact BK258.out) hb); have n13_ := Aside0.mk (blk_below (g := gb264) (o := .cells #[.int .i64 t259, .int .i64 t260, .slice Ao53 t261.length co53] 31 (0, 0)) (by (with_reducible repeat (first | refine blk_drewN ?_ _ | refine blk_drew ?_ | refine blk_alloc ?_ _)); refine blk_put (cs := #[.int .i64 t259, .int .i64 t260, .slice none 0 0]) ?_ 2 _ rfl; (with_reducible repeat (first | refine blk_drewN ?_ _ | refine blk_drew ?_ | refine blk_alloc ?_ _)); refine blk_put (cs := #[.int .i64 t259, .int .i64 0, .slice none 0 0]) ?_ 1 _ rfl; (with_reducible repeat (first | refine blk_drewN ?_ _ | refine blk_drew ?_ | refine blk_alloc ?_ _)); refine blk_put (cs := #[.int .i64 0, .int .i64 0, .slice none 0 0]) ?_ 0 _ rfl; (with_reducible repeat (first | refine blk_drewN ?_ _ | refine blk_drew ?_ | refine blk_alloc ?_ _)); exact BK264.out) hb); have n14_ := Aside0.mk (below_step zq6 hb); clear HO237; clear HO242; clear HO245; clear HO248; clear HO251; clear HO257; clear HO263; clear BK229; clear BK230; clear BK258; clear BK264; clear HB; have HO237 := n0_; have HO242 := n1_; have HO245 := n2_; have HO248 := n3_; have HO251 := n4_; have HO257 := n5_; have HO263 := n6_; have HO267 := n7_; have HO270 := n8_; have HO273 := n9_; have BK229 := n10_; have BK230 := n11_; have BK258 := n12_; have BK264 := n13_; have HB := n14_; clear n0_ n1_ n2_ n3_ n4_ n5_ n6_ n7_ n8_ n9_ n10_ n11_ n12_ n13_ n14_; (try clear hb); (try clear hb2); (try clear hk); (try clear hi); (try clear ho0); (try clear ho1); (try clear ho2)))
 (try simp only [Act.put, List.setIfInBounds_toArray, List.set_cons_zero, List.set_cons_succ])
 go_cut [75] (fun v75 wc => ∃ (kq : Nat) (x75_24 : Bool), v75 = .bool x75_24 ∧ Aside0 (laws_FnExactBulletinChanges.j0 kq t243 t246 t249 t252 t265 t268 t271 t274 x75_24 a0_0 a0_1 l0_2 a1_0 a1_1 l1_2 t253 t254 t255 t259 t260 t261 = some r) ∧ Aside0 (kq ≤ k) ∧ Aside0 (Kd.R (Kd.int .i64) 3 wc w.heap.size (fun k_ => some k_ ≠ (v247 : Value).ownBlock ∧ some k_ ≠ (v250 : Value).ownBlock ∧ some k_ ≠ (v266 : Value).ownBlock ∧ some k_ ≠ (v269 : Value).ownBlock ∧ some k_ ≠ (v272 : Value).ownBlock) v244 t243) ∧ Aside0 (Kd.R (Kd.int .i64) 3 wc w.heap.size (fun k_ => some k_ ≠ (v244 : Value).ownBlock ∧ some k_ ≠ (v250 : Value).ownBlock ∧ some k_ ≠ (v266 : Value).ownBlock ∧ some k_ ≠ (v269 : Value).ownBlock ∧ some k_ ≠ (v272 : Value).ownBlock) v247 t246) ∧ Aside0 (Kd.R (Kd.int .i64) 3 wc w.heap.size (fun k_ => some k_ ≠ (v244 : Value).ownBlock ∧ some k_ ≠ (v247 : Value).ownBlock ∧ some k_ ≠ (v266 : Value).ownBlock ∧ some k_ ≠ (v269 : Value).ownBlock ∧ some k_ ≠ (v272 : Value).ownBlock) v250 t249) ∧ Aside0 (Kd.R (Kd.int .i64) 3 wc w.heap.size (fun k_ => some k_ ≠ (v244 : Value).ownBlock ∧ some k_ ≠ (v247 : Value).ownBlock ∧ some k_ ≠ (v250 : Value).ownBlock ∧ some k_ ≠ (v269 : Value).ownBlock ∧ some k_ ≠ (v272 : Value).ownBlock) v266 t265) ∧ Aside0 (Kd.R (Kd.int .i64) 3 wc w.heap.size (fun k_ => some k_ ≠ (v244 : Value).ownBlock ∧ some k_ ≠ (v247 : Value).ownBlock ∧ some k_ ≠ (v250 : Value).ownBlock ∧ some k_ ≠ (v266 : Value).ownBlock ∧ some k_ ≠ (v272 : Value).ownBlock) v269 t268) ∧ Aside0 (Kd.R (Kd.int .i64) 3 wc w.heap.size (fun k_ => some k_ ≠ (v244 : Value).ownBlock ∧ some k_ ≠ (v247 : Value).ownBlock ∧ some k_ ≠ (v250 : Value).ownBlock ∧ some k_ ≠ (v266 : Value).ownBlock ∧ some k_ ≠ (v269 : Value).ownBlock) v272 t271) ∧ Aside0 (Kd.R k41 41 wc w.heap.size (fun k_ => some k_ ≠ ((.slice Ao53 t261.length co53) : Value).ownBlock) (.slice Ao45 t255.length co45) t255) ∧ Aside0 (Kd.R k41 41 wc w.heap.size (fun k_ => some k_ ≠ ((.slice Ao45 t255.length co45) : Value).ownBlock) (.slice Ao53 t261.length co53) t261) ∧ Aside0 (wc.heap[gb229]? = some (.cells #[.int .i64 a0_0, .int .i64 a0_1, (.slice A0_2 l0_2.length c0_2)] 24 (0, 0))) ∧ Aside0 (wc.heap[gb230]? = some (.cells #[.int .i64 a1_0, .int .i64 a1_1, (.slice A1_2 l1_2.length c1_2)] 24 (0, 0))) ∧ Aside0 (wc.heap[gb258]? = some (.cells #[.int .i64 t253, .int .i64 t254, (.slice Ao45 t255.length co45)] 31 (0, 0))) ∧ Aside0 (wc.heap[gb264]? = some (.cells #[.int .i64 t259, .int .i64 t260, (.slice Ao53 t261.length co53)] 31 (0, 0))) ∧ Aside0 (Below w.heap.size w wc))
 case first =>
  have H := HC25.out
  clear HC25
  replace H := Option.bind_eq_some_iff.mp H
  obtain ⟨t275, A560, H⟩ := H
  replace H : (if t275 = true then ((laws_eqIntS.f k t268 t246).bind fun t276 => (if t276 = true then ((laws_eqIntS.f k t271 t249).bind fun t277 => (if t277 = true then (laws_FnExactBulletinChanges.j0 k t243 t246 t249 t252 t265 t268 t271 t274 (t274 != t252) a0_0 a0_1 l0_2 a1_0 a1_1 l1_2 t253 t254 t255 t259 t260 t261) else (none))) else (none))) else (none)) = some r := H
  have A56 := Aside0.mk A560
  clear A560
  by_cases c57 : t275 = true
  case neg =>
   replace c57 := Bool.eq_false_iff.mpr c57
   subst c57
   have H1 : (none) = some r := by rw [if_neg (show ¬ (false = true) by decide)] at H; exact H
   clear H
   have H := H1
   clear H1
   exact absurd H (by simp)
  subst c57
  have H1 : ((laws_eqIntS.f k t268 t246).bind fun t276 => (if t276 = true then ((laws_eqIntS.f k t271 t249).bind fun t277 => (if t277 = true then (laws_FnExactBulletinChanges.j0 k t243 t246 t249 t252 t265 t268 t271 t274 (t274 != t252) a0_0 a0_1 l0_2 a1_0 a1_1 l1_2 t253 t254 t255 t259 t260 t261) else (none))) else (none))) = some r := by rw [if_pos rfl] at H; exact H
  clear H
  have H := H1
  clear H1
  replace H := Option.bind_eq_some_iff.mp H
  obtain ⟨t276, A580, H⟩ := H
  replace H : (if t276 = true then ((laws_eqIntS.f k t271 t249).bind fun t277 => (if t277 = true then (laws_FnExactBulletinChanges.j0 k t243 t246 t249 t252 t265 t268 t271 t274 (t274 != t252) a0_0 a0_1 l0_2 a1_0 a1_1 l1_2 t253 t254 t255 t259 t260 t261) else (none))) else (none)) = some r := H
  have A58 := Aside0.mk A580
  clear A580
  by_cases c59 : t276 = true
  case neg =>
   replace c59 := Bool.eq_false_iff.mpr c59
   subst c59
   have H1 : (none) = some r := by rw [if_neg (show ¬ (false = true) by decide)] at H; exact H
   clear H
   have H := H1
   clear H1
   exact absurd H (by simp)
  subst c59
  have H1 : ((laws_eqIntS.f k t271 t249).bind fun t277 => (if t277 = true then (laws_FnExactBulletinChanges.j0 k t243 t246 t249 t252 t265 t268 t271 t274 (t274 != t252) a0_0 a0_1 l0_2 a1_0 a1_1 l1_2 t253 t254 t255 t259 t260 t261) else (none))) = some r := by rw [if_pos rfl] at H; exact H
  clear H
  have H := H1
  clear H1
  replace H := Option.bind_eq_some_iff.mp H
  obtain ⟨t277, A600, H⟩ := H
  replace H : (if t277 = true then (laws_FnExactBulletinChanges.j0 k t243 t246 t249 t252 t265 t268 t271 t274 (t274 != t252) a0_0 a0_1 l0_2 a1_0 a1_1 l1_2 t253 t254 t255 t259 t260 t261) else (none)) = some r := H
  have A60 := Aside0.mk A600
  clear A600
  by_cases c61 : t277 = true
  case neg =>
   replace c61 := Bool.eq_false_iff.mpr c61
   subst c61
   have H1 : (none) = some r := by rw [if_neg (show ¬ (false = true) by decide)] at H; exact H
   clear H
   have H := H1
   clear H1
   exact absurd H (by simp)
  subst c61
  have H1 : (laws_FnExactBulletinChanges.j0 k t243 t246 t249 t252 t265 t268 t271 t274 (t274 != t252) a0_0 a0_1 l0_2 a1_0 a1_1 l1_2 t253 t254 t255 t259 t260 t261) = some r := by rw [if_pos rfl] at H; exact H
  clear H
  have H := H1
  clear H1
  have H' := Aside0.mk H
  clear H
  obtain ⟨Ao62, co62, eo62⟩ := Kd.R_slice HO267.out
  subst eo62
  obtain ⟨Ao63, co63, eo63⟩ := Kd.R_slice HO245.out
  subst eo63
  go_wp2_with (first | ((with_reducible refine gate_callee (f := 8) rfl ?_); refine goesL_ (some 57) rfl rfl Try.func8 (by kernel_rfl) rfl #[.slice Ao62 t265.length co62, .slice Ao63 t243.length co63] rfl zq2 ?_; (with_reducible refine (laws_eqIntS.calls k _ _ t265 _ _ t243 true _ ?side1 ?side2 ?side3 ?side4 A56.out).mono ?_); (case side1 => exact zqC (Kd.R_reads' HO267.out).2.2); (case side2 => exact (Kd.R_reads' HO267.out).2.1); (case side3 => exact zqC (Kd.R_reads' HO245.out).2.2); (case side4 => exact (Kd.R_reads' HO245.out).2.1); rintro e w' ⟨rfl, ⟨nd, rfl⟩⟩; refine ⟨_, rfl, ?_⟩; obtain ⟨Ao64, co64, eo64⟩ := Kd.R_slice HO270.out; subst eo64; obtain ⟨Ao65, co65, eo65⟩ := Kd.R_slice HO248.out; subst eo65) | (go_at_call 8; (with_reducible refine (laws_eqIntS.calls k _ _ t268 _ _ t246 true _ ?side1 ?side2 ?side3 ?side4 A58.out).mono ?_); (case side1 => exact zqC (Kd.R_reads' HO270.out).2.2); (case side2 => exact (Kd.R_reads' HO270.out).2.1); (case side3 => exact zqC (Kd.R_reads' HO248.out).2.2); (case side4 => exact (Kd.R_reads' HO248.out).2.1); rintro e w' ⟨rfl, ⟨nd, rfl⟩⟩; obtain ⟨Ao66, co66, eo66⟩ := Kd.R_slice HO273.out; subst eo66; obtain ⟨Ao67, co67, eo67⟩ := Kd.R_slice HO251.out; subst eo67) | (go_at_call 8; (with_reducible refine (laws_eqIntS.calls k _ _ t271 _ _ t249 true _ ?side1 ?side2 ?side3 ?side4 A60.out).mono ?_); (case side1 => exact zqC (Kd.R_reads' HO273.out).2.2); (case side2 => exact (Kd.R_reads' HO273.out).2.1); (case side3 => exact zqC (Kd.R_reads' HO251.out).2.2); (case side4 => exact (Kd.R_reads' HO251.out).2.1); rintro e w' ⟨rfl, ⟨nd, rfl⟩⟩))
  go_meet
  case rel => exact ⟨_, ((t274 != t252)), (by first | rfl | (simp; done) | (simp [*]; done)), H', ⟨by first | omega | exact Nat.le_refl _⟩, ⟨by (with_reducible repeat (first | apply Kd.R_alloc | apply Kd.R_drewN | apply Kd.R_drew)); exact Kd.R_mono HO245.out (fun _ hk => ⟨hk.1.1.1.1, ⟨hk.1.1.1.2, ⟨hk.1.1.2, ⟨hk.1.2, hk.2⟩⟩⟩⟩)⟩, ⟨by (with_reducible repeat (first | apply Kd.R_alloc | apply Kd.R_drewN | apply Kd.R_drew)); exact Kd.R_mono HO248.out (fun _ hk => ⟨hk.1.1.1.1, ⟨hk.1.1.1.2, ⟨hk.1.1.2, ⟨hk.1.2, hk.2⟩⟩⟩⟩)⟩, ⟨by (with_reducible repeat (first | apply Kd.R_alloc | apply Kd.R_drewN | apply Kd.R_drew)); exact Kd.R_mono HO251.out (fun _ hk => ⟨hk.1.1.1.1, ⟨hk.1.1.1.2, ⟨hk.1.1.2, ⟨hk.1.2, hk.2⟩⟩⟩⟩)⟩, ⟨by (with_reducible repeat (first | apply Kd.R_alloc | apply Kd.R_drewN | apply Kd.R_drew)); exact Kd.R_mono HO267.out (fun _ hk => ⟨hk.1.1.2, ⟨hk.1.2, ⟨hk.2, ⟨hk.1.1.1.1, hk.1.1.1.2⟩⟩⟩⟩)⟩, ⟨by (with_reducible repeat (first | apply Kd.R_alloc | apply Kd.R_drewN | apply Kd.R_drew)); exact Kd.R_mono HO270.out (fun _ hk => ⟨hk.1.1.2, ⟨hk.1.2, ⟨hk.2, ⟨hk.1.1.1.1, hk.1.1.1.2⟩⟩⟩⟩)⟩, ⟨by (with_reducible repeat (first | apply Kd.R_alloc | apply Kd.R_drewN | apply Kd.R_drew)); exact Kd.R_mono HO273.out (fun _ hk => ⟨hk.1.1.2, ⟨hk.1.2, ⟨hk.2, ⟨hk.1.1.1.1, hk.1.1.1.2⟩⟩⟩⟩)⟩, ⟨by (with_reducible repeat (first | apply Kd.R_alloc | apply Kd.R_drewN | apply Kd.R_drew)); exact Kd.R_mono HO257.out (fun _ hk => hk.2)⟩, ⟨by (with_reducible repeat (first | apply Kd.R_alloc | apply Kd.R_drewN | apply Kd.R_drew)); exact Kd.R_mono HO263.out (fun _ hk => hk.2)⟩, ⟨by (with_reducible repeat (first | refine blk_drewN ?_ _ | refine blk_drew ?_ | refine blk_alloc ?_ _)); exact BK229.out⟩, ⟨by (with_reducible repeat (first | refine blk_drewN ?_ _ | refine blk_drew ?_ | refine blk_alloc ?_ _)); exact BK230.out⟩, ⟨by (with_reducible repeat (first | refine blk_drewN ?_ _ | refine blk_drew ?_ | refine blk_alloc ?_ _)); exact BK258.out⟩, ⟨by (with_reducible repeat (first | refine blk_drewN ?_ _ | refine blk_drew ?_ | refine blk_alloc ?_ _)); exact BK264.out⟩, ⟨zq6⟩⟩
 clear HC25
 try clear c1
 try clear c2
 try clear p2
 try clear c3
 try clear c4
 try clear c4b0
 try clear c5
 try clear c6
 try clear c7
 try clear c8
 try clear c11
 try clear c11b0
 try clear c14
 try clear c28
 try clear c42
 try clear c43
 try clear c49
 try clear c50
 try clear c51
 try clear c57
 try clear c59
 try clear c61
 try clear hcz15_0
 try clear hcz15_1
 try clear hcz15_2
 try clear hcz17_0
 try clear hcz17_1
 try clear hcz17_2
 try clear hcz29_0
 try clear hcz29_1
 try clear hcz29_2
 try clear hcz31_0
 try clear hcz31_1
 try clear hcz31_2
 try clear hcz39_0
 try clear hcz39_1
 try clear hcz39_2
 try clear hcz44_0
 try clear hcz44_1
 try clear hcz44_2
 try clear hcz46_0
 try clear hcz46_1
 try clear hcz46_2
 try clear hcz52_0
 try clear hcz52_1
 try clear hcz52_2
 try clear hcz54_0
 try clear hcz54_1
 try clear hcz54_2
 try clear hcz8_0
 try clear hcz8_1
 try clear hcz8_2
 try clear hfz15_0
 try clear hfz15_1
 try clear hfz15_2
 try clear hfz17_0
 try clear hfz17_1
 try clear hfz17_2
 try clear hfz29_0
 try clear hfz29_1
 try clear hfz29_2
 try clear hfz31_0
 try clear hfz31_1
 try clear hfz31_2
 try clear hfz39_0
 try clear hfz39_1
 try clear hfz39_2
 try clear hfz44_0
 try clear hfz44_1
 try clear hfz44_2
 try clear hfz46_0
 try clear hfz46_1
 try clear hfz46_2
 try clear hfz52_0
 try clear hfz52_1
 try clear hfz52_2
 try clear hfz54_0
 try clear hfz54_1
 try clear hfz54_2
 try clear hfz8_0
 try clear hfz8_1
 try clear hfz8_2
 obtain ⟨kq, x75_24, rfl, HA, HJ24, HO_6, HO_7, HO_8, HO_12, HO_13, HO_14, HO_259002, HO_265002, BK229, BK230, BK258, BK264, HB⟩ := hcut
 cases kq with
 | zero => exact absurd HA.out (by simp [laws_FnExactBulletinChanges.j0])
 | succ kj24 =>
  have H := HA.out
  clear HA
  simp only [laws_FnExactBulletinChanges.j0] at H
  by_cases c68 : x75_24 = true
  case pos =>
   subst c68
   have H1 : (none) = some r := by rw [if_pos rfl] at H; exact H
   clear H
   have H := H1
   clear H1
   exact absurd H (by simp)
  replace c68 := Bool.eq_false_iff.mpr c68
  subst c68
  have H1 : ((laws_toBulletin.f kj24 a0_0 a0_1 l0_2).bind fun bt278 => ((laws_eqBulletin.f kj24 t253 t254 t255 bt278.1 bt278.2.1 bt278.2.2).bind fun t283 => (if t283 = true then ((laws_toBulletin.f kj24 a1_0 a1_1 l1_2).bind fun bt284 => ((laws_eqBulletin.f kj24 t259 t260 t261 bt284.1 bt284.2.1 bt284.2.2).bind fun t289 => (if t289 = true then ((laws_markBulletin.f kj24 t253 t254 t255 1).bind fun bt290 => ((laws_markBulletin.f kj24 t259 t260 t261 bt290.1).bind fun bt292 => (if bt292.1 < 0 then (none) else ((laws_eqIntS.f kj24 t265 t243).bind fun t294 => (if t294 = true then ((laws_eqIntS.f kj24 t268 t246).bind fun t295 => (if t295 = true then ((laws_eqIntS.f kj24 t271 t249).bind fun t296 => (if t296 = true then (laws_FnExactBulletinChanges.j1 kj24 t243 t246 t249 t252 t265 t268 t271 (t274 != t252) a0_0 a0_1 l0_2 a1_0 a1_1 l1_2) else (none))) else (none))) else (none)))))) else (none)))) else (none)))) = some r := by rw [if_neg (show ¬ (false = true) by decide)] at H; exact H
  clear H
  have H := H1
  clear H1
  replace H := Option.bind_eq_some_iff.mp H
  obtain ⟨⟨t278, t279, t280⟩, A690, H⟩ := H
  replace H : ((laws_eqBulletin.f kj24 t253 t254 t255 t278 t279 t280).bind fun t283 => (if t283 = true then ((laws_toBulletin.f kj24 a1_0 a1_1 l1_2).bind fun bt284 => ((laws_eqBulletin.f kj24 t259 t260 t261 bt284.1 bt284.2.1 bt284.2.2).bind fun t289 => (if t289 = true then ((laws_markBulletin.f kj24 t253 t254 t255 1).bind fun bt290 => ((laws_markBulletin.f kj24 t259 t260 t261 bt290.1).bind fun bt292 => (if bt292.1 < 0 then (none) else ((laws_eqIntS.f kj24 t265 t243).bind fun t294 => (if t294 = true then ((laws_eqIntS.f kj24 t268 t246).bind fun t295 => (if t295 = true then ((laws_eqIntS.f kj24 t271 t249).bind fun t296 => (if t296 = true then (laws_FnExactBulletinChanges.j1 kj24 t243 t246 t249 t252 t265 t268 t271 (t274 != t252) a0_0 a0_1 l0_2 a1_0 a1_1 l1_2) else (none))) else (none))) else (none)))))) else (none)))) else (none))) = some r := H
  have A69 := Aside0.mk A690
  clear A690
  replace H := Option.bind_eq_some_iff.mp H
  obtain ⟨t283, A700, H⟩ := H
  replace H : (if t283 = true then ((laws_toBulletin.f kj24 a1_0 a1_1 l1_2).bind fun bt284 => ((laws_eqBulletin.f kj24 t259 t260 t261 bt284.1 bt284.2.1 bt284.2.2).bind fun t289 => (if t289 = true then ((laws_markBulletin.f kj24 t253 t254 t255 1).bind fun bt290 => ((laws_markBulletin.f kj24 t259 t260 t261 bt290.1).bind fun bt292 => (if bt292.1 < 0 then (none) else ((laws_eqIntS.f kj24 t265 t243).bind fun t294 => (if t294 = true then ((laws_eqIntS.f kj24 t268 t246).bind fun t295 => (if t295 = true then ((laws_eqIntS.f kj24 t271 t249).bind fun t296 => (if t296 = true then (laws_FnExactBulletinChanges.j1 kj24 t243 t246 t249 t252 t265 t268 t271 (t274 != t252) a0_0 a0_1 l0_2 a1_0 a1_1 l1_2) else (none))) else (none))) else (none)))))) else (none)))) else (none)) = some r := H
  have A70 := Aside0.mk A700
  clear A700
  by_cases c71 : t283 = true
  case neg =>
   replace c71 := Bool.eq_false_iff.mpr c71
   subst c71
   have H1 : (none) = some r := by rw [if_neg (show ¬ (false = true) by decide)] at H; exact H
   clear H
   have H := H1
   clear H1
   exact absurd H (by simp)
  subst c71
  have H1 : ((laws_toBulletin.f kj24 a1_0 a1_1 l1_2).bind fun bt284 => ((laws_eqBulletin.f kj24 t259 t260 t261 bt284.1 bt284.2.1 bt284.2.2).bind fun t289 => (if t289 = true then ((laws_markBulletin.f kj24 t253 t254 t255 1).bind fun bt290 => ((laws_markBulletin.f kj24 t259 t260 t261 bt290.1).bind fun bt292 => (if bt292.1 < 0 then (none) else ((laws_eqIntS.f kj24 t265 t243).bind fun t294 => (if t294 = true then ((laws_eqIntS.f kj24 t268 t246).bind fun t295 => (if t295 = true then ((laws_eqIntS.f kj24 t271 t249).bind fun t296 => (if t296 = true then (laws_FnExactBulletinChanges.j1 kj24 t243 t246 t249 t252 t265 t268 t271 (t274 != t252) a0_0 a0_1 l0_2 a1_0 a1_1 l1_2) else (none))) else (none))) else (none)))))) else (none)))) = some r := by rw [if_pos rfl] at H; exact H
  clear H
  have H := H1
  clear H1
  replace H := Option.bind_eq_some_iff.mp H
  obtain ⟨⟨t284, t285, t286⟩, A720, H⟩ := H
  replace H : ((laws_eqBulletin.f kj24 t259 t260 t261 t284 t285 t286).bind fun t289 => (if t289 = true then ((laws_markBulletin.f kj24 t253 t254 t255 1).bind fun bt290 => ((laws_markBulletin.f kj24 t259 t260 t261 bt290.1).bind fun bt292 => (if bt292.1 < 0 then (none) else ((laws_eqIntS.f kj24 t265 t243).bind fun t294 => (if t294 = true then ((laws_eqIntS.f kj24 t268 t246).bind fun t295 => (if t295 = true then ((laws_eqIntS.f kj24 t271 t249).bind fun t296 => (if t296 = true then (laws_FnExactBulletinChanges.j1 kj24 t243 t246 t249 t252 t265 t268 t271 (t274 != t252) a0_0 a0_1 l0_2 a1_0 a1_1 l1_2) else (none))) else (none))) else (none)))))) else (none))) = some r := H
  have A72 := Aside0.mk A720
  clear A720
  replace H := Option.bind_eq_some_iff.mp H
  obtain ⟨t289, A730, H⟩ := H
  replace H : (if t289 = true then ((laws_markBulletin.f kj24 t253 t254 t255 1).bind fun bt290 => ((laws_markBulletin.f kj24 t259 t260 t261 bt290.1).bind fun bt292 => (if bt292.1 < 0 then (none) else ((laws_eqIntS.f kj24 t265 t243).bind fun t294 => (if t294 = true then ((laws_eqIntS.f kj24 t268 t246).bind fun t295 => (if t295 = true then ((laws_eqIntS.f kj24 t271 t249).bind fun t296 => (if t296 = true then (laws_FnExactBulletinChanges.j1 kj24 t243 t246 t249 t252 t265 t268 t271 (t274 != t252) a0_0 a0_1 l0_2 a1_0 a1_1 l1_2) else (none))) else (none))) else (none)))))) else (none)) = some r := H
  have A73 := Aside0.mk A730
  clear A730
  by_cases c74 : t289 = true
  case neg =>
   replace c74 := Bool.eq_false_iff.mpr c74
   subst c74
   have H1 : (none) = some r := by rw [if_neg (show ¬ (false = true) by decide)] at H; exact H
   clear H
   have H := H1
   clear H1
   exact absurd H (by simp)
  subst c74
  have H1 : ((laws_markBulletin.f kj24 t253 t254 t255 1).bind fun bt290 => ((laws_markBulletin.f kj24 t259 t260 t261 bt290.1).bind fun bt292 => (if bt292.1 < 0 then (none) else ((laws_eqIntS.f kj24 t265 t243).bind fun t294 => (if t294 = true then ((laws_eqIntS.f kj24 t268 t246).bind fun t295 => (if t295 = true then ((laws_eqIntS.f kj24 t271 t249).bind fun t296 => (if t296 = true then (laws_FnExactBulletinChanges.j1 kj24 t243 t246 t249 t252 t265 t268 t271 (t274 != t252) a0_0 a0_1 l0_2 a1_0 a1_1 l1_2) else (none))) else (none))) else (none)))))) = some r := by rw [if_pos rfl] at H; exact H
  clear H
  have H := H1
  clear H1
  replace H := Option.bind_eq_some_iff.mp H
  obtain ⟨⟨t290, t291⟩, A750, H⟩ := H
  replace H : ((laws_markBulletin.f kj24 t259 t260 t261 t290).bind fun bt292 => (if bt292.1 < 0 then (none) else ((laws_eqIntS.f kj24 t265 t243).bind fun t294 => (if t294 = true then ((laws_eqIntS.f kj24 t268 t246).bind fun t295 => (if t295 = true then ((laws_eqIntS.f kj24 t271 t249).bind fun t296 => (if t296 = true then (laws_FnExactBulletinChanges.j1 kj24 t243 t246 t249 t252 t265 t268 t271 (t274 != t252) a0_0 a0_1 l0_2 a1_0 a1_1 l1_2) else (none))) else (none))) else (none))))) = some r := H
  have A75 := Aside0.mk A750
  clear A750
  replace H := Option.bind_eq_some_iff.mp H
  obtain ⟨⟨t292, t293⟩, A760, H⟩ := H
  replace H : (if t292 < 0 then (none) else ((laws_eqIntS.f kj24 t265 t243).bind fun t294 => (if t294 = true then ((laws_eqIntS.f kj24 t268 t246).bind fun t295 => (if t295 = true then ((laws_eqIntS.f kj24 t271 t249).bind fun t296 => (if t296 = true then (laws_FnExactBulletinChanges.j1 kj24 t243 t246 t249 t252 t265 t268 t271 (t274 != t252) a0_0 a0_1 l0_2 a1_0 a1_1 l1_2) else (none))) else (none))) else (none)))) = some r := H
  have A76 := Aside0.mk A760
  clear A760
  have HC77 := Aside0.mk H
  clear H
  try go_wp2
  have n0_ := Aside0.mk (Kd.R_drew HO_6.out)
  have n1_ := Aside0.mk (Kd.R_drew HO_7.out)
  have n2_ := Aside0.mk (Kd.R_drew HO_8.out)
  have n3_ := Aside0.mk (Kd.R_drew HO_12.out)
  have n4_ := Aside0.mk (Kd.R_drew HO_13.out)
  have n5_ := Aside0.mk (Kd.R_drew HO_14.out)
  have n6_ := Aside0.mk (Kd.R_drew HO_259002.out)
  have n7_ := Aside0.mk (Kd.R_drew HO_265002.out)
  have n8_ := Aside0.mk (blk_drew BK229.out)
  have n9_ := Aside0.mk (blk_drew BK230.out)
  have n10_ := Aside0.mk (blk_drew BK258.out)
  have n11_ := Aside0.mk (blk_drew BK264.out)
  have n12_ := Aside0.mk (below_drew1 HB.out)
  clear HO_6
  clear HO_7
  clear HO_8
  clear HO_12
  clear HO_13
  clear HO_14
  clear HO_259002
  clear HO_265002
  clear BK229
  clear BK230
  clear BK258
  clear BK264
  clear HB
  have HO_6 := n0_
  have HO_7 := n1_
  have HO_8 := n2_
  have HO_12 := n3_
  have HO_13 := n4_
  have HO_14 := n5_
  have HO_259002 := n6_
  have HO_265002 := n7_
  have BK229 := n8_
  have BK230 := n9_
  have BK258 := n10_
  have BK264 := n11_
  have HB := n12_
  clear n0_ n1_ n2_ n3_ n4_ n5_ n6_ n7_ n8_ n9_ n10_ n11_ n12_
  refine start_ (n := 5) (S := fun w' => w'.cell? ⟨gb258, 0, none⟩ = some (.int .i64 t253) ∧ w'.cell? ⟨gb258, 1, none⟩ = some (.int .i64 t254) ∧ w'.cell? ⟨gb258, 2, none⟩ = some (.slice Ao45 t255.length co45) ∧ w'.cell? ⟨gb229, 0, none⟩ = some (.int .i64 a0_0) ∧ w'.cell? ⟨gb229, 1, none⟩ = some (.int .i64 a0_1) ∧ w'.cell? ⟨gb229, 2, none⟩ = some (.slice A0_2 l0_2.length c0_2)) (ds := []) #[false, false, false, false, false] (by kernel_rfl) rfl rfl ⟨(blk_cell BK258.out 0).trans rfl, (blk_cell BK258.out 1).trans rfl, (blk_cell BK258.out 2).trans rfl, (blk_cell BK229.out 0).trans rfl, (blk_cell BK229.out 1).trans rfl, (blk_cell BK229.out 2).trans rfl⟩ (fun hHeld => ?_)
  generalize wc.drew = w78 at HO_6 HO_7 HO_8 HO_12 HO_13 HO_14 HO_259002 HO_265002 BK229 BK230 BK258 BK264 HB hHeld ⊢
  refine take_ (i := 0) (N := some 76) (v := ?_) (a' := ?_) #[true, false, false, false, false] rfl rfl (by kernel_rfl) (fun _ _ _ h => h) (Or.inl ⟨by rfl, ?_⟩) hHeld ?_ ?_
  rotate_left
  ·
   rintro w' ⟨s0, s1, s2, s3, s4, s5⟩
   go_simp
   with_reducible rfl
  rotate_left; · exact zqA
  refine take_ (i := 1) (N := some 77) (v := ?_) (a' := ?_) #[true, true, false, false, false] rfl rfl (by kernel_rfl) (fun _ _ _ h => h) (Or.inl ⟨by rfl, ?_⟩) hHeld ?_ ?_
  rotate_left
  ·
   rintro w' ⟨s0, s1, s2, s3, s4, s5⟩
   go_simp
   with_reducible rfl
  rotate_left; · exact zqA
  refine one_ (i := 2) (N := some 78) #[true, true, true, false, false] rfl rfl (by kernel_rfl) (by decide) (fun K hK => ?_)
  refine goes_ Try.func6 (by kernel_rfl) rfl #[.agg #[.int .i64 a0_0, .int .i64 a0_1, .slice A0_2 l0_2.length c0_2]] (by rfl) rfl rfl zq2 ?_
  with_reducible refine (laws_toBulletin.calls kj24 a0_0 a0_1 _ _ l0_2 t278 t279 t280 _ ?side1 ?side2 A69.out).mono ?_
  (case side1 => exact zqC (Kd.C_below HR0_2.out HB.out))
  (case side2 => exact HC0_2.out)
  rintro e w79 ⟨v281, rfl, ho0, hb⟩
  refine ⟨_, rfl, ?_⟩
  have n0_ := Aside0.mk (Kd.R_below (zqR HO_6.out) hb)
  have n1_ := Aside0.mk (Kd.R_below (zqR HO_7.out) hb)
  have n2_ := Aside0.mk (Kd.R_below (zqR HO_8.out) hb)
  have n3_ := Aside0.mk (Kd.R_below (zqR HO_12.out) hb)
  have n4_ := Aside0.mk (Kd.R_below (zqR HO_13.out) hb)
  have n5_ := Aside0.mk (Kd.R_below (zqR HO_14.out) hb)
  have n6_ := Aside0.mk (Kd.R_elder' (zqR HO_259002.out) (Kd.R_base ho0) hb)
  have n7_ := Aside0.mk (Kd.R_elder' (zqR HO_265002.out) (Kd.R_base ho0) hb)
  have n8_ := Aside0.mk (Kd.R_lower (Kd.R_new' (Kd.R_new' ho0 (Kd.R_lt (zqR HO_259002.out))) (Kd.R_lt (zqR HO_265002.out))) (below_size zq6))
  have n9_ := Aside0.mk (blk_below (g := gb229) (o := .cells #[.int .i64 a0_0, .int .i64 a0_1, .slice A0_2 l0_2.length c0_2] 24 (0, 0)) (zqK BK229.out) hb)
  have n10_ := Aside0.mk (blk_below (g := gb230) (o := .cells #[.int .i64 a1_0, .int .i64 a1_1, .slice A1_2 l1_2.length c1_2] 24 (0, 0)) (zqK BK230.out) hb)
  have n11_ := Aside0.mk (blk_below (g := gb258) (o := .cells #[.int .i64 t253, .int .i64 t254, .slice Ao45 t255.length co45] 31 (0, 0)) (zqK BK258.out) hb)
  have n12_ := Aside0.mk (blk_below (g := gb264) (o := .cells #[.int .i64 t259, .int .i64 t260, .slice Ao53 t261.length co53] 31 (0, 0)) (zqK BK264.out) hb)
  have n13_ := Aside0.mk (below_step zq6 hb)
  clear HO_6
  clear HO_7
  clear HO_8
  clear HO_12
  clear HO_13
  clear HO_14
  clear HO_259002
  clear HO_265002
  clear BK229
  clear BK230
  clear BK258
  clear BK264
  clear HB
  have HO_6 := n0_
  have HO_7 := n1_
  have HO_8 := n2_
  have HO_12 := n3_
  have HO_13 := n4_
  have HO_14 := n5_
  have HO_259002 := n6_
  have HO_265002 := n7_
  have HO282 := n8_
  have BK229 := n9_
  have BK230 := n10_
  have BK258 := n11_
  have BK264 := n12_
  have HB := n13_
  clear n0_ n1_ n2_ n3_ n4_ n5_ n6_ n7_ n8_ n9_ n10_ n11_ n12_ n13_
  (try clear hb)
  (try clear hb2)
  (try clear hk)
  (try clear hi)
  (try clear ho0)
  obtain ⟨Ao80, co80, eo80⟩ := Kd.R_slice HO282.out
  (first | subst eo80 | (injection eo80 with f1_ f2_ f3_; have f4_ := f1_.symm; have f5_ := f3_.symm; clear f1_ f2_ f3_; subst f4_; subst f5_))
  refine hK.out _ _ ⟨(blk_cell BK258.out 0).trans rfl, (blk_cell BK258.out 1).trans rfl, (blk_cell BK258.out 2).trans rfl, (blk_cell BK229.out 0).trans rfl, (blk_cell BK229.out 1).trans rfl, (blk_cell BK229.out 2).trans rfl⟩ (fun hHeld => ?_)
  clear hK K
  refine norm_ (a' := ?_) ?_ ?_
  rotate_left
  ·
   show Act.put _ (some 78) _ = _
   simp only [Act.put, List.setIfInBounds_toArray, List.set_cons_zero, List.set_cons_succ, i64_w, i32_w]
   rfl
  refine one_ (i := 3) (N := some 79) #[true, true, true, true, false] rfl rfl (by kernel_rfl) (by decide) (fun K hK => ?_)
  refine goes_ Try.func9 (by kernel_rfl) rfl #[.agg #[.int .i64 t253, .int .i64 t254, .slice Ao45 t255.length co45], .agg #[.int .i64 t278, .int .i64 t279, .slice Ao80 t280.length co80]] (by rfl) rfl rfl zq2 ?_
  with_reducible refine (laws_eqBulletin.calls kj24 t253 t254 _ _ t255 t278 t279 _ _ t280 true _ ?side1 ?side2 ?side3 ?side4 A70.out).mono ?_
  (case side1 => exact zqC (Kd.R_reads' HO_259002.out).2.2)
  (case side2 => exact (Kd.R_reads' HO_259002.out).2.1)
  (case side3 => exact zqC (Kd.R_reads' HO282.out).2.2)
  (case side4 => exact (Kd.R_reads' HO282.out).2.1)
  rintro e w81 ⟨rfl, hb⟩
  refine ⟨_, rfl, ?_⟩
  have n0_ := Aside0.mk (Kd.R_below (zqR HO_6.out) hb)
  have n1_ := Aside0.mk (Kd.R_below (zqR HO_7.out) hb)
  have n2_ := Aside0.mk (Kd.R_below (zqR HO_8.out) hb)
  have n3_ := Aside0.mk (Kd.R_below (zqR HO_12.out) hb)
  have n4_ := Aside0.mk (Kd.R_below (zqR HO_13.out) hb)
  have n5_ := Aside0.mk (Kd.R_below (zqR HO_14.out) hb)
  have n6_ := Aside0.mk (Kd.R_below (zqR HO_259002.out) hb)
  have n7_ := Aside0.mk (Kd.R_below (zqR HO_265002.out) hb)
  have n8_ := Aside0.mk (Kd.R_below (zqR HO282.out) hb)
  have n9_ := Aside0.mk (blk_below (g := gb229) (o := .cells #[.int .i64 a0_0, .int .i64 a0_1, .slice A0_2 l0_2.length c0_2] 24 (0, 0)) (zqK BK229.out) hb)
  have n10_ := Aside0.mk (blk_below (g := gb230) (o := .cells #[.int .i64 a1_0, .int .i64 a1_1, .slice A1_2 l1_2.length c1_2] 24 (0, 0)) (zqK BK230.out) hb)
  have n11_ := Aside0.mk (blk_below (g := gb258) (o := .cells #[.int .i64 t253, .int .i64 t254, .slice Ao45 t255.length co45] 31 (0, 0)) (zqK BK258.out) hb)
  have n12_ := Aside0.mk (blk_below (g := gb264) (o := .cells #[.int .i64 t259, .int .i64 t260, .slice Ao53 t261.length co53] 31 (0, 0)) (zqK BK264.out) hb)
  have n13_ := Aside0.mk (below_step zq6 hb)
  clear HO_6
  clear HO_7
  clear HO_8
  clear HO_12
  clear HO_13
  clear HO_14
  clear HO_259002
  clear HO_265002
  clear HO282
  clear BK229
  clear BK230
  clear BK258
  clear BK264
  clear HB
  have HO_6 := n0_
  have HO_7 := n1_
  have HO_8 := n2_
  have HO_12 := n3_
  have HO_13 := n4_
  have HO_14 := n5_
  have HO_259002 := n6_
  have HO_265002 := n7_
  have HO282 := n8_
  have BK229 := n9_
  have BK230 := n10_
  have BK258 := n11_
  have BK264 := n12_
  have HB := n13_
  clear n0_ n1_ n2_ n3_ n4_ n5_ n6_ n7_ n8_ n9_ n10_ n11_ n12_ n13_
  (try clear hb)
  (try clear hb2)
  (try clear hk)
  (try clear hi)
  refine hK.out _ _ ⟨(blk_cell BK258.out 0).trans rfl, (blk_cell BK258.out 1).trans rfl, (blk_cell BK258.out 2).trans rfl, (blk_cell BK229.out 0).trans rfl, (blk_cell BK229.out 1).trans rfl, (blk_cell BK229.out 2).trans rfl⟩ (fun hHeld => ?_)
  clear hK K
  refine norm_ (a' := ?_) ?_ ?_
  rotate_left
  ·
   show Act.put _ (some 79) _ = _
   simp only [Act.put, List.setIfInBounds_toArray, List.set_cons_zero, List.set_cons_succ, i64_w, i32_w]
   rfl
  refine pure_ (i := 4) (N := some 80) (v := ?_) (a' := ?_) #[true, true, true, true, true] rfl rfl (by kernel_rfl) (fun _ _ _ h => h) (Or.inl ⟨by rfl, ?_⟩) ?_ ?_
  rotate_left; · exact zqB
  rotate_left; · exact zqA
  refine done_ (by kernel_rfl) ?_
  try go_wp2
  have n0_ := Aside0.mk (Kd.R_drew HO_6.out)
  have n1_ := Aside0.mk (Kd.R_drew HO_7.out)
  have n2_ := Aside0.mk (Kd.R_drew HO_8.out)
  have n3_ := Aside0.mk (Kd.R_drew HO_12.out)
  have n4_ := Aside0.mk (Kd.R_drew HO_13.out)
  have n5_ := Aside0.mk (Kd.R_drew HO_14.out)
  have n6_ := Aside0.mk (Kd.R_drew HO_259002.out)
  have n7_ := Aside0.mk (Kd.R_drew HO_265002.out)
  have n8_ := Aside0.mk (Kd.R_drew HO282.out)
  have n9_ := Aside0.mk (blk_drew BK229.out)
  have n10_ := Aside0.mk (blk_drew BK230.out)
  have n11_ := Aside0.mk (blk_drew BK258.out)
  have n12_ := Aside0.mk (blk_drew BK264.out)
  have n13_ := Aside0.mk (below_drew1 HB.out)
  clear HO_6
  clear HO_7
  clear HO_8
  clear HO_12
  clear HO_13
  clear HO_14
  clear HO_259002
  clear HO_265002
  clear HO282
  clear BK229
  clear BK230
  clear BK258
  clear BK264
  clear HB
  have HO_6 := n0_
  have HO_7 := n1_
  have HO_8 := n2_
  have HO_12 := n3_
  have HO_13 := n4_
  have HO_14 := n5_
  have HO_259002 := n6_
  have HO_265002 := n7_
  have HO282 := n8_
  have BK229 := n9_
  have BK230 := n10_
  have BK258 := n11_
  have BK264 := n12_
  have HB := n13_
  clear n0_ n1_ n2_ n3_ n4_ n5_ n6_ n7_ n8_ n9_ n10_ n11_ n12_ n13_
  refine start_ (n := 5) (S := fun w' => w'.cell? ⟨gb264, 0, none⟩ = some (.int .i64 t259) ∧ w'.cell? ⟨gb264, 1, none⟩ = some (.int .i64 t260) ∧ w'.cell? ⟨gb264, 2, none⟩ = some (.slice Ao53 t261.length co53) ∧ w'.cell? ⟨gb230, 0, none⟩ = some (.int .i64 a1_0) ∧ w'.cell? ⟨gb230, 1, none⟩ = some (.int .i64 a1_1) ∧ w'.cell? ⟨gb230, 2, none⟩ = some (.slice A1_2 l1_2.length c1_2)) (ds := []) #[false, false, false, false, false] (by kernel_rfl) rfl rfl ⟨(blk_cell BK264.out 0).trans rfl, (blk_cell BK264.out 1).trans rfl, (blk_cell BK264.out 2).trans rfl, (blk_cell BK230.out 0).trans rfl, (blk_cell BK230.out 1).trans rfl, (blk_cell BK230.out 2).trans rfl⟩ (fun hHeld => ?_)
  generalize w81.drew = w82 at HO_6 HO_7 HO_8 HO_12 HO_13 HO_14 HO_259002 HO_265002 HO282 BK229 BK230 BK258 BK264 HB hHeld ⊢
  refine take_ (i := 0) (N := some 81) (v := ?_) (a' := ?_) #[true, false, false, false, false] rfl rfl (by kernel_rfl) (fun _ _ _ h => h) (Or.inl ⟨by rfl, ?_⟩) hHeld ?_ ?_
  rotate_left
  ·
   rintro w' ⟨s0, s1, s2, s3, s4, s5⟩
   go_simp
   with_reducible rfl
  rotate_left; · exact zqA
  refine take_ (i := 1) (N := some 82) (v := ?_) (a' := ?_) #[true, true, false, false, false] rfl rfl (by kernel_rfl) (fun _ _ _ h => h) (Or.inl ⟨by rfl, ?_⟩) hHeld ?_ ?_
  rotate_left
  ·
   rintro w' ⟨s0, s1, s2, s3, s4, s5⟩
   go_simp
   with_reducible rfl
  rotate_left; · exact zqA
  refine one_ (i := 2) (N := some 83) #[true, true, true, false, false] rfl rfl (by kernel_rfl) (by decide) (fun K hK => ?_)
  refine goes_ Try.func6 (by kernel_rfl) rfl #[.agg #[.int .i64 a1_0, .int .i64 a1_1, .slice A1_2 l1_2.length c1_2]] (by rfl) rfl rfl zq2 ?_
  with_reducible refine (laws_toBulletin.calls kj24 a1_0 a1_1 _ _ l1_2 t284 t285 t286 _ ?side1 ?side2 A72.out).mono ?_
  (case side1 => exact zqC (Kd.C_below HR1_2.out HB.out))
  (case side2 => exact HC1_2.out)
  rintro e w83 ⟨v287, rfl, ho0, hb⟩
  refine ⟨_, rfl, ?_⟩
  have n0_ := Aside0.mk (Kd.R_below (zqR HO_6.out) hb)
  have n1_ := Aside0.mk (Kd.R_below (zqR HO_7.out) hb)
  have n2_ := Aside0.mk (Kd.R_below (zqR HO_8.out) hb)
  have n3_ := Aside0.mk (Kd.R_below (zqR HO_12.out) hb)
  have n4_ := Aside0.mk (Kd.R_below (zqR HO_13.out) hb)
  have n5_ := Aside0.mk (Kd.R_below (zqR HO_14.out) hb)
  have n6_ := Aside0.mk (Kd.R_elder' (zqR HO_259002.out) (Kd.R_base ho0) hb)
  have n7_ := Aside0.mk (Kd.R_elder' (zqR HO_265002.out) (Kd.R_base ho0) hb)
  have n8_ := Aside0.mk (Kd.R_elder' (zqR HO282.out) (Kd.R_base ho0) hb)
  have n9_ := Aside0.mk (Kd.R_lower (Kd.R_new' (Kd.R_new' (Kd.R_new' ho0 (Kd.R_lt (zqR HO_259002.out))) (Kd.R_lt (zqR HO_265002.out))) (Kd.R_lt (zqR HO282.out))) (below_size zq6))
  have n10_ := Aside0.mk (blk_below (g := gb229) (o := .cells #[.int .i64 a0_0, .int .i64 a0_1, .slice A0_2 l0_2.length c0_2] 24 (0, 0)) (zqK BK229.out) hb)
  have n11_ := Aside0.mk (blk_below (g := gb230) (o := .cells #[.int .i64 a1_0, .int .i64 a1_1, .slice A1_2 l1_2.length c1_2] 24 (0, 0)) (zqK BK230.out) hb)
  have n12_ := Aside0.mk (blk_below (g := gb258) (o := .cells #[.int .i64 t253, .int .i64 t254, .slice Ao45 t255.length co45] 31 (0, 0)) (zqK BK258.out) hb)
  have n13_ := Aside0.mk (blk_below (g := gb264) (o := .cells #[.int .i64 t259, .int .i64 t260, .slice Ao53 t261.length co53] 31 (0, 0)) (zqK BK264.out) hb)
  have n14_ := Aside0.mk (below_step zq6 hb)
  clear HO_6
  clear HO_7
  clear HO_8
  clear HO_12
  clear HO_13
  clear HO_14
  clear HO_259002
  clear HO_265002
  clear HO282
  clear BK229
  clear BK230
  clear BK258
  clear BK264
  clear HB
  have HO_6 := n0_
  have HO_7 := n1_
  have HO_8 := n2_
  have HO_12 := n3_
  have HO_13 := n4_
  have HO_14 := n5_
  have HO_259002 := n6_
  have HO_265002 := n7_
  have HO282 := n8_
  have HO288 := n9_
  have BK229 := n10_
  have BK230 := n11_
  have BK258 := n12_
  have BK264 := n13_
  have HB := n14_
  clear n0_ n1_ n2_ n3_ n4_ n5_ n6_ n7_ n8_ n9_ n10_ n11_ n12_ n13_ n14_
  (try clear hb)
  (try clear hb2)
  (try clear hk)
  (try clear hi)
  (try clear ho0)
  obtain ⟨Ao84, co84, eo84⟩ := Kd.R_slice HO288.out
  (first | subst eo84 | (injection eo84 with f1_ f2_ f3_; have f4_ := f1_.symm; have f5_ := f3_.symm; clear f1_ f2_ f3_; subst f4_; subst f5_))
  refine hK.out _ _ ⟨(blk_cell BK264.out 0).trans rfl, (blk_cell BK264.out 1).trans rfl, (blk_cell BK264.out 2).trans rfl, (blk_cell BK230.out 0).trans rfl, (blk_cell BK230.out 1).trans rfl, (blk_cell BK230.out 2).trans rfl⟩ (fun hHeld => ?_)
  clear hK K
  refine norm_ (a' := ?_) ?_ ?_
  rotate_left
  ·
   show Act.put _ (some 83) _ = _
   simp only [Act.put, List.setIfInBounds_toArray, List.set_cons_zero, List.set_cons_succ, i64_w, i32_w]
   rfl
  refine one_ (i := 3) (N := some 84) #[true, true, true, true, false] rfl rfl (by kernel_rfl) (by decide) (fun K hK => ?_)
  refine goes_ Try.func9 (by kernel_rfl) rfl #[.agg #[.int .i64 t259, .int .i64 t260, .slice Ao53 t261.length co53], .agg #[.int .i64 t284, .int .i64 t285, .slice Ao84 t286.length co84]] (by rfl) rfl rfl zq2 ?_
  with_reducible refine (laws_eqBulletin.calls kj24 t259 t260 _ _ t261 t284 t285 _ _ t286 true _ ?side1 ?side2 ?side3 ?side4 A73.out).mono ?_
  (case side1 => exact zqC (Kd.R_reads' HO_265002.out).2.2)
  (case side2 => exact (Kd.R_reads' HO_265002.out).2.1)
  (case side3 => exact zqC (Kd.R_reads' HO288.out).2.2)
  (case side4 => exact (Kd.R_reads' HO288.out).2.1)
  rintro e w85 ⟨rfl, hb⟩
  refine ⟨_, rfl, ?_⟩
  have n0_ := Aside0.mk (Kd.R_below (zqR HO_6.out) hb)
  have n1_ := Aside0.mk (Kd.R_below (zqR HO_7.out) hb)
  have n2_ := Aside0.mk (Kd.R_below (zqR HO_8.out) hb)
  have n3_ := Aside0.mk (Kd.R_below (zqR HO_12.out) hb)
  have n4_ := Aside0.mk (Kd.R_below (zqR HO_13.out) hb)
  have n5_ := Aside0.mk (Kd.R_below (zqR HO_14.out) hb)
  have n6_ := Aside0.mk (Kd.R_below (zqR HO_259002.out) hb)
  have n7_ := Aside0.mk (Kd.R_below (zqR HO_265002.out) hb)
  have n8_ := Aside0.mk (Kd.R_below (zqR HO282.out) hb)
  have n9_ := Aside0.mk (Kd.R_below (zqR HO288.out) hb)
  have n10_ := Aside0.mk (blk_below (g := gb229) (o := .cells #[.int .i64 a0_0, .int .i64 a0_1, .slice A0_2 l0_2.length c0_2] 24 (0, 0)) (zqK BK229.out) hb)
  have n11_ := Aside0.mk (blk_below (g := gb230) (o := .cells #[.int .i64 a1_0, .int .i64 a1_1, .slice A1_2 l1_2.length c1_2] 24 (0, 0)) (zqK BK230.out) hb)
  have n12_ := Aside0.mk (blk_below (g := gb258) (o := .cells #[.int .i64 t253, .int .i64 t254, .slice Ao45 t255.length co45] 31 (0, 0)) (zqK BK258.out) hb)
  have n13_ := Aside0.mk (blk_below (g := gb264) (o := .cells #[.int .i64 t259, .int .i64 t260, .slice Ao53 t261.length co53] 31 (0, 0)) (zqK BK264.out) hb)
  have n14_ := Aside0.mk (below_step zq6 hb)
  clear HO_6
  clear HO_7
  clear HO_8
  clear HO_12
  clear HO_13
  clear HO_14
  clear HO_259002
  clear HO_265002
  clear HO282
  clear HO288
  clear BK229
  clear BK230
  clear BK258
  clear BK264
  clear HB
  have HO_6 := n0_
  have HO_7 := n1_
  have HO_8 := n2_
  have HO_12 := n3_
  have HO_13 := n4_
  have HO_14 := n5_
  have HO_259002 := n6_
  have HO_265002 := n7_
  have HO282 := n8_
  have HO288 := n9_
  have BK229 := n10_
  have BK230 := n11_
  have BK258 := n12_
  have BK264 := n13_
  have HB := n14_
  clear n0_ n1_ n2_ n3_ n4_ n5_ n6_ n7_ n8_ n9_ n10_ n11_ n12_ n13_ n14_
  (try clear hb)
  (try clear hb2)
  (try clear hk)
  (try clear hi)
  refine hK.out _ _ ⟨(blk_cell BK264.out 0).trans rfl, (blk_cell BK264.out 1).trans rfl, (blk_cell BK264.out 2).trans rfl, (blk_cell BK230.out 0).trans rfl, (blk_cell BK230.out 1).trans rfl, (blk_cell BK230.out 2).trans rfl⟩ (fun hHeld => ?_)
  clear hK K
  refine norm_ (a' := ?_) ?_ ?_
  rotate_left
  ·
   show Act.put _ (some 84) _ = _
   simp only [Act.put, List.setIfInBounds_toArray, List.set_cons_zero, List.set_cons_succ, i64_w, i32_w]
   rfl
  refine pure_ (i := 4) (N := some 85) (v := ?_) (a' := ?_) #[true, true, true, true, true] rfl rfl (by kernel_rfl) (fun _ _ _ h => h) (Or.inl ⟨by rfl, ?_⟩) ?_ ?_
  rotate_left; · exact zqB
  rotate_left; · exact zqA
  refine done_ (by kernel_rfl) ?_
  have hnb86 := NB258_229.out
  have hnc86 := NB229_258.out
  have hnb87 := NB258_230.out
  have hnc87 := NB230_258.out
  have hnb88 := NB258_264.out
  have hnc88 := NB264_258.out
  have hcz89_0 := bz BK258.out 0 (.int .i64 t253)
  have hcz89_1 := bz BK258.out 1 (.int .i64 t254)
  have hcz89_2 := bz BK258.out 2 (.slice Ao45 t255.length co45)
  have hfz89_0 := blk_frozen BK258.out 0
  have hfz89_1 := blk_frozen BK258.out 1
  have hfz89_2 := blk_frozen BK258.out 2
  go_upto_region 21 with (first | ((with_reducible refine gate_callee (f := 10) rfl ?_); refine goesL_ (some 88) rfl rfl Try.func10 (by kernel_rfl) rfl #[.agg #[.int .i64 t253, .int .i64 t254, .slice Ao45 t255.length co45], .int .i64 1] rfl zq2 ?_; (with_reducible refine (laws_markBulletin.calls kj24 t253 t254 (fun k_ => some k_ = (.slice Ao45 t255.length co45 : Value).ownBlock) (.slice Ao45 t255.length co45) t255 1 t290 t291 w _ ?side1 ?side2 A75.out).mono ?_); (case side1 => repeat (first | (with_reducible first | exact HB.out | apply below_alloc | apply pw_below_drewN | apply below_drew1 | refine below_set ?_ GE229.out | refine below_set ?_ GE230.out | refine below_set ?_ GE258.out | refine below_set ?_ GE264.out) | exact HB.out)); (case side2 => exact Kd.R_tight rfl HO_259002.out); rintro e w90 ⟨rfl, hy0, hb, hkp⟩; refine ⟨_, rfl, ?_⟩; have n0_ := Aside0.mk (Kd.R_mono (ok' := fun k_ => some k_ ≠ (v247 : Value).ownBlock ∧ some k_ ≠ (v250 : Value).ownBlock ∧ some k_ ≠ (v266 : Value).ownBlock ∧ some k_ ≠ (v269 : Value).ownBlock ∧ some k_ ≠ (v272 : Value).ownBlock) (Kd.R_keptB ((Kd.R_apart' HO_6.out (Kd.R_typed HO_259002.out) (by decide))) hkp (fun k_ hk_ hs_ => (hk_.2) hs_)) (fun k_ hk_ => ⟨hk_.1.1.1, hk_.1.1.2.1, hk_.1.1.2.2.1, hk_.1.1.2.2.2.1, hk_.1.1.2.2.2.2⟩)); have n1_ := Aside0.mk (Kd.R_mono (ok' := fun k_ => some k_ ≠ (v244 : Value).ownBlock ∧ some k_ ≠ (v250 : Value).ownBlock ∧ some k_ ≠ (v266 : Value).ownBlock ∧ some k_ ≠ (v269 : Value).ownBlock ∧ some k_ ≠ (v272 : Value).ownBlock) (Kd.R_keptB ((Kd.R_apart' HO_7.out (Kd.R_typed HO_259002.out) (by decide))) hkp (fun k_ hk_ hs_ => (hk_.2) hs_)) (fun k_ hk_ => ⟨hk_.1.1.1, hk_.1.1.2.1, hk_.1.1.2.2.1, hk_.1.1.2.2.2.1, hk_.1.1.2.2.2.2⟩)); have n2_ := Aside0.mk (Kd.R_mono (ok' := fun k_ => some k_ ≠ (v244 : Value).ownBlock ∧ some k_ ≠ (v247 : Value).ownBlock ∧ some k_ ≠ (v266 : Value).ownBlock ∧ some k_ ≠ (v269 : Value).ownBlock ∧ some k_ ≠ (v272 : Value).ownBlock) (Kd.R_keptB ((Kd.R_apart' HO_8.out (Kd.R_typed HO_259002.out) (by decide))) hkp (fun k_ hk_ hs_ => (hk_.2) hs_)) (fun k_ hk_ => ⟨hk_.1.1.1, hk_.1.1.2.1, hk_.1.1.2.2.1, hk_.1.1.2.2.2.1, hk_.1.1.2.2.2.2⟩)); have n3_ := Aside0.mk (Kd.R_mono (ok' := fun k_ => some k_ ≠ (v244 : Value).ownBlock ∧ some k_ ≠ (v247 : Value).ownBlock ∧ some k_ ≠ (v250 : Value).ownBlock ∧ some k_ ≠ (v269 : Value).ownBlock ∧ some k_ ≠ (v272 : Value).ownBlock) (Kd.R_keptB ((Kd.R_apart' HO_12.out (Kd.R_typed HO_259002.out) (by decide))) hkp (fun k_ hk_ hs_ => (hk_.2) hs_)) (fun k_ hk_ => ⟨hk_.1.1.1, hk_.1.1.2.1, hk_.1.1.2.2.1, hk_.1.1.2.2.2.1, hk_.1.1.2.2.2.2⟩)); have n4_ := Aside0.mk (Kd.R_mono (ok' := fun k_ => some k_ ≠ (v244 : Value).ownBlock ∧ some k_ ≠ (v247 : Value).ownBlock ∧ some k_ ≠ (v250 : Value).ownBlock ∧ some k_ ≠ (v266 : Value).ownBlock ∧ some k_ ≠ (v272 : Value).ownBlock) (Kd.R_keptB ((Kd.R_apart' HO_13.out (Kd.R_typed HO_259002.out) (by decide))) hkp (fun k_ hk_ hs_ => (hk_.2) hs_)) (fun k_ hk_ => ⟨hk_.1.1.1, hk_.1.1.2.1, hk_.1.1.2.2.1, hk_.1.1.2.2.2.1, hk_.1.1.2.2.2.2⟩)); have n5_ := Aside0.mk (Kd.R_mono (ok' := fun k_ => some k_ ≠ (v244 : Value).ownBlock ∧ some k_ ≠ (v247 : Value).ownBlock ∧ some k_ ≠ (v250 : Value).ownBlock ∧ some k_ ≠ (v266 : Value).ownBlock ∧ some k_ ≠ (v269 : Value).ownBlock) (Kd.R_keptB ((Kd.R_apart' HO_14.out (Kd.R_typed HO_259002.out) (by decide))) hkp (fun k_ hk_ hs_ => (hk_.2) hs_)) (fun k_ hk_ => ⟨hk_.1.1.1, hk_.1.1.2.1, hk_.1.1.2.2.1, hk_.1.1.2.2.2.1, hk_.1.1.2.2.2.2⟩)); have n6_ := Aside0.mk (Kd.R_reok rfl hy0 (fun k_ e_ => HO_259002.out.1 k_ e_)); have n7_ := Aside0.mk (Kd.R_mono (ok' := fun k_ => some k_ ≠ (.slice Ao45 t255.length co45 : Value).ownBlock ∧ some k_ ≠ (.slice Ao80 t280.length co80 : Value).ownBlock ∧ some k_ ≠ (.slice Ao84 t286.length co84 : Value).ownBlock) (Kd.R_keptB (HO_265002.out) hkp (fun k_ hk_ hs_ => (hk_.1.1) hs_)) (fun k_ hk_ => ⟨hk_.1.1.1, hk_.1.1.2, hk_.1.2⟩)); have n8_ := Aside0.mk (blk_kept (zqK BK229.out) hkp (fun hs_ => (fun e_ => (Kd.R_ne HO_259002.out BK229.out (by decide)) e_) hs_)); have n9_ := Aside0.mk (blk_kept (zqK BK230.out) hkp (fun hs_ => (fun e_ => (Kd.R_ne HO_259002.out BK230.out (by decide)) e_) hs_)); have n10_ := Aside0.mk (blk_kept (zqK BK258.out) hkp (fun hs_ => (fun e_ => (Kd.R_ne HO_259002.out BK258.out (by decide)) e_) hs_)); have n11_ := Aside0.mk (blk_kept (zqK BK264.out) hkp (fun hs_ => (fun e_ => (Kd.R_ne HO_259002.out BK264.out (by decide)) e_) hs_)); have n12_ := Aside0.mk (Kd.R_mono (ok' := fun k_ => some k_ ≠ (.slice Ao45 t255.length co45 : Value).ownBlock ∧ some k_ ≠ (.slice Ao53 t261.length co53 : Value).ownBlock ∧ some k_ ≠ (.slice Ao84 t286.length co84 : Value).ownBlock) (Kd.R_keptB (HO282.out) hkp (fun k_ hk_ hs_ => (hk_.1.1.2) hs_)) (fun k_ hk_ => ⟨hk_.1.1.1.2, hk_.1.1.2, hk_.1.2⟩)); have n13_ := Aside0.mk (Kd.R_mono (ok' := fun k_ => some k_ ≠ (.slice Ao45 t255.length co45 : Value).ownBlock ∧ some k_ ≠ (.slice Ao53 t261.length co53 : Value).ownBlock ∧ some k_ ≠ (.slice Ao80 t280.length co80 : Value).ownBlock) (Kd.R_keptB (HO288.out) hkp (fun k_ hk_ hs_ => (hk_.1.1.2) hs_)) (fun k_ hk_ => ⟨hk_.1.1.1.2, hk_.1.1.2, hk_.1.2⟩)); have n14_ := Aside0.mk (hb); clear HO_6; clear HO_7; clear HO_8; clear HO_12; clear HO_13; clear HO_14; clear HO_259002; clear HO_265002; clear BK229; clear BK230; clear BK258; clear BK264; clear HO282; clear HO288; clear HB; have HO_6 := n0_; have HO_7 := n1_; have HO_8 := n2_; have HO_12 := n3_; have HO_13 := n4_; have HO_14 := n5_; have HO_259002 := n6_; have HO_265002 := n7_; have BK229 := n8_; have BK230 := n9_; have BK258 := n10_; have BK264 := n11_; have HO282 := n12_; have HO288 := n13_; have HB := n14_; clear n0_ n1_ n2_ n3_ n4_ n5_ n6_ n7_ n8_ n9_ n10_ n11_ n12_ n13_ n14_; (try clear hb); (try clear hkp); (try clear hy0); have hnb91 := NB264_229.out; have hnc91 := NB229_264.out; have hnb92 := NB264_230.out; have hnc92 := NB230_264.out; have hcz93_0 := bz BK264.out 0 (.int .i64 t259); have hcz93_1 := bz BK264.out 1 (.int .i64 t260); have hcz93_2 := bz BK264.out 2 (.slice Ao53 t261.length co53); have hfz93_0 := blk_frozen BK264.out 0; have hfz93_1 := blk_frozen BK264.out 1; have hfz93_2 := blk_frozen BK264.out 2) | ((with_reducible refine gate_callee (f := 10) rfl ?_); refine goesL_ (some 91) rfl rfl Try.func10 (by kernel_rfl) rfl #[.agg #[.int .i64 t259, .int .i64 t260, .slice Ao53 t261.length co53], .int .i64 t290] rfl zq2 ?_; (with_reducible refine (laws_markBulletin.calls kj24 t259 t260 (fun k_ => some k_ = (.slice Ao53 t261.length co53 : Value).ownBlock) (.slice Ao53 t261.length co53) t261 t290 t292 t293 w _ ?side1 ?side2 A76.out).mono ?_); (case side1 => repeat (first | (with_reducible first | exact HB.out | apply below_alloc | apply pw_below_drewN | apply below_drew1 | refine below_set ?_ GE229.out | refine below_set ?_ GE230.out | refine below_set ?_ GE258.out | refine below_set ?_ GE264.out) | exact HB.out)); (case side2 => exact Kd.R_tight rfl HO_265002.out); rintro e w94 ⟨rfl, hy0, hb, hkp⟩; refine ⟨_, rfl, ?_⟩; have n0_ := Aside0.mk (Kd.R_mono (ok' := fun k_ => some k_ ≠ (v247 : Value).ownBlock ∧ some k_ ≠ (v250 : Value).ownBlock ∧ some k_ ≠ (v266 : Value).ownBlock ∧ some k_ ≠ (v269 : Value).ownBlock ∧ some k_ ≠ (v272 : Value).ownBlock) (Kd.R_keptB ((Kd.R_apart' HO_6.out (Kd.R_typed HO_265002.out) (by decide))) hkp (fun k_ hk_ hs_ => (hk_.2) hs_)) (fun k_ hk_ => ⟨hk_.1.1.1, hk_.1.1.2.1, hk_.1.1.2.2.1, hk_.1.1.2.2.2.1, hk_.1.1.2.2.2.2⟩)); have n1_ := Aside0.mk (Kd.R_mono (ok' := fun k_ => some k_ ≠ (v244 : Value).ownBlock ∧ some k_ ≠ (v250 : Value).ownBlock ∧ some k_ ≠ (v266 : Value).ownBlock ∧ some k_ ≠ (v269 : Value).ownBlock ∧ some k_ ≠ (v272 : Value).ownBlock) (Kd.R_keptB ((Kd.R_apart' HO_7.out (Kd.R_typed HO_265002.out) (by decide))) hkp (fun k_ hk_ hs_ => (hk_.2) hs_)) (fun k_ hk_ => ⟨hk_.1.1.1, hk_.1.1.2.1, hk_.1.1.2.2.1, hk_.1.1.2.2.2.1, hk_.1.1.2.2.2.2⟩)); have n2_ := Aside0.mk (Kd.R_mono (ok' := fun k_ => some k_ ≠ (v244 : Value).ownBlock ∧ some k_ ≠ (v247 : Value).ownBlock ∧ some k_ ≠ (v266 : Value).ownBlock ∧ some k_ ≠ (v269 : Value).ownBlock ∧ some k_ ≠ (v272 : Value).ownBlock) (Kd.R_keptB ((Kd.R_apart' HO_8.out (Kd.R_typed HO_265002.out) (by decide))) hkp (fun k_ hk_ hs_ => (hk_.2) hs_)) (fun k_ hk_ => ⟨hk_.1.1.1, hk_.1.1.2.1, hk_.1.1.2.2.1, hk_.1.1.2.2.2.1, hk_.1.1.2.2.2.2⟩)); have n3_ := Aside0.mk (Kd.R_mono (ok' := fun k_ => some k_ ≠ (v244 : Value).ownBlock ∧ some k_ ≠ (v247 : Value).ownBlock ∧ some k_ ≠ (v250 : Value).ownBlock ∧ some k_ ≠ (v269 : Value).ownBlock ∧ some k_ ≠ (v272 : Value).ownBlock) (Kd.R_keptB ((Kd.R_apart' HO_12.out (Kd.R_typed HO_265002.out) (by decide))) hkp (fun k_ hk_ hs_ => (hk_.2) hs_)) (fun k_ hk_ => ⟨hk_.1.1.1, hk_.1.1.2.1, hk_.1.1.2.2.1, hk_.1.1.2.2.2.1, hk_.1.1.2.2.2.2⟩)); have n4_ := Aside0.mk (Kd.R_mono (ok' := fun k_ => some k_ ≠ (v244 : Value).ownBlock ∧ some k_ ≠ (v247 : Value).ownBlock ∧ some k_ ≠ (v250 : Value).ownBlock ∧ some k_ ≠ (v266 : Value).ownBlock ∧ some k_ ≠ (v272 : Value).ownBlock) (Kd.R_keptB ((Kd.R_apart' HO_13.out (Kd.R_typed HO_265002.out) (by decide))) hkp (fun k_ hk_ hs_ => (hk_.2) hs_)) (fun k_ hk_ => ⟨hk_.1.1.1, hk_.1.1.2.1, hk_.1.1.2.2.1, hk_.1.1.2.2.2.1, hk_.1.1.2.2.2.2⟩)); have n5_ := Aside0.mk (Kd.R_mono (ok' := fun k_ => some k_ ≠ (v244 : Value).ownBlock ∧ some k_ ≠ (v247 : Value).ownBlock ∧ some k_ ≠ (v250 : Value).ownBlock ∧ some k_ ≠ (v266 : Value).ownBlock ∧ some k_ ≠ (v269 : Value).ownBlock) (Kd.R_keptB ((Kd.R_apart' HO_14.out (Kd.R_typed HO_265002.out) (by decide))) hkp (fun k_ hk_ hs_ => (hk_.2) hs_)) (fun k_ hk_ => ⟨hk_.1.1.1, hk_.1.1.2.1, hk_.1.1.2.2.1, hk_.1.1.2.2.2.1, hk_.1.1.2.2.2.2⟩)); have n6_ := Aside0.mk (Kd.R_mono (ok' := fun k_ => some k_ ≠ (.slice Ao53 t261.length co53 : Value).ownBlock ∧ some k_ ≠ (.slice Ao80 t280.length co80 : Value).ownBlock ∧ some k_ ≠ (.slice Ao84 t286.length co84 : Value).ownBlock) (Kd.R_keptB (HO_259002.out) hkp (fun k_ hk_ hs_ => (hk_.1.1) hs_)) (fun k_ hk_ => ⟨hk_.1.1.1, hk_.1.1.2, hk_.1.2⟩)); have n7_ := Aside0.mk (Kd.R_reok rfl hy0 (fun k_ e_ => HO_265002.out.1 k_ e_)); have n8_ := Aside0.mk (blk_kept (zqK BK229.out) hkp (fun hs_ => (fun e_ => (Kd.R_ne HO_265002.out BK229.out (by decide)) e_) hs_)); have n9_ := Aside0.mk (blk_kept (zqK BK230.out) hkp (fun hs_ => (fun e_ => (Kd.R_ne HO_265002.out BK230.out (by decide)) e_) hs_)); have n10_ := Aside0.mk (blk_kept (zqK BK258.out) hkp (fun hs_ => (fun e_ => (Kd.R_ne HO_265002.out BK258.out (by decide)) e_) hs_)); have n11_ := Aside0.mk (blk_kept (zqK BK264.out) hkp (fun hs_ => (fun e_ => (Kd.R_ne HO_265002.out BK264.out (by decide)) e_) hs_)); have n12_ := Aside0.mk (Kd.R_mono (ok' := fun k_ => some k_ ≠ (.slice Ao45 t255.length co45 : Value).ownBlock ∧ some k_ ≠ (.slice Ao53 t261.length co53 : Value).ownBlock ∧ some k_ ≠ (.slice Ao84 t286.length co84 : Value).ownBlock) (Kd.R_keptB (HO282.out) hkp (fun k_ hk_ hs_ => (hk_.2.1) hs_)) (fun k_ hk_ => ⟨hk_.1.1, hk_.1.2.1, hk_.1.2.2⟩)); have n13_ := Aside0.mk (Kd.R_mono (ok' := fun k_ => some k_ ≠ (.slice Ao45 t255.length co45 : Value).ownBlock ∧ some k_ ≠ (.slice Ao53 t261.length co53 : Value).ownBlock ∧ some k_ ≠ (.slice Ao80 t280.length co80 : Value).ownBlock) (Kd.R_keptB (HO288.out) hkp (fun k_ hk_ hs_ => (hk_.2.1) hs_)) (fun k_ hk_ => ⟨hk_.1.1, hk_.1.2.1, hk_.1.2.2⟩)); have n14_ := Aside0.mk (hb); clear HO_6; clear HO_7; clear HO_8; clear HO_12; clear HO_13; clear HO_14; clear HO_259002; clear HO_265002; clear BK229; clear BK230; clear BK258; clear BK264; clear HO282; clear HO288; clear HB; have HO_6 := n0_; have HO_7 := n1_; have HO_8 := n2_; have HO_12 := n3_; have HO_13 := n4_; have HO_14 := n5_; have HO_259002 := n6_; have HO_265002 := n7_; have BK229 := n8_; have BK230 := n9_; have BK258 := n10_; have BK264 := n11_; have HO282 := n12_; have HO288 := n13_; have HB := n14_; clear n0_ n1_ n2_ n3_ n4_ n5_ n6_ n7_ n8_ n9_ n10_ n11_ n12_ n13_ n14_; (try clear hb); (try clear hkp); (try clear hy0)))
  (try simp only [Act.put, List.setIfInBounds_toArray, List.set_cons_zero, List.set_cons_succ])
  go_cut [116] (fun v116 wc => ∃ (kq : Nat) (x116_76 : Bool), v116 = .bool x116_76 ∧ Aside0 (laws_FnExactBulletinChanges.j1 kq t243 t246 t249 t252 t265 t268 t271 x116_76 a0_0 a0_1 l0_2 a1_0 a1_1 l1_2 = some r) ∧ Aside0 (kq ≤ kj24) ∧ Aside0 (Kd.R (Kd.int .i64) 3 wc w.heap.size (fun k_ => some k_ ≠ (v247 : Value).ownBlock ∧ some k_ ≠ (v250 : Value).ownBlock ∧ some k_ ≠ (v266 : Value).ownBlock ∧ some k_ ≠ (v269 : Value).ownBlock ∧ some k_ ≠ (v272 : Value).ownBlock) v244 t243) ∧ Aside0 (Kd.R (Kd.int .i64) 3 wc w.heap.size (fun k_ => some k_ ≠ (v244 : Value).ownBlock ∧ some k_ ≠ (v250 : Value).ownBlock ∧ some k_ ≠ (v266 : Value).ownBlock ∧ some k_ ≠ (v269 : Value).ownBlock ∧ some k_ ≠ (v272 : Value).ownBlock) v247 t246) ∧ Aside0 (Kd.R (Kd.int .i64) 3 wc w.heap.size (fun k_ => some k_ ≠ (v244 : Value).ownBlock ∧ some k_ ≠ (v247 : Value).ownBlock ∧ some k_ ≠ (v266 : Value).ownBlock ∧ some k_ ≠ (v269 : Value).ownBlock ∧ some k_ ≠ (v272 : Value).ownBlock) v250 t249) ∧ Aside0 (Kd.R (Kd.int .i64) 3 wc w.heap.size (fun k_ => some k_ ≠ (v244 : Value).ownBlock ∧ some k_ ≠ (v247 : Value).ownBlock ∧ some k_ ≠ (v250 : Value).ownBlock ∧ some k_ ≠ (v269 : Value).ownBlock ∧ some k_ ≠ (v272 : Value).ownBlock) v266 t265) ∧ Aside0 (Kd.R (Kd.int .i64) 3 wc w.heap.size (fun k_ => some k_ ≠ (v244 : Value).ownBlock ∧ some k_ ≠ (v247 : Value).ownBlock ∧ some k_ ≠ (v250 : Value).ownBlock ∧ some k_ ≠ (v266 : Value).ownBlock ∧ some k_ ≠ (v272 : Value).ownBlock) v269 t268) ∧ Aside0 (Kd.R (Kd.int .i64) 3 wc w.heap.size (fun k_ => some k_ ≠ (v244 : Value).ownBlock ∧ some k_ ≠ (v247 : Value).ownBlock ∧ some k_ ≠ (v250 : Value).ownBlock ∧ some k_ ≠ (v266 : Value).ownBlock ∧ some k_ ≠ (v269 : Value).ownBlock) v272 t271) ∧ Aside0 (Kd.R k41 41 wc w.heap.size (fun k_ => some k_ ≠ ((.slice Ao53 t261.length co53) : Value).ownBlock) (.slice Ao45 t255.length co45) t291) ∧ Aside0 (Kd.R k41 41 wc w.heap.size (fun k_ => some k_ ≠ ((.slice Ao45 t255.length co45) : Value).ownBlock) (.slice Ao53 t261.length co53) t293) ∧ Aside0 (wc.heap[gb229]? = some (.cells #[.int .i64 a0_0, .int .i64 a0_1, (.slice A0_2 l0_2.length c0_2)] 24 (0, 0))) ∧ Aside0 (wc.heap[gb230]? = some (.cells #[.int .i64 a1_0, .int .i64 a1_1, (.slice A1_2 l1_2.length c1_2)] 24 (0, 0))) ∧ Aside0 (wc.heap[gb258]? = some (.cells #[.int .i64 t253, .int .i64 t254, (.slice Ao45 t255.length co45)] 31 (0, 0))) ∧ Aside0 (wc.heap[gb264]? = some (.cells #[.int .i64 t259, .int .i64 t260, (.slice Ao53 t261.length co53)] 31 (0, 0))) ∧ Aside0 (Below w.heap.size w wc))
  case first =>
   have H := HC77.out
   clear HC77
   by_cases c95 : t292 < 0
   case pos =>
    rw [if_pos c95] at H
    exact absurd H (by simp)
   rw [if_neg c95] at H
   have c95b0 : decide (t292 < 0) = false := decide_eq_false c95
   clear c95
   (first | rw [c95b0] | (simp only [i64_w, i32_w]; rw [c95b0]) | skip)
   replace H := Option.bind_eq_some_iff.mp H
   obtain ⟨t294, A960, H⟩ := H
   replace H : (if t294 = true then ((laws_eqIntS.f kj24 t268 t246).bind fun t295 => (if t295 = true then ((laws_eqIntS.f kj24 t271 t249).bind fun t296 => (if t296 = true then (laws_FnExactBulletinChanges.j1 kj24 t243 t246 t249 t252 t265 t268 t271 (t274 != t252) a0_0 a0_1 l0_2 a1_0 a1_1 l1_2) else (none))) else (none))) else (none)) = some r := H
   have A96 := Aside0.mk A960
   clear A960
   by_cases c97 : t294 = true
   case neg =>
    replace c97 := Bool.eq_false_iff.mpr c97
    subst c97
    have H1 : (none) = some r := by rw [if_neg (show ¬ (false = true) by decide)] at H; exact H
    clear H
    have H := H1
    clear H1
    exact absurd H (by simp)
   subst c97
   have H1 : ((laws_eqIntS.f kj24 t268 t246).bind fun t295 => (if t295 = true then ((laws_eqIntS.f kj24 t271 t249).bind fun t296 => (if t296 = true then (laws_FnExactBulletinChanges.j1 kj24 t243 t246 t249 t252 t265 t268 t271 (t274 != t252) a0_0 a0_1 l0_2 a1_0 a1_1 l1_2) else (none))) else (none))) = some r := by rw [if_pos rfl] at H; exact H
   clear H
   have H := H1
   clear H1
   replace H := Option.bind_eq_some_iff.mp H
   obtain ⟨t295, A980, H⟩ := H
   replace H : (if t295 = true then ((laws_eqIntS.f kj24 t271 t249).bind fun t296 => (if t296 = true then (laws_FnExactBulletinChanges.j1 kj24 t243 t246 t249 t252 t265 t268 t271 (t274 != t252) a0_0 a0_1 l0_2 a1_0 a1_1 l1_2) else (none))) else (none)) = some r := H
   have A98 := Aside0.mk A980
   clear A980
   by_cases c99 : t295 = true
   case neg =>
    replace c99 := Bool.eq_false_iff.mpr c99
    subst c99
    have H1 : (none) = some r := by rw [if_neg (show ¬ (false = true) by decide)] at H; exact H
    clear H
    have H := H1
    clear H1
    exact absurd H (by simp)
   subst c99
   have H1 : ((laws_eqIntS.f kj24 t271 t249).bind fun t296 => (if t296 = true then (laws_FnExactBulletinChanges.j1 kj24 t243 t246 t249 t252 t265 t268 t271 (t274 != t252) a0_0 a0_1 l0_2 a1_0 a1_1 l1_2) else (none))) = some r := by rw [if_pos rfl] at H; exact H
   clear H
   have H := H1
   clear H1
   replace H := Option.bind_eq_some_iff.mp H
   obtain ⟨t296, A1000, H⟩ := H
   replace H : (if t296 = true then (laws_FnExactBulletinChanges.j1 kj24 t243 t246 t249 t252 t265 t268 t271 (t274 != t252) a0_0 a0_1 l0_2 a1_0 a1_1 l1_2) else (none)) = some r := H
   have A100 := Aside0.mk A1000
   clear A1000
   by_cases c101 : t296 = true
   case neg =>
    replace c101 := Bool.eq_false_iff.mpr c101
    subst c101
    have H1 : (none) = some r := by rw [if_neg (show ¬ (false = true) by decide)] at H; exact H
    clear H
    have H := H1
    clear H1
    exact absurd H (by simp)
   subst c101
   have H1 : (laws_FnExactBulletinChanges.j1 kj24 t243 t246 t249 t252 t265 t268 t271 (t274 != t252) a0_0 a0_1 l0_2 a1_0 a1_1 l1_2) = some r := by rw [if_pos rfl] at H; exact H
   clear H
   have H := H1
   clear H1
   have H' := Aside0.mk H
   clear H
   obtain ⟨Ao102, co102, eo102⟩ := Kd.R_slice HO_12.out
   subst eo102
   obtain ⟨Ao103, co103, eo103⟩ := Kd.R_slice HO_6.out
   subst eo103
   go_wp2_with (first | (go_at_call 8; (with_reducible refine (laws_eqIntS.calls kj24 _ _ t265 _ _ t243 true _ ?side1 ?side2 ?side3 ?side4 A96.out).mono ?_); (case side1 => exact zqC (Kd.R_reads' HO_12.out).2.2); (case side2 => exact (Kd.R_reads' HO_12.out).2.1); (case side3 => exact zqC (Kd.R_reads' HO_6.out).2.2); (case side4 => exact (Kd.R_reads' HO_6.out).2.1); rintro e w' ⟨rfl, ⟨nd, rfl⟩⟩; obtain ⟨Ao104, co104, eo104⟩ := Kd.R_slice HO_13.out; subst eo104; obtain ⟨Ao105, co105, eo105⟩ := Kd.R_slice HO_7.out; subst eo105) | (go_at_call 8; (with_reducible refine (laws_eqIntS.calls kj24 _ _ t268 _ _ t246 true _ ?side1 ?side2 ?side3 ?side4 A98.out).mono ?_); (case side1 => exact zqC (Kd.R_reads' HO_13.out).2.2); (case side2 => exact (Kd.R_reads' HO_13.out).2.1); (case side3 => exact zqC (Kd.R_reads' HO_7.out).2.2); (case side4 => exact (Kd.R_reads' HO_7.out).2.1); rintro e w' ⟨rfl, ⟨nd, rfl⟩⟩; obtain ⟨Ao106, co106, eo106⟩ := Kd.R_slice HO_14.out; subst eo106; obtain ⟨Ao107, co107, eo107⟩ := Kd.R_slice HO_8.out; subst eo107) | (go_at_call 8; (with_reducible refine (laws_eqIntS.calls kj24 _ _ t271 _ _ t249 true _ ?side1 ?side2 ?side3 ?side4 A100.out).mono ?_); (case side1 => exact zqC (Kd.R_reads' HO_14.out).2.2); (case side2 => exact (Kd.R_reads' HO_14.out).2.1); (case side3 => exact zqC (Kd.R_reads' HO_8.out).2.2); (case side4 => exact (Kd.R_reads' HO_8.out).2.1); rintro e w' ⟨rfl, ⟨nd, rfl⟩⟩))
   go_meet
   case rel => exact ⟨_, ((t274 != t252)), (by first | rfl | (simp; done) | (simp [*]; done)), H', ⟨by have := HJ24.out; first | omega | exact Nat.le_refl _⟩, ⟨zqR HO_6.out⟩, ⟨zqR HO_7.out⟩, ⟨zqR HO_8.out⟩, ⟨zqR HO_12.out⟩, ⟨zqR HO_13.out⟩, ⟨zqR HO_14.out⟩, ⟨by (with_reducible repeat (first | apply Kd.R_alloc | apply Kd.R_drewN | apply Kd.R_drew)); exact Kd.R_mono HO_259002.out (fun _ hk => hk.1)⟩, ⟨by (with_reducible repeat (first | apply Kd.R_alloc | apply Kd.R_drewN | apply Kd.R_drew)); exact Kd.R_mono HO_265002.out (fun _ hk => hk.1)⟩, ⟨by (with_reducible repeat (first | refine blk_drewN ?_ _ | refine blk_drew ?_ | refine blk_alloc ?_ _)); exact BK229.out⟩, ⟨by (with_reducible repeat (first | refine blk_drewN ?_ _ | refine blk_drew ?_ | refine blk_alloc ?_ _)); exact BK230.out⟩, ⟨by (with_reducible repeat (first | refine blk_drewN ?_ _ | refine blk_drew ?_ | refine blk_alloc ?_ _)); exact BK258.out⟩, ⟨by (with_reducible repeat (first | refine blk_drewN ?_ _ | refine blk_drew ?_ | refine blk_alloc ?_ _)); exact BK264.out⟩, ⟨zq6⟩⟩
  clear HC77
  try clear c1
  try clear p2
  try clear c6
  try clear c7
  try clear c8
  try clear c9
  try clear c10
  try clear c68
  try clear c71
  try clear c74
  try clear c86
  try clear c87
  try clear c88
  try clear c91
  try clear c92
  try clear c95
  try clear c95b0
  try clear c97
  try clear c99
  try clear c101
  try clear hcz31_2
  try clear hcz39_0
  try clear hcz39_1
  try clear hcz39_2
  try clear hcz44_0
  try clear hcz44_1
  try clear hcz44_2
  try clear hcz46_0
  try clear hcz46_1
  try clear hcz46_2
  try clear hcz52_0
  try clear hcz52_1
  try clear hcz52_2
  try clear hcz54_0
  try clear hcz54_1
  try clear hcz54_2
  try clear hcz89_0
  try clear hcz89_1
  try clear hcz89_2
  try clear hcz8_0
  try clear hcz8_1
  try clear hcz8_2
  try clear hcz93_0
  try clear hcz93_1
  try clear hcz93_2
  try clear hfz15_0
  try clear hfz15_1
  try clear hfz15_2
  try clear hfz17_0
  try clear hfz17_1
  try clear hfz17_2
  try clear hfz29_0
  try clear hfz29_1
  try clear hfz29_2
  try clear hfz31_0
  try clear hfz31_1
  try clear hfz31_2
  try clear hfz39_0
  try clear hfz39_1
  try clear hfz39_2
  try clear hfz44_0
  try clear hfz44_1
  try clear hfz44_2
  try clear hfz46_0
  try clear hfz46_1
  try clear hfz46_2
  try clear hfz52_0
  try clear hfz52_1
  try clear hfz52_2
  try clear hfz54_0
  try clear hfz54_1
  try clear hfz54_2
  try clear hfz89_0
  try clear hfz89_1
  try clear hfz89_2
  try clear hfz8_0
  try clear hfz8_1
  try clear hfz8_2
  try clear hfz93_0
  try clear hfz93_1
  try clear hfz93_2
  obtain ⟨kq, x116_76, rfl, HA, HJ76, HO_6, HO_7, HO_8, HO_12, HO_13, HO_14, HO_259002, HO_265002, BK229, BK230, BK258, BK264, HB⟩ := hcut
  have hl259002_76 := (Kd.R_reads' HO_259002.out).1
  rw [hl259002_76] at HO_259002
  (try simp only [hl259002_76])
  (try simp only [hl259002_76] at BK229)
  (try simp only [hl259002_76] at BK230)
  (try simp only [hl259002_76] at BK258)
  (try simp only [hl259002_76] at BK264)
  (try simp only [hl259002_76] at HO_6)
  (try simp only [hl259002_76] at HO_7)
  (try simp only [hl259002_76] at HO_8)
  (try simp only [hl259002_76] at HO_12)
  (try simp only [hl259002_76] at HO_13)
  (try simp only [hl259002_76] at HO_14)
  (try simp only [hl259002_76] at HO_265002)
  have hl265002_76 := (Kd.R_reads' HO_265002.out).1
  rw [hl265002_76] at HO_265002
  (try simp only [hl265002_76])
  (try simp only [hl265002_76] at BK229)
  (try simp only [hl265002_76] at BK230)
  (try simp only [hl265002_76] at BK258)
  (try simp only [hl265002_76] at BK264)
  (try simp only [hl265002_76] at HO_6)
  (try simp only [hl265002_76] at HO_7)
  (try simp only [hl265002_76] at HO_8)
  (try simp only [hl265002_76] at HO_12)
  (try simp only [hl265002_76] at HO_13)
  (try simp only [hl265002_76] at HO_14)
  (try simp only [hl265002_76] at HO_259002)
  cases kq with
  | zero => exact absurd HA.out (by simp [laws_FnExactBulletinChanges.j1])
  | succ kj76 =>
   have H := HA.out
   clear HA
   simp only [laws_FnExactBulletinChanges.j1] at H
   by_cases c108 : x116_76 = true
   case pos =>
    subst c108
    have H1 : (none) = some r := by rw [if_pos rfl] at H; exact H
    clear H
    have H := H1
    clear H1
    exact absurd H (by simp)
   replace c108 := Bool.eq_false_iff.mpr c108
   subst c108
   have H1 : ((laws_markIntS.f kj76 t265 1).bind fun bt297 => ((laws_markIntS.f kj76 t268 bt297.1).bind fun bt299 => ((laws_markIntS.f kj76 t271 bt299.1).bind fun bt301 => ((laws_heldIntS.f kj76 bt297.2 1).bind fun t303 => (if t303 < 0 then (none) else ((laws_heldIntS.f kj76 bt299.2 t303).bind fun t304 => (if t304 < 0 then (none) else ((laws_heldIntS.f kj76 bt301.2 t304).bind fun t305 => (if t305 < 0 then (none) else (if t305 = bt301.1 then ((laws_toBulletin.f kj76 a0_0 a0_1 l0_2).bind fun bt306 => ((laws_toBulletin.f kj76 a1_0 a1_1 l1_2).bind fun bt311 => ((impl_BulletinChanges.f kj76 bt306.1 bt306.2.1 bt306.2.2 bt311.1 bt311.2.1 bt311.2.2).bind fun bt316 => ((laws_eqIntS.f kj76 bt316.1 t243).bind fun t326 => (if t326 = true then ((laws_eqIntS.f kj76 bt316.2.1 t246).bind fun t327 => (if t327 = true then ((laws_eqIntS.f kj76 bt316.2.2.1 t249).bind fun t328 => (if t328 = true then (laws_FnExactBulletinChanges.j2 kj76 bt297.2 bt299.2 bt301.2 bt301.1 (bt316.2.2.2 != t252)) else (none))) else (none))) else (none)))))) else (none))))))))))) = some r := by rw [if_neg (show ¬ (false = true) by decide)] at H; exact H
   clear H
   have H := H1
   clear H1
   replace H := Option.bind_eq_some_iff.mp H
   obtain ⟨⟨t297, t298⟩, A1090, H⟩ := H
   replace H : ((laws_markIntS.f kj76 t268 t297).bind fun bt299 => ((laws_markIntS.f kj76 t271 bt299.1).bind fun bt301 => ((laws_heldIntS.f kj76 t298 1).bind fun t303 => (if t303 < 0 then (none) else ((laws_heldIntS.f kj76 bt299.2 t303).bind fun t304 => (if t304 < 0 then (none) else ((laws_heldIntS.f kj76 bt301.2 t304).bind fun t305 => (if t305 < 0 then (none) else (if t305 = bt301.1 then ((laws_toBulletin.f kj76 a0_0 a0_1 l0_2).bind fun bt306 => ((laws_toBulletin.f kj76 a1_0 a1_1 l1_2).bind fun bt311 => ((impl_BulletinChanges.f kj76 bt306.1 bt306.2.1 bt306.2.2 bt311.1 bt311.2.1 bt311.2.2).bind fun bt316 => ((laws_eqIntS.f kj76 bt316.1 t243).bind fun t326 => (if t326 = true then ((laws_eqIntS.f kj76 bt316.2.1 t246).bind fun t327 => (if t327 = true then ((laws_eqIntS.f kj76 bt316.2.2.1 t249).bind fun t328 => (if t328 = true then (laws_FnExactBulletinChanges.j2 kj76 t298 bt299.2 bt301.2 bt301.1 (bt316.2.2.2 != t252)) else (none))) else (none))) else (none)))))) else (none)))))))))) = some r := H
   have A109 := Aside0.mk A1090
   clear A1090
   replace H := Option.bind_eq_some_iff.mp H
   obtain ⟨⟨t299, t300⟩, A1100, H⟩ := H
   replace H : ((laws_markIntS.f kj76 t271 t299).bind fun bt301 => ((laws_heldIntS.f kj76 t298 1).bind fun t303 => (if t303 < 0 then (none) else ((laws_heldIntS.f kj76 t300 t303).bind fun t304 => (if t304 < 0 then (none) else ((laws_heldIntS.f kj76 bt301.2 t304).bind fun t305 => (if t305 < 0 then (none) else (if t305 = bt301.1 then ((laws_toBulletin.f kj76 a0_0 a0_1 l0_2).bind fun bt306 => ((laws_toBulletin.f kj76 a1_0 a1_1 l1_2).bind fun bt311 => ((impl_BulletinChanges.f kj76 bt306.1 bt306.2.1 bt306.2.2 bt311.1 bt311.2.1 bt311.2.2).bind fun bt316 => ((laws_eqIntS.f kj76 bt316.1 t243).bind fun t326 => (if t326 = true then ((laws_eqIntS.f kj76 bt316.2.1 t246).bind fun t327 => (if t327 = true then ((laws_eqIntS.f kj76 bt316.2.2.1 t249).bind fun t328 => (if t328 = true then (laws_FnExactBulletinChanges.j2 kj76 t298 t300 bt301.2 bt301.1 (bt316.2.2.2 != t252)) else (none))) else (none))) else (none)))))) else (none))))))))) = some r := H
   have A110 := Aside0.mk A1100
   clear A1100
   replace H := Option.bind_eq_some_iff.mp H
   obtain ⟨⟨t301, t302⟩, A1110, H⟩ := H
   replace H : ((laws_heldIntS.f kj76 t298 1).bind fun t303 => (if t303 < 0 then (none) else ((laws_heldIntS.f kj76 t300 t303).bind fun t304 => (if t304 < 0 then (none) else ((laws_heldIntS.f kj76 t302 t304).bind fun t305 => (if t305 < 0 then (none) else (if t305 = t301 then ((laws_toBulletin.f kj76 a0_0 a0_1 l0_2).bind fun bt306 => ((laws_toBulletin.f kj76 a1_0 a1_1 l1_2).bind fun bt311 => ((impl_BulletinChanges.f kj76 bt306.1 bt306.2.1 bt306.2.2 bt311.1 bt311.2.1 bt311.2.2).bind fun bt316 => ((laws_eqIntS.f kj76 bt316.1 t243).bind fun t326 => (if t326 = true then ((laws_eqIntS.f kj76 bt316.2.1 t246).bind fun t327 => (if t327 = true then ((laws_eqIntS.f kj76 bt316.2.2.1 t249).bind fun t328 => (if t328 = true then (laws_FnExactBulletinChanges.j2 kj76 t298 t300 t302 t301 (bt316.2.2.2 != t252)) else (none))) else (none))) else (none)))))) else (none)))))))) = some r := H
   have A111 := Aside0.mk A1110
   clear A1110
   replace H := Option.bind_eq_some_iff.mp H
   obtain ⟨t303, A1120, H⟩ := H
   replace H : (if t303 < 0 then (none) else ((laws_heldIntS.f kj76 t300 t303).bind fun t304 => (if t304 < 0 then (none) else ((laws_heldIntS.f kj76 t302 t304).bind fun t305 => (if t305 < 0 then (none) else (if t305 = t301 then ((laws_toBulletin.f kj76 a0_0 a0_1 l0_2).bind fun bt306 => ((laws_toBulletin.f kj76 a1_0 a1_1 l1_2).bind fun bt311 => ((impl_BulletinChanges.f kj76 bt306.1 bt306.2.1 bt306.2.2 bt311.1 bt311.2.1 bt311.2.2).bind fun bt316 => ((laws_eqIntS.f kj76 bt316.1 t243).bind fun t326 => (if t326 = true then ((laws_eqIntS.f kj76 bt316.2.1 t246).bind fun t327 => (if t327 = true then ((laws_eqIntS.f kj76 bt316.2.2.1 t249).bind fun t328 => (if t328 = true then (laws_FnExactBulletinChanges.j2 kj76 t298 t300 t302 t301 (bt316.2.2.2 != t252)) else (none))) else (none))) else (none)))))) else (none))))))) = some r := H
   have A112 := Aside0.mk A1120
   clear A1120
   by_cases c113 : t303 < 0
   case pos =>
    rw [if_pos c113] at H
    exact absurd H (by simp)
   rw [if_neg c113] at H
   have c113b0 : decide (t303 < 0) = false := decide_eq_false c113
   clear c113
   replace H := Option.bind_eq_some_iff.mp H
   obtain ⟨t304, A1140, H⟩ := H
   replace H : (if t304 < 0 then (none) else ((laws_heldIntS.f kj76 t302 t304).bind fun t305 => (if t305 < 0 then (none) else (if t305 = t301 then ((laws_toBulletin.f kj76 a0_0 a0_1 l0_2).bind fun bt306 => ((laws_toBulletin.f kj76 a1_0 a1_1 l1_2).bind fun bt311 => ((impl_BulletinChanges.f kj76 bt306.1 bt306.2.1 bt306.2.2 bt311.1 bt311.2.1 bt311.2.2).bind fun bt316 => ((laws_eqIntS.f kj76 bt316.1 t243).bind fun t326 => (if t326 = true then ((laws_eqIntS.f kj76 bt316.2.1 t246).bind fun t327 => (if t327 = true then ((laws_eqIntS.f kj76 bt316.2.2.1 t249).bind fun t328 => (if t328 = true then (laws_FnExactBulletinChanges.j2 kj76 t298 t300 t302 t301 (bt316.2.2.2 != t252)) else (none))) else (none))) else (none)))))) else (none))))) = some r := H
   have A114 := Aside0.mk A1140
   clear A1140
   by_cases c115 : t304 < 0
   case pos =>
    rw [if_pos c115] at H
    exact absurd H (by simp)
   rw [if_neg c115] at H
   have c115b0 : decide (t304 < 0) = false := decide_eq_false c115
   clear c115
   replace H := Option.bind_eq_some_iff.mp H
   obtain ⟨t305, A1160, H⟩ := H
   replace H : (if t305 < 0 then (none) else (if t305 = t301 then ((laws_toBulletin.f kj76 a0_0 a0_1 l0_2).bind fun bt306 => ((laws_toBulletin.f kj76 a1_0 a1_1 l1_2).bind fun bt311 => ((impl_BulletinChanges.f kj76 bt306.1 bt306.2.1 bt306.2.2 bt311.1 bt311.2.1 bt311.2.2).bind fun bt316 => ((laws_eqIntS.f kj76 bt316.1 t243).bind fun t326 => (if t326 = true then ((laws_eqIntS.f kj76 bt316.2.1 t246).bind fun t327 => (if t327 = true then ((laws_eqIntS.f kj76 bt316.2.2.1 t249).bind fun t328 => (if t328 = true then (laws_FnExactBulletinChanges.j2 kj76 t298 t300 t302 t301 (bt316.2.2.2 != t252)) else (none))) else (none))) else (none)))))) else (none))) = some r := H
   have A116 := Aside0.mk A1160
   clear A1160
   by_cases c117 : t305 < 0
   case pos =>
    rw [if_pos c117] at H
    exact absurd H (by simp)
   rw [if_neg c117] at H
   have c117b0 : decide (t305 < 0) = false := decide_eq_false c117
   clear c117
   by_cases c118 : t305 = t301
   case neg =>
    rw [if_neg c118] at H
    exact absurd H (by simp)
   rw [if_pos c118] at H
   have c118b0 : (t305 == t301) = true := beq_iff_eq.mpr c118
   have c118b1 : (t305 != t301) = false := bne_eq_false_iff_eq.mpr c118
   clear c118
   replace H := Option.bind_eq_some_iff.mp H
   obtain ⟨⟨t306, t307, t308⟩, A1190, H⟩ := H
   replace H : ((laws_toBulletin.f kj76 a1_0 a1_1 l1_2).bind fun bt311 => ((impl_BulletinChanges.f kj76 t306 t307 t308 bt311.1 bt311.2.1 bt311.2.2).bind fun bt316 => ((laws_eqIntS.f kj76 bt316.1 t243).bind fun t326 => (if t326 = true then ((laws_eqIntS.f kj76 bt316.2.1 t246).bind fun t327 => (if t327 = true then ((laws_eqIntS.f kj76 bt316.2.2.1 t249).bind fun t328 => (if t328 = true then (laws_FnExactBulletinChanges.j2 kj76 t298 t300 t302 t301 (bt316.2.2.2 != t252)) else (none))) else (none))) else (none))))) = some r := H
   have A119 := Aside0.mk A1190
   clear A1190
   replace H := Option.bind_eq_some_iff.mp H
   obtain ⟨⟨t311, t312, t313⟩, A1200, H⟩ := H
   replace H : ((impl_BulletinChanges.f kj76 t306 t307 t308 t311 t312 t313).bind fun bt316 => ((laws_eqIntS.f kj76 bt316.1 t243).bind fun t326 => (if t326 = true then ((laws_eqIntS.f kj76 bt316.2.1 t246).bind fun t327 => (if t327 = true then ((laws_eqIntS.f kj76 bt316.2.2.1 t249).bind fun t328 => (if t328 = true then (laws_FnExactBulletinChanges.j2 kj76 t298 t300 t302 t301 (bt316.2.2.2 != t252)) else (none))) else (none))) else (none)))) = some r := H
   have A120 := Aside0.mk A1200
   clear A1200
   replace H := Option.bind_eq_some_iff.mp H
   obtain ⟨⟨t316, t319, t322, t325⟩, A1210, H⟩ := H
   replace H : ((laws_eqIntS.f kj76 t316 t243).bind fun t326 => (if t326 = true then ((laws_eqIntS.f kj76 t319 t246).bind fun t327 => (if t327 = true then ((laws_eqIntS.f kj76 t322 t249).bind fun t328 => (if t328 = true then (laws_FnExactBulletinChanges.j2 kj76 t298 t300 t302 t301 (t325 != t252)) else (none))) else (none))) else (none))) = some r := H
   have A121 := Aside0.mk A1210
   clear A1210
   have HC122 := Aside0.mk H
   clear H
   obtain ⟨Ao123, co123, eo123⟩ := Kd.R_slice HO_12.out
   subst eo123
   try go_wp2_with (first | ((with_reducible refine gate_callee (f := 11) rfl ?_); refine goesL_ (some 119) rfl rfl Try.func11 (by kernel_rfl) rfl #[.slice Ao123 t265.length co123, .int .i64 1] rfl zq2 ?_; (with_reducible refine (laws_markIntS.calls kj76 (fun k_ => some k_ = (.slice Ao123 t265.length co123 : Value).ownBlock) (.slice Ao123 t265.length co123) t265 1 t297 t298 w _ ?side1 ?side2 A109.out).mono ?_); (case side1 => repeat (first | (with_reducible first | exact HB.out | apply below_alloc | apply pw_below_drewN | apply below_drew1 | refine below_set ?_ GE229.out | refine below_set ?_ GE230.out | refine below_set ?_ GE258.out | refine below_set ?_ GE264.out) | exact HB.out)); (case side2 => exact Kd.R_tight rfl HO_12.out); rintro e w124 ⟨rfl, hy0, hb, hkp⟩; refine ⟨_, rfl, ?_⟩; have n0_ := Aside0.mk (Kd.R_mono (ok' := fun k_ => some k_ ≠ (v247 : Value).ownBlock ∧ some k_ ≠ (v250 : Value).ownBlock ∧ some k_ ≠ (.slice Ao123 t265.length co123 : Value).ownBlock ∧ some k_ ≠ (v269 : Value).ownBlock ∧ some k_ ≠ (v272 : Value).ownBlock) (Kd.R_keptB (HO_6.out) hkp (fun k_ hk_ hs_ => (hk_.2.2.1) hs_)) (fun k_ hk_ => ⟨hk_.1.1, hk_.1.2.1, hk_.1.2.2.1, hk_.1.2.2.2.1, hk_.1.2.2.2.2⟩)); have n1_ := Aside0.mk (Kd.R_mono (ok' := fun k_ => some k_ ≠ (v244 : Value).ownBlock ∧ some k_ ≠ (v250 : Value).ownBlock ∧ some k_ ≠ (.slice Ao123 t265.length co123 : Value).ownBlock ∧ some k_ ≠ (v269 : Value).ownBlock ∧ some k_ ≠ (v272 : Value).ownBlock) (Kd.R_keptB (HO_7.out) hkp (fun k_ hk_ hs_ => (hk_.2.2.1) hs_)) (fun k_ hk_ => ⟨hk_.1.1, hk_.1.2.1, hk_.1.2.2.1, hk_.1.2.2.2.1, hk_.1.2.2.2.2⟩)); have n2_ := Aside0.mk (Kd.R_mono (ok' := fun k_ => some k_ ≠ (v244 : Value).ownBlock ∧ some k_ ≠ (v247 : Value).ownBlock ∧ some k_ ≠ (.slice Ao123 t265.length co123 : Value).ownBlock ∧ some k_ ≠ (v269 : Value).ownBlock ∧ some k_ ≠ (v272 : Value).ownBlock) (Kd.R_keptB (HO_8.out) hkp (fun k_ hk_ hs_ => (hk_.2.2.1) hs_)) (fun k_ hk_ => ⟨hk_.1.1, hk_.1.2.1, hk_.1.2.2.1, hk_.1.2.2.2.1, hk_.1.2.2.2.2⟩)); have n3_ := Aside0.mk (Kd.R_reok rfl hy0 (fun k_ e_ => HO_12.out.1 k_ e_)); have n4_ := Aside0.mk (Kd.R_mono (ok' := fun k_ => some k_ ≠ (v244 : Value).ownBlock ∧ some k_ ≠ (v247 : Value).ownBlock ∧ some k_ ≠ (v250 : Value).ownBlock ∧ some k_ ≠ (.slice Ao123 t265.length co123 : Value).ownBlock ∧ some k_ ≠ (v272 : Value).ownBlock) (Kd.R_keptB (HO_13.out) hkp (fun k_ hk_ hs_ => (hk_.2.2.2.1) hs_)) (fun k_ hk_ => ⟨hk_.1.1, hk_.1.2.1, hk_.1.2.2.1, hk_.1.2.2.2.1, hk_.1.2.2.2.2⟩)); have n5_ := Aside0.mk (Kd.R_mono (ok' := fun k_ => some k_ ≠ (v244 : Value).ownBlock ∧ some k_ ≠ (v247 : Value).ownBlock ∧ some k_ ≠ (v250 : Value).ownBlock ∧ some k_ ≠ (.slice Ao123 t265.length co123 : Value).ownBlock ∧ some k_ ≠ (v269 : Value).ownBlock) (Kd.R_keptB (HO_14.out) hkp (fun k_ hk_ hs_ => (hk_.2.2.2.1) hs_)) (fun k_ hk_ => ⟨hk_.1.1, hk_.1.2.1, hk_.1.2.2.1, hk_.1.2.2.2.1, hk_.1.2.2.2.2⟩)); have n6_ := Aside0.mk (Kd.R_mono (ok' := fun k_ => some k_ ≠ (.slice Ao53 t293.length co53 : Value).ownBlock) (Kd.R_keptB ((Kd.R_apart' HO_259002.out (Kd.R_typed HO_12.out) (by decide))) hkp (fun k_ hk_ hs_ => (hk_.2) hs_)) (fun k_ hk_ => hk_.1.1)); have n7_ := Aside0.mk (Kd.R_mono (ok' := fun k_ => some k_ ≠ (.slice Ao45 t291.length co45 : Value).ownBlock) (Kd.R_keptB ((Kd.R_apart' HO_265002.out (Kd.R_typed HO_12.out) (by decide))) hkp (fun k_ hk_ hs_ => (hk_.2) hs_)) (fun k_ hk_ => hk_.1.1)); have n8_ := Aside0.mk (blk_kept (zqK BK229.out) hkp (fun hs_ => (fun e_ => (Kd.R_ne HO_12.out BK229.out (by decide)) e_) hs_)); have n9_ := Aside0.mk (blk_kept (zqK BK230.out) hkp (fun hs_ => (fun e_ => (Kd.R_ne HO_12.out BK230.out (by decide)) e_) hs_)); have n10_ := Aside0.mk (blk_kept (zqK BK258.out) hkp (fun hs_ => (fun e_ => (Kd.R_ne HO_12.out BK258.out (by decide)) e_) hs_)); have n11_ := Aside0.mk (blk_kept (zqK BK264.out) hkp (fun hs_ => (fun e_ => (Kd.R_ne HO_12.out BK264.out (by decide)) e_) hs_)); have n12_ := Aside0.mk (hb); clear HO_6; clear HO_7; clear HO_8; clear HO_12; clear HO_13; clear HO_14; clear HO_259002; clear HO_265002; clear BK229; clear BK230; clear BK258; clear BK264; clear HB; have HO_6 := n0_; have HO_7 := n1_; have HO_8 := n2_; have HO_12 := n3_; have HO_13 := n4_; have HO_14 := n5_; have HO_259002 := n6_; have HO_265002 := n7_; have BK229 := n8_; have BK230 := n9_; have BK258 := n10_; have BK264 := n11_; have HB := n12_; clear n0_ n1_ n2_ n3_ n4_ n5_ n6_ n7_ n8_ n9_ n10_ n11_ n12_; (try clear hb); (try clear hkp); (try clear hy0); obtain ⟨Ao125, co125, eo125⟩ := Kd.R_slice HO_13.out; subst eo125) | ((with_reducible refine gate_callee (f := 11) rfl ?_); refine goesL_ (some 122) rfl rfl Try.func11 (by kernel_rfl) rfl #[.slice Ao125 t268.length co125, .int .i64 t297] rfl zq2 ?_; (with_reducible refine (laws_markIntS.calls kj76 (fun k_ => some k_ = (.slice Ao125 t268.length co125 : Value).ownBlock) (.slice Ao125 t268.length co125) t268 t297 t299 t300 w _ ?side1 ?side2 A110.out).mono ?_); (case side1 => repeat (first | (with_reducible first | exact HB.out | apply below_alloc | apply pw_below_drewN | apply below_drew1 | refine below_set ?_ GE229.out | refine below_set ?_ GE230.out | refine below_set ?_ GE258.out | refine below_set ?_ GE264.out) | exact HB.out)); (case side2 => exact Kd.R_tight rfl HO_13.out); rintro e w126 ⟨rfl, hy0, hb, hkp⟩; refine ⟨_, rfl, ?_⟩; have n0_ := Aside0.mk (Kd.R_mono (ok' := fun k_ => some k_ ≠ (v247 : Value).ownBlock ∧ some k_ ≠ (v250 : Value).ownBlock ∧ some k_ ≠ (.slice Ao123 t265.length co123 : Value).ownBlock ∧ some k_ ≠ (.slice Ao125 t268.length co125 : Value).ownBlock ∧ some k_ ≠ (v272 : Value).ownBlock) (Kd.R_keptB (HO_6.out) hkp (fun k_ hk_ hs_ => (hk_.2.2.2.1) hs_)) (fun k_ hk_ => ⟨hk_.1.1, hk_.1.2.1, hk_.1.2.2.1, hk_.1.2.2.2.1, hk_.1.2.2.2.2⟩)); have n1_ := Aside0.mk (Kd.R_mono (ok' := fun k_ => some k_ ≠ (v244 : Value).ownBlock ∧ some k_ ≠ (v250 : Value).ownBlock ∧ some k_ ≠ (.slice Ao123 t265.length co123 : Value).ownBlock ∧ some k_ ≠ (.slice Ao125 t268.length co125 : Value).ownBlock ∧ some k_ ≠ (v272 : Value).ownBlock) (Kd.R_keptB (HO_7.out) hkp (fun k_ hk_ hs_ => (hk_.2.2.2.1) hs_)) (fun k_ hk_ => ⟨hk_.1.1, hk_.1.2.1, hk_.1.2.2.1, hk_.1.2.2.2.1, hk_.1.2.2.2.2⟩)); have n2_ := Aside0.mk (Kd.R_mono (ok' := fun k_ => some k_ ≠ (v244 : Value).ownBlock ∧ some k_ ≠ (v247 : Value).ownBlock ∧ some k_ ≠ (.slice Ao123 t265.length co123 : Value).ownBlock ∧ some k_ ≠ (.slice Ao125 t268.length co125 : Value).ownBlock ∧ some k_ ≠ (v272 : Value).ownBlock) (Kd.R_keptB (HO_8.out) hkp (fun k_ hk_ hs_ => (hk_.2.2.2.1) hs_)) (fun k_ hk_ => ⟨hk_.1.1, hk_.1.2.1, hk_.1.2.2.1, hk_.1.2.2.2.1, hk_.1.2.2.2.2⟩)); have n3_ := Aside0.mk (Kd.R_mono (ok' := fun k_ => some k_ ≠ (v244 : Value).ownBlock ∧ some k_ ≠ (v247 : Value).ownBlock ∧ some k_ ≠ (v250 : Value).ownBlock ∧ some k_ ≠ (.slice Ao125 t268.length co125 : Value).ownBlock ∧ some k_ ≠ (v272 : Value).ownBlock) (Kd.R_keptB (HO_12.out) hkp (fun k_ hk_ hs_ => (hk_.2.2.2.1) hs_)) (fun k_ hk_ => ⟨hk_.1.1, hk_.1.2.1, hk_.1.2.2.1, hk_.1.2.2.2.1, hk_.1.2.2.2.2⟩)); have n4_ := Aside0.mk (Kd.R_reok rfl hy0 (fun k_ e_ => HO_13.out.1 k_ e_)); have n5_ := Aside0.mk (Kd.R_mono (ok' := fun k_ => some k_ ≠ (v244 : Value).ownBlock ∧ some k_ ≠ (v247 : Value).ownBlock ∧ some k_ ≠ (v250 : Value).ownBlock ∧ some k_ ≠ (.slice Ao123 t265.length co123 : Value).ownBlock ∧ some k_ ≠ (.slice Ao125 t268.length co125 : Value).ownBlock) (Kd.R_keptB (HO_14.out) hkp (fun k_ hk_ hs_ => (hk_.2.2.2.2) hs_)) (fun k_ hk_ => ⟨hk_.1.1, hk_.1.2.1, hk_.1.2.2.1, hk_.1.2.2.2.1, hk_.1.2.2.2.2⟩)); have n6_ := Aside0.mk (Kd.R_mono (ok' := fun k_ => some k_ ≠ (.slice Ao53 t293.length co53 : Value).ownBlock) (Kd.R_keptB ((Kd.R_apart' HO_259002.out (Kd.R_typed HO_13.out) (by decide))) hkp (fun k_ hk_ hs_ => (hk_.2) hs_)) (fun k_ hk_ => hk_.1.1)); have n7_ := Aside0.mk (Kd.R_mono (ok' := fun k_ => some k_ ≠ (.slice Ao45 t291.length co45 : Value).ownBlock) (Kd.R_keptB ((Kd.R_apart' HO_265002.out (Kd.R_typed HO_13.out) (by decide))) hkp (fun k_ hk_ hs_ => (hk_.2) hs_)) (fun k_ hk_ => hk_.1.1)); have n8_ := Aside0.mk (blk_kept (zqK BK229.out) hkp (fun hs_ => (fun e_ => (Kd.R_ne HO_13.out BK229.out (by decide)) e_) hs_)); have n9_ := Aside0.mk (blk_kept (zqK BK230.out) hkp (fun hs_ => (fun e_ => (Kd.R_ne HO_13.out BK230.out (by decide)) e_) hs_)); have n10_ := Aside0.mk (blk_kept (zqK BK258.out) hkp (fun hs_ => (fun e_ => (Kd.R_ne HO_13.out BK258.out (by decide)) e_) hs_)); have n11_ := Aside0.mk (blk_kept (zqK BK264.out) hkp (fun hs_ => (fun e_ => (Kd.R_ne HO_13.out BK264.out (by decide)) e_) hs_)); have n12_ := Aside0.mk (hb); clear HO_6; clear HO_7; clear HO_8; clear HO_12; clear HO_13; clear HO_14; clear HO_259002; clear HO_265002; clear BK229; clear BK230; clear BK258; clear BK264; clear HB; have HO_6 := n0_; have HO_7 := n1_; have HO_8 := n2_; have HO_12 := n3_; have HO_13 := n4_; have HO_14 := n5_; have HO_259002 := n6_; have HO_265002 := n7_; have BK229 := n8_; have BK230 := n9_; have BK258 := n10_; have BK264 := n11_; have HB := n12_; clear n0_ n1_ n2_ n3_ n4_ n5_ n6_ n7_ n8_ n9_ n10_ n11_ n12_; (try clear hb); (try clear hkp); (try clear hy0); obtain ⟨Ao127, co127, eo127⟩ := Kd.R_slice HO_14.out; subst eo127) | ((with_reducible refine gate_callee (f := 11) rfl ?_); refine goesL_ (some 125) rfl rfl Try.func11 (by kernel_rfl) rfl #[.slice Ao127 t271.length co127, .int .i64 t299] rfl zq2 ?_; (with_reducible refine (laws_markIntS.calls kj76 (fun k_ => some k_ = (.slice Ao127 t271.length co127 : Value).ownBlock) (.slice Ao127 t271.length co127) t271 t299 t301 t302 w _ ?side1 ?side2 A111.out).mono ?_); (case side1 => repeat (first | (with_reducible first | exact HB.out | apply below_alloc | apply pw_below_drewN | apply below_drew1 | refine below_set ?_ GE229.out | refine below_set ?_ GE230.out | refine below_set ?_ GE258.out | refine below_set ?_ GE264.out) | exact HB.out)); (case side2 => exact Kd.R_tight rfl HO_14.out); rintro e w128 ⟨rfl, hy0, hb, hkp⟩; refine ⟨_, rfl, ?_⟩; have n0_ := Aside0.mk (Kd.R_mono (ok' := fun k_ => some k_ ≠ (v247 : Value).ownBlock ∧ some k_ ≠ (v250 : Value).ownBlock ∧ some k_ ≠ (.slice Ao123 t265.length co123 : Value).ownBlock ∧ some k_ ≠ (.slice Ao125 t268.length co125 : Value).ownBlock ∧ some k_ ≠ (.slice Ao127 t271.length co127 : Value).ownBlock) (Kd.R_keptB (HO_6.out) hkp (fun k_ hk_ hs_ => (hk_.2.2.2.2) hs_)) (fun k_ hk_ => ⟨hk_.1.1, hk_.1.2.1, hk_.1.2.2.1, hk_.1.2.2.2.1, hk_.1.2.2.2.2⟩)); have n1_ := Aside0.mk (Kd.R_mono (ok' := fun k_ => some k_ ≠ (v244 : Value).ownBlock ∧ some k_ ≠ (v250 : Value).ownBlock ∧ some k_ ≠ (.slice Ao123 t265.length co123 : Value).ownBlock ∧ some k_ ≠ (.slice Ao125 t268.length co125 : Value).ownBlock ∧ some k_ ≠ (.slice Ao127 t271.length co127 : Value).ownBlock) (Kd.R_keptB (HO_7.out) hkp (fun k_ hk_ hs_ => (hk_.2.2.2.2) hs_)) (fun k_ hk_ => ⟨hk_.1.1, hk_.1.2.1, hk_.1.2.2.1, hk_.1.2.2.2.1, hk_.1.2.2.2.2⟩)); have n2_ := Aside0.mk (Kd.R_mono (ok' := fun k_ => some k_ ≠ (v244 : Value).ownBlock ∧ some k_ ≠ (v247 : Value).ownBlock ∧ some k_ ≠ (.slice Ao123 t265.length co123 : Value).ownBlock ∧ some k_ ≠ (.slice Ao125 t268.length co125 : Value).ownBlock ∧ some k_ ≠ (.slice Ao127 t271.length co127 : Value).ownBlock) (Kd.R_keptB (HO_8.out) hkp (fun k_ hk_ hs_ => (hk_.2.2.2.2) hs_)) (fun k_ hk_ => ⟨hk_.1.1, hk_.1.2.1, hk_.1.2.2.1, hk_.1.2.2.2.1, hk_.1.2.2.2.2⟩)); have n3_ := Aside0.mk (Kd.R_mono (ok' := fun k_ => some k_ ≠ (v244 : Value).ownBlock ∧ some k_ ≠ (v247 : Value).ownBlock ∧ some k_ ≠ (v250 : Value).ownBlock ∧ some k_ ≠ (.slice Ao125 t268.length co125 : Value).ownBlock ∧ some k_ ≠ (.slice Ao127 t271.length co127 : Value).ownBlock) (Kd.R_keptB (HO_12.out) hkp (fun k_ hk_ hs_ => (hk_.2.2.2.2) hs_)) (fun k_ hk_ => ⟨hk_.1.1, hk_.1.2.1, hk_.1.2.2.1, hk_.1.2.2.2.1, hk_.1.2.2.2.2⟩)); have n4_ := Aside0.mk (Kd.R_mono (ok' := fun k_ => some k_ ≠ (v244 : Value).ownBlock ∧ some k_ ≠ (v247 : Value).ownBlock ∧ some k_ ≠ (v250 : Value).ownBlock ∧ some k_ ≠ (.slice Ao123 t265.length co123 : Value).ownBlock ∧ some k_ ≠ (.slice Ao127 t271.length co127 : Value).ownBlock) (Kd.R_keptB (HO_13.out) hkp (fun k_ hk_ hs_ => (hk_.2.2.2.2) hs_)) (fun k_ hk_ => ⟨hk_.1.1, hk_.1.2.1, hk_.1.2.2.1, hk_.1.2.2.2.1, hk_.1.2.2.2.2⟩)); have n5_ := Aside0.mk (Kd.R_reok rfl hy0 (fun k_ e_ => HO_14.out.1 k_ e_)); have n6_ := Aside0.mk (Kd.R_mono (ok' := fun k_ => some k_ ≠ (.slice Ao53 t293.length co53 : Value).ownBlock) (Kd.R_keptB ((Kd.R_apart' HO_259002.out (Kd.R_typed HO_14.out) (by decide))) hkp (fun k_ hk_ hs_ => (hk_.2) hs_)) (fun k_ hk_ => hk_.1.1)); have n7_ := Aside0.mk (Kd.R_mono (ok' := fun k_ => some k_ ≠ (.slice Ao45 t291.length co45 : Value).ownBlock) (Kd.R_keptB ((Kd.R_apart' HO_265002.out (Kd.R_typed HO_14.out) (by decide))) hkp (fun k_ hk_ hs_ => (hk_.2) hs_)) (fun k_ hk_ => hk_.1.1)); have n8_ := Aside0.mk (blk_kept (zqK BK229.out) hkp (fun hs_ => (fun e_ => (Kd.R_ne HO_14.out BK229.out (by decide)) e_) hs_)); have n9_ := Aside0.mk (blk_kept (zqK BK230.out) hkp (fun hs_ => (fun e_ => (Kd.R_ne HO_14.out BK230.out (by decide)) e_) hs_)); have n10_ := Aside0.mk (blk_kept (zqK BK258.out) hkp (fun hs_ => (fun e_ => (Kd.R_ne HO_14.out BK258.out (by decide)) e_) hs_)); have n11_ := Aside0.mk (blk_kept (zqK BK264.out) hkp (fun hs_ => (fun e_ => (Kd.R_ne HO_14.out BK264.out (by decide)) e_) hs_)); have n12_ := Aside0.mk (hb); clear HO_6; clear HO_7; clear HO_8; clear HO_12; clear HO_13; clear HO_14; clear HO_259002; clear HO_265002; clear BK229; clear BK230; clear BK258; clear BK264; clear HB; have HO_6 := n0_; have HO_7 := n1_; have HO_8 := n2_; have HO_12 := n3_; have HO_13 := n4_; have HO_14 := n5_; have HO_259002 := n6_; have HO_265002 := n7_; have BK229 := n8_; have BK230 := n9_; have BK258 := n10_; have BK264 := n11_; have HB := n12_; clear n0_ n1_ n2_ n3_ n4_ n5_ n6_ n7_ n8_ n9_ n10_ n11_ n12_; (try clear hb); (try clear hkp); (try clear hy0)) | ((with_reducible refine gate_callee (f := 12) rfl ?_); refine goesL_ (some 128) rfl rfl Try.func12 (by kernel_rfl) rfl #[.slice Ao123 t298.length co123, .int .i64 1] rfl (by (try simp only [List.map_toArray, List.map_cons, List.map_nil]); first | done | (rw [show t298.length = t265.length from (Kd.R_reads' HO_12.out).1.symm] <;> rfl) | rfl | (simp only [List.length_drop, List.length_take]; rfl)) ?_; (with_reducible refine (laws_heldIntS.calls kj76 _ _ t298 1 t303 _ ?side1 ?side2 A112.out).mono ?_); (case side1 => exact zqC (Kd.R_reads' HO_12.out).2.2); (case side2 => rw [show t298.length = t265.length from (Kd.R_reads' HO_12.out).1.symm]; exact (Kd.R_reads' HO_12.out).2.1); rintro e w' ⟨rfl, ⟨nd, rfl⟩⟩; refine ⟨_, rfl, ?_⟩) | ((with_reducible refine gate_callee (f := 12) rfl ?_); refine goesL_ (some 133) rfl rfl Try.func12 (by kernel_rfl) rfl #[.slice Ao125 t300.length co125, .int .i64 t303] rfl (by (try simp only [List.map_toArray, List.map_cons, List.map_nil]); first | done | (rw [show t300.length = t268.length from (Kd.R_reads' HO_13.out).1.symm] <;> rfl) | rfl | (simp only [List.length_drop, List.length_take]; rfl)) ?_; (with_reducible refine (laws_heldIntS.calls kj76 _ _ t300 t303 t304 _ ?side1 ?side2 A114.out).mono ?_); (case side1 => exact zqC (Kd.R_reads' HO_13.out).2.2); (case side2 => rw [show t300.length = t268.length from (Kd.R_reads' HO_13.out).1.symm]; exact (Kd.R_reads' HO_13.out).2.1); rintro e w' ⟨rfl, ⟨nd, rfl⟩⟩; refine ⟨_, rfl, ?_⟩) | ((with_reducible refine gate_callee (f := 12) rfl ?_); refine goesL_ (some 138) rfl rfl Try.func12 (by kernel_rfl) rfl #[.slice Ao127 t302.length co127, .int .i64 t304] rfl (by (try simp only [List.map_toArray, List.map_cons, List.map_nil]); first | done | (rw [show t302.length = t271.length from (Kd.R_reads' HO_14.out).1.symm] <;> rfl) | rfl | (simp only [List.length_drop, List.length_take]; rfl)) ?_; (with_reducible refine (laws_heldIntS.calls kj76 _ _ t302 t304 t305 _ ?side1 ?side2 A116.out).mono ?_); (case side1 => exact zqC (Kd.R_reads' HO_14.out).2.2); (case side2 => rw [show t302.length = t271.length from (Kd.R_reads' HO_14.out).1.symm]; exact (Kd.R_reads' HO_14.out).2.1); rintro e w' ⟨rfl, ⟨nd, rfl⟩⟩; refine ⟨_, rfl, ?_⟩))
   (try (rw [drewN_self w128]; generalize hq_ : World.drewN w128 _ = w128; have n0_ : Aside0 (Kd.R (Kd.int .i64) 3 w128 w.heap.size (fun k_ => some k_ ≠ (.slice Ao125 t268.length co125 : Value).ownBlock ∧ some k_ ≠ (.slice Ao127 t271.length co127 : Value).ownBlock ∧ some k_ ≠ (v244 : Value).ownBlock ∧ some k_ ≠ (v247 : Value).ownBlock ∧ some k_ ≠ (v250 : Value).ownBlock) (.slice Ao123 t265.length co123) t298) := ⟨by rw [← hq_]; exact (by (with_reducible repeat (first | apply Kd.R_alloc | apply Kd.R_drewN | apply Kd.R_drew)); exact Kd.R_mono HO_12.out (fun _ hk => ⟨hk.2.2.2.1, ⟨hk.2.2.2.2, ⟨hk.1, ⟨hk.2.1, hk.2.2.1⟩⟩⟩⟩))⟩; have n1_ : Aside0 (Kd.R (Kd.int .i64) 3 w128 w.heap.size (fun k_ => some k_ ≠ (.slice Ao123 t265.length co123 : Value).ownBlock ∧ some k_ ≠ (.slice Ao127 t271.length co127 : Value).ownBlock ∧ some k_ ≠ (v244 : Value).ownBlock ∧ some k_ ≠ (v247 : Value).ownBlock ∧ some k_ ≠ (v250 : Value).ownBlock) (.slice Ao125 t268.length co125) t300) := ⟨by rw [← hq_]; exact (by (with_reducible repeat (first | apply Kd.R_alloc | apply Kd.R_drewN | apply Kd.R_drew)); exact Kd.R_mono HO_13.out (fun _ hk => ⟨hk.2.2.2.1, ⟨hk.2.2.2.2, ⟨hk.1, ⟨hk.2.1, hk.2.2.1⟩⟩⟩⟩))⟩; have n2_ : Aside0 (Kd.R (Kd.int .i64) 3 w128 w.heap.size (fun k_ => some k_ ≠ (.slice Ao123 t265.length co123 : Value).ownBlock ∧ some k_ ≠ (.slice Ao125 t268.length co125 : Value).ownBlock ∧ some k_ ≠ (v244 : Value).ownBlock ∧ some k_ ≠ (v247 : Value).ownBlock ∧ some k_ ≠ (v250 : Value).ownBlock) (.slice Ao127 t271.length co127) t302) := ⟨by rw [← hq_]; exact (by (with_reducible repeat (first | apply Kd.R_alloc | apply Kd.R_drewN | apply Kd.R_drew)); exact Kd.R_mono HO_14.out (fun _ hk => ⟨hk.2.2.2.1, ⟨hk.2.2.2.2, ⟨hk.1, ⟨hk.2.1, hk.2.2.1⟩⟩⟩⟩))⟩; have n3_ : Aside0 (Kd.R k41 41 w128 w.heap.size (fun k_ => some k_ ≠ (.slice Ao53 t293.length co53 : Value).ownBlock) (.slice Ao45 t291.length co45) t291) := ⟨by rw [← hq_]; exact (zqR HO_259002.out)⟩; have n4_ : Aside0 (Kd.R k41 41 w128 w.heap.size (fun k_ => some k_ ≠ (.slice Ao45 t291.length co45 : Value).ownBlock) (.slice Ao53 t293.length co53) t293) := ⟨by rw [← hq_]; exact (zqR HO_265002.out)⟩; have n5_ : Aside0 (Kd.R (Kd.int .i64) 3 w128 w.heap.size (fun k_ => some k_ ≠ (.slice Ao123 t265.length co123 : Value).ownBlock ∧ some k_ ≠ (.slice Ao125 t268.length co125 : Value).ownBlock ∧ some k_ ≠ (.slice Ao127 t271.length co127 : Value).ownBlock ∧ some k_ ≠ (v247 : Value).ownBlock ∧ some k_ ≠ (v250 : Value).ownBlock) v244 t243) := ⟨by rw [← hq_]; exact (by (with_reducible repeat (first | apply Kd.R_alloc | apply Kd.R_drewN | apply Kd.R_drew)); exact Kd.R_mono HO_6.out (fun _ hk => ⟨hk.2.2.1, ⟨hk.2.2.2.1, ⟨hk.2.2.2.2, ⟨hk.1, hk.2.1⟩⟩⟩⟩))⟩; have n6_ : Aside0 (Kd.R (Kd.int .i64) 3 w128 w.heap.size (fun k_ => some k_ ≠ (.slice Ao123 t265.length co123 : Value).ownBlock ∧ some k_ ≠ (.slice Ao125 t268.length co125 : Value).ownBlock ∧ some k_ ≠ (.slice Ao127 t271.length co127 : Value).ownBlock ∧ some k_ ≠ (v244 : Value).ownBlock ∧ some k_ ≠ (v250 : Value).ownBlock) v247 t246) := ⟨by rw [← hq_]; exact (by (with_reducible repeat (first | apply Kd.R_alloc | apply Kd.R_drewN | apply Kd.R_drew)); exact Kd.R_mono HO_7.out (fun _ hk => ⟨hk.2.2.1, ⟨hk.2.2.2.1, ⟨hk.2.2.2.2, ⟨hk.1, hk.2.1⟩⟩⟩⟩))⟩; have n7_ : Aside0 (Kd.R (Kd.int .i64) 3 w128 w.heap.size (fun k_ => some k_ ≠ (.slice Ao123 t265.length co123 : Value).ownBlock ∧ some k_ ≠ (.slice Ao125 t268.length co125 : Value).ownBlock ∧ some k_ ≠ (.slice Ao127 t271.length co127 : Value).ownBlock ∧ some k_ ≠ (v244 : Value).ownBlock ∧ some k_ ≠ (v247 : Value).ownBlock) v250 t249) := ⟨by rw [← hq_]; exact (by (with_reducible repeat (first | apply Kd.R_alloc | apply Kd.R_drewN | apply Kd.R_drew)); exact Kd.R_mono HO_8.out (fun _ hk => ⟨hk.2.2.1, ⟨hk.2.2.2.1, ⟨hk.2.2.2.2, ⟨hk.1, hk.2.1⟩⟩⟩⟩))⟩; have n8_ : Aside0 (w128.heap[gb229]? = some (.cells #[.int .i64 a0_0, .int .i64 a0_1, .slice A0_2 l0_2.length c0_2] 24 (0, 0))) := ⟨by rw [← hq_]; exact (zqK BK229.out)⟩; have n9_ : Aside0 (w128.heap[gb230]? = some (.cells #[.int .i64 a1_0, .int .i64 a1_1, .slice A1_2 l1_2.length c1_2] 24 (0, 0))) := ⟨by rw [← hq_]; exact (zqK BK230.out)⟩; have n10_ : Aside0 (w128.heap[gb258]? = some (.cells #[.int .i64 t253, .int .i64 t254, .slice Ao45 t291.length co45] 31 (0, 0))) := ⟨by rw [← hq_]; exact (zqK BK258.out)⟩; have n11_ : Aside0 (w128.heap[gb264]? = some (.cells #[.int .i64 t259, .int .i64 t260, .slice Ao53 t293.length co53] 31 (0, 0))) := ⟨by rw [← hq_]; exact (zqK BK264.out)⟩; have n12_ : Aside0 (Below w.heap.size w w128) := ⟨by rw [← hq_]; exact zq6⟩; clear HO_12 HO_13 HO_14 HO_259002 HO_265002 HO_6 HO_7 HO_8 BK229 BK230 BK258 BK264 HB hq_; have HO_12 := n0_; have HO_13 := n1_; have HO_14 := n2_; have HO_259002 := n3_; have HO_265002 := n4_; have HO_6 := n5_; have HO_7 := n6_; have HO_8 := n7_; have BK229 := n8_; have BK230 := n9_; have BK258 := n10_; have BK264 := n11_; have HB := n12_; clear n0_ n1_ n2_ n3_ n4_ n5_ n6_ n7_ n8_ n9_ n10_ n11_ n12_))
   have n0_ := Aside0.mk (Kd.R_drew HO_6.out)
   have n1_ := Aside0.mk (Kd.R_drew HO_7.out)
   have n2_ := Aside0.mk (Kd.R_drew HO_8.out)
   have n3_ := Aside0.mk (Kd.R_drew HO_12.out)
   have n4_ := Aside0.mk (Kd.R_drew HO_13.out)
   have n5_ := Aside0.mk (Kd.R_drew HO_14.out)
   have n6_ := Aside0.mk (Kd.R_drew HO_259002.out)
   have n7_ := Aside0.mk (Kd.R_drew HO_265002.out)
   have n8_ := Aside0.mk (blk_drew BK229.out)
   have n9_ := Aside0.mk (blk_drew BK230.out)
   have n10_ := Aside0.mk (blk_drew BK258.out)
   have n11_ := Aside0.mk (blk_drew BK264.out)
   have n12_ := Aside0.mk (below_drew1 HB.out)
   clear HO_6
   clear HO_7
   clear HO_8
   clear HO_12
   clear HO_13
   clear HO_14
   clear HO_259002
   clear HO_265002
   clear BK229
   clear BK230
   clear BK258
   clear BK264
   clear HB
   have HO_6 := n0_
   have HO_7 := n1_
   have HO_8 := n2_
   have HO_12 := n3_
   have HO_13 := n4_
   have HO_14 := n5_
   have HO_259002 := n6_
   have HO_265002 := n7_
   have BK229 := n8_
   have BK230 := n9_
   have BK258 := n10_
   have BK264 := n11_
   have HB := n12_
   clear n0_ n1_ n2_ n3_ n4_ n5_ n6_ n7_ n8_ n9_ n10_ n11_ n12_
   refine start_ (n := 14) (S := fun w' => w'.cell? ⟨gb229, 0, none⟩ = some (.int .i64 a0_0) ∧ w'.cell? ⟨gb229, 1, none⟩ = some (.int .i64 a0_1) ∧ w'.cell? ⟨gb229, 2, none⟩ = some (.slice A0_2 l0_2.length c0_2) ∧ w'.cell? ⟨gb230, 0, none⟩ = some (.int .i64 a1_0) ∧ w'.cell? ⟨gb230, 1, none⟩ = some (.int .i64 a1_1) ∧ w'.cell? ⟨gb230, 2, none⟩ = some (.slice A1_2 l1_2.length c1_2)) (ds := []) #[false, false, false, false, false, false, false, false, false, false, false, false, false, false] (by kernel_rfl) rfl rfl ⟨(blk_cell BK229.out 0).trans rfl, (blk_cell BK229.out 1).trans rfl, (blk_cell BK229.out 2).trans rfl, (blk_cell BK230.out 0).trans rfl, (blk_cell BK230.out 1).trans rfl, (blk_cell BK230.out 2).trans rfl⟩ (fun hHeld => ?_); refine with_tabW laws_FnExactBulletinChanges.tab39 laws_FnExactBulletinChanges.bits39 (fun HT_ HW_ => ?_)
   generalize w128.drew = w129 at HO_6 HO_7 HO_8 HO_12 HO_13 HO_14 HO_259002 HO_265002 BK229 BK230 BK258 BK264 HB hHeld ⊢
   refine take_ (i := 0) (N := some 145) (v := ?_) (a' := ?_) #[true, false, false, false, false, false, false, false, false, false, false, false, false, false] rfl rfl (take_ofW HT_.out HW_.out (by kernel_rfl)) (fun _ _ _ h => h) (Or.inl ⟨by rfl, ?_⟩) hHeld ?_ ?_
   rotate_left
   ·
    rintro w' ⟨s0, s1, s2, s3, s4, s5⟩
    go_simp
    with_reducible rfl
   rotate_left; · exact zqA
   refine take_ (i := 2) (N := some 147) (v := ?_) (a' := ?_) #[true, false, true, false, false, false, false, false, false, false, false, false, false, false] rfl rfl (take_ofW HT_.out HW_.out (by kernel_rfl)) (fun _ _ _ h => h) (Or.inl ⟨by rfl, ?_⟩) hHeld ?_ ?_
   rotate_left
   ·
    rintro w' ⟨s0, s1, s2, s3, s4, s5⟩
    go_simp
    with_reducible rfl
   rotate_left; · exact zqA
   refine one_ (i := 1) (N := some 146) #[true, true, true, false, false, false, false, false, false, false, false, false, false, false] rfl rfl (one_of HT_.out (by kernel_rfl)) (by decide) (fun K hK => ?_)
   refine goes_ Try.func6 (by kernel_rfl) rfl #[.agg #[.int .i64 a0_0, .int .i64 a0_1, .slice A0_2 l0_2.length c0_2]] (by rfl) rfl rfl zq2 ?_
   with_reducible refine (laws_toBulletin.calls kj76 a0_0 a0_1 _ _ l0_2 t306 t307 t308 _ ?side1 ?side2 A119.out).mono ?_
   (case side1 => exact zqC (Kd.C_below HR0_2.out HB.out))
   (case side2 => exact HC0_2.out)
   rintro e w130 ⟨v309, rfl, ho0, hb⟩
   refine ⟨_, rfl, ?_⟩
   have n0_ := Aside0.mk (Kd.R_below (zqR HO_6.out) hb)
   have n1_ := Aside0.mk (Kd.R_below (zqR HO_7.out) hb)
   have n2_ := Aside0.mk (Kd.R_below (zqR HO_8.out) hb)
   have n3_ := Aside0.mk (Kd.R_below (zqR HO_12.out) hb)
   have n4_ := Aside0.mk (Kd.R_below (zqR HO_13.out) hb)
   have n5_ := Aside0.mk (Kd.R_below (zqR HO_14.out) hb)
   have n6_ := Aside0.mk (Kd.R_elder' (zqR HO_259002.out) (Kd.R_base ho0) hb)
   have n7_ := Aside0.mk (Kd.R_elder' (zqR HO_265002.out) (Kd.R_base ho0) hb)
   have n8_ := Aside0.mk (Kd.R_lower (Kd.R_new' (Kd.R_new' ho0 (Kd.R_lt (zqR HO_259002.out))) (Kd.R_lt (zqR HO_265002.out))) (below_size zq6))
   have n9_ := Aside0.mk (blk_below (g := gb229) (o := .cells #[.int .i64 a0_0, .int .i64 a0_1, .slice A0_2 l0_2.length c0_2] 24 (0, 0)) (zqK BK229.out) hb)
   have n10_ := Aside0.mk (blk_below (g := gb230) (o := .cells #[.int .i64 a1_0, .int .i64 a1_1, .slice A1_2 l1_2.length c1_2] 24 (0, 0)) (zqK BK230.out) hb)
   have n11_ := Aside0.mk (blk_below (g := gb258) (o := .cells #[.int .i64 t253, .int .i64 t254, .slice Ao45 t291.length co45] 31 (0, 0)) (zqK BK258.out) hb)
   have n12_ := Aside0.mk (blk_below (g := gb264) (o := .cells #[.int .i64 t259, .int .i64 t260, .slice Ao53 t293.length co53] 31 (0, 0)) (zqK BK264.out) hb)
   have n13_ := Aside0.mk (below_step zq6 hb)
   clear HO_6
   clear HO_7
   clear HO_8
   clear HO_12
   clear HO_13
   clear HO_14
   clear HO_259002
   clear HO_265002
   clear BK229
   clear BK230
   clear BK258
   clear BK264
   clear HB
   have HO_6 := n0_
   have HO_7 := n1_
   have HO_8 := n2_
   have HO_12 := n3_
   have HO_13 := n4_
   have HO_14 := n5_
   have HO_259002 := n6_
   have HO_265002 := n7_
   have HO310 := n8_
   have BK229 := n9_
   have BK230 := n10_
   have BK258 := n11_
   have BK264 := n12_
   have HB := n13_
   clear n0_ n1_ n2_ n3_ n4_ n5_ n6_ n7_ n8_ n9_ n10_ n11_ n12_ n13_
   (try clear hb)
   (try clear hb2)
   (try clear hk)
   (try clear hi)
   (try clear ho0)
   refine hK.out _ _ ⟨(blk_cell BK229.out 0).trans rfl, (blk_cell BK229.out 1).trans rfl, (blk_cell BK229.out 2).trans rfl, (blk_cell BK230.out 0).trans rfl, (blk_cell BK230.out 1).trans rfl, (blk_cell BK230.out 2).trans rfl⟩ (fun hHeld => ?_)
   clear hK K
   refine norm_ (a' := ?_) ?_ ?_
   rotate_left
   ·
    show Act.put _ (some 146) _ = _
    simp only [Act.put, List.setIfInBounds_toArray, List.set_cons_zero, List.set_cons_succ, i64_w, i32_w]
    rfl
   refine one_ (i := 3) (N := some 148) #[true, true, true, true, false, false, false, false, false, false, false, false, false, false] rfl rfl (one_of HT_.out (by kernel_rfl)) (by decide) (fun K hK => ?_)
   refine goes_ Try.func6 (by kernel_rfl) rfl #[.agg #[.int .i64 a1_0, .int .i64 a1_1, .slice A1_2 l1_2.length c1_2]] (by rfl) rfl rfl zq2 ?_
   with_reducible refine (laws_toBulletin.calls kj76 a1_0 a1_1 _ _ l1_2 t311 t312 t313 _ ?side1 ?side2 A120.out).mono ?_
   (case side1 => exact zqC (Kd.C_below HR1_2.out HB.out))
   (case side2 => exact HC1_2.out)
   rintro e w131 ⟨v314, rfl, ho0, hb⟩
   refine ⟨_, rfl, ?_⟩
   have n0_ := Aside0.mk (Kd.R_below (zqR HO_6.out) hb)
   have n1_ := Aside0.mk (Kd.R_below (zqR HO_7.out) hb)
   have n2_ := Aside0.mk (Kd.R_below (zqR HO_8.out) hb)
   have n3_ := Aside0.mk (Kd.R_below (zqR HO_12.out) hb)
   have n4_ := Aside0.mk (Kd.R_below (zqR HO_13.out) hb)
   have n5_ := Aside0.mk (Kd.R_below (zqR HO_14.out) hb)
   have n6_ := Aside0.mk (Kd.R_elder' (zqR HO_259002.out) (Kd.R_base ho0) hb)
   have n7_ := Aside0.mk (Kd.R_elder' (zqR HO_265002.out) (Kd.R_base ho0) hb)
   have n8_ := Aside0.mk (Kd.R_elder' (zqR HO310.out) (Kd.R_base ho0) hb)
   have n9_ := Aside0.mk (Kd.R_lower (Kd.R_new' (Kd.R_new' (Kd.R_new' ho0 (Kd.R_lt (zqR HO_259002.out))) (Kd.R_lt (zqR HO_265002.out))) (Kd.R_lt (zqR HO310.out))) (below_size zq6))
   have n10_ := Aside0.mk (blk_below (g := gb229) (o := .cells #[.int .i64 a0_0, .int .i64 a0_1, .slice A0_2 l0_2.length c0_2] 24 (0, 0)) (zqK BK229.out) hb)
   have n11_ := Aside0.mk (blk_below (g := gb230) (o := .cells #[.int .i64 a1_0, .int .i64 a1_1, .slice A1_2 l1_2.length c1_2] 24 (0, 0)) (zqK BK230.out) hb)
   have n12_ := Aside0.mk (blk_below (g := gb258) (o := .cells #[.int .i64 t253, .int .i64 t254, .slice Ao45 t291.length co45] 31 (0, 0)) (zqK BK258.out) hb)
   have n13_ := Aside0.mk (blk_below (g := gb264) (o := .cells #[.int .i64 t259, .int .i64 t260, .slice Ao53 t293.length co53] 31 (0, 0)) (zqK BK264.out) hb)
   have n14_ := Aside0.mk (below_step zq6 hb)
   clear HO_6
   clear HO_7
   clear HO_8
   clear HO_12
   clear HO_13
   clear HO_14
   clear HO_259002
   clear HO_265002
   clear HO310
   clear BK229
   clear BK230
   clear BK258
   clear BK264
   clear HB
   have HO_6 := n0_
   have HO_7 := n1_
   have HO_8 := n2_
   have HO_12 := n3_
   have HO_13 := n4_
   have HO_14 := n5_
   have HO_259002 := n6_
   have HO_265002 := n7_
   have HO310 := n8_
   have HO315 := n9_
   have BK229 := n10_
   have BK230 := n11_
   have BK258 := n12_
   have BK264 := n13_
   have HB := n14_
   clear n0_ n1_ n2_ n3_ n4_ n5_ n6_ n7_ n8_ n9_ n10_ n11_ n12_ n13_ n14_
   (try clear hb)
   (try clear hb2)
   (try clear hk)
   (try clear hi)
   (try clear ho0)
   obtain ⟨Ao132, co132, eo132⟩ := Kd.R_slice HO310.out
   (first | subst eo132 | (injection eo132 with f1_ f2_ f3_; have f4_ := f1_.symm; have f5_ := f3_.symm; clear f1_ f2_ f3_; subst f4_; subst f5_))
   obtain ⟨Ao133, co133, eo133⟩ := Kd.R_slice HO315.out
   (first | subst eo133 | (injection eo133 with f1_ f2_ f3_; have f4_ := f1_.symm; have f5_ := f3_.symm; clear f1_ f2_ f3_; subst f4_; subst f5_))
   refine hK.out _ _ ⟨(blk_cell BK229.out 0).trans rfl, (blk_cell BK229.out 1).trans rfl, (blk_cell BK229.out 2).trans rfl, (blk_cell BK230.out 0).trans rfl, (blk_cell BK230.out 1).trans rfl, (blk_cell BK230.out 2).trans rfl⟩ (fun hHeld => ?_)
   clear hK K
   refine norm_ (a' := ?_) ?_ ?_
   rotate_left
   ·
    show Act.put _ (some 148) _ = _
    simp only [Act.put, List.setIfInBounds_toArray, List.set_cons_zero, List.set_cons_succ, i64_w, i32_w]
    rfl
   refine one_ (i := 4) (N := some 149) #[true, true, true, true, true, false, false, false, false, false, false, false, false, false] rfl rfl (one_of HT_.out (by kernel_rfl)) (by decide) (fun K hK => ?_)
   refine goes_ Try.func7 (by kernel_rfl) rfl #[.agg #[.int .i64 t306, .int .i64 t307, .slice Ao132 t308.length co132], .agg #[.int .i64 t311, .int .i64 t312, .slice Ao133 t313.length co133]] (by rfl) rfl rfl zq2 ?_
   with_reducible refine (impl_BulletinChanges.calls kj76 t306 t307 _ _ t308 t311 t312 _ _ t313 t316 t319 t322 t325 _ ?side1 ?side2 ?side3 ?side4 A121.out).mono ?_
   (case side1 => exact zqC (Kd.R_reads' HO310.out).2.2)
   (case side2 => exact (Kd.R_reads' HO310.out).2.1)
   (case side3 => exact zqC (Kd.R_reads' HO315.out).2.2)
   (case side4 => exact (Kd.R_reads' HO315.out).2.1)
   rintro e w134 ⟨v317, v320, v323, rfl, ho0, ho1, ho2, hb⟩
   refine ⟨_, rfl, ?_⟩
   have n0_ := Aside0.mk (Kd.R_mono (Kd.R_told (Kd.R_told (Kd.R_told (Kd.R_old (zqR HO_6.out) hb) (Kd.R_base ho0)) (Kd.R_base ho1)) (Kd.R_base ho2)) (fun _ h_ => h_.1))
   have n1_ := Aside0.mk (Kd.R_mono (Kd.R_told (Kd.R_told (Kd.R_told (Kd.R_old (zqR HO_7.out) hb) (Kd.R_base ho0)) (Kd.R_base ho1)) (Kd.R_base ho2)) (fun _ h_ => h_.1))
   have n2_ := Aside0.mk (Kd.R_mono (Kd.R_told (Kd.R_told (Kd.R_told (Kd.R_old (zqR HO_8.out) hb) (Kd.R_base ho0)) (Kd.R_base ho1)) (Kd.R_base ho2)) (fun _ h_ => h_.1))
   have n3_ := Aside0.mk (Kd.R_mono (Kd.R_told (Kd.R_told (Kd.R_told (Kd.R_old (zqR HO_12.out) hb) (Kd.R_base ho0)) (Kd.R_base ho1)) (Kd.R_base ho2)) (fun _ h_ => h_.1))
   have n4_ := Aside0.mk (Kd.R_mono (Kd.R_told (Kd.R_told (Kd.R_told (Kd.R_old (zqR HO_13.out) hb) (Kd.R_base ho0)) (Kd.R_base ho1)) (Kd.R_base ho2)) (fun _ h_ => h_.1))
   have n5_ := Aside0.mk (Kd.R_mono (Kd.R_told (Kd.R_told (Kd.R_told (Kd.R_old (zqR HO_14.out) hb) (Kd.R_base ho0)) (Kd.R_base ho1)) (Kd.R_base ho2)) (fun _ h_ => h_.1))
   have n6_ := Aside0.mk (Kd.R_below (zqR HO_259002.out) hb)
   have n7_ := Aside0.mk (Kd.R_below (zqR HO_265002.out) hb)
   have n8_ := Aside0.mk (Kd.R_below (zqR HO310.out) hb)
   have n9_ := Aside0.mk (Kd.R_below (zqR HO315.out) hb)
   have n10_ := Aside0.mk (Kd.R_lower (Kd.R_new' (Kd.R_new' (Kd.R_new' (Kd.R_new' (Kd.R_new' (Kd.R_new' ho0 (Kd.R_lt (zqR HO_6.out))) (Kd.R_lt (zqR HO_7.out))) (Kd.R_lt (zqR HO_8.out))) (Kd.R_lt (zqR HO_12.out))) (Kd.R_lt (zqR HO_13.out))) (Kd.R_lt (zqR HO_14.out))) (below_size zq6))
   have n11_ := Aside0.mk (Kd.R_lower (Kd.R_new' (Kd.R_new' (Kd.R_new' (Kd.R_new' (Kd.R_new' (Kd.R_new' ho1 (Kd.R_lt (zqR HO_6.out))) (Kd.R_lt (zqR HO_7.out))) (Kd.R_lt (zqR HO_8.out))) (Kd.R_lt (zqR HO_12.out))) (Kd.R_lt (zqR HO_13.out))) (Kd.R_lt (zqR HO_14.out))) (below_size zq6))
   have n12_ := Aside0.mk (Kd.R_lower (Kd.R_new' (Kd.R_new' (Kd.R_new' (Kd.R_new' (Kd.R_new' (Kd.R_new' ho2 (Kd.R_lt (zqR HO_6.out))) (Kd.R_lt (zqR HO_7.out))) (Kd.R_lt (zqR HO_8.out))) (Kd.R_lt (zqR HO_12.out))) (Kd.R_lt (zqR HO_13.out))) (Kd.R_lt (zqR HO_14.out))) (below_size zq6))
   have n13_ := Aside0.mk (blk_below (g := gb229) (o := .cells #[.int .i64 a0_0, .int .i64 a0_1, .slice A0_2 l0_2.length c0_2] 24 (0, 0)) (zqK BK229.out) hb)
   have n14_ := Aside0.mk (blk_below (g := gb230) (o := .cells #[.int .i64 a1_0, .int .i64 a1_1, .slice A1_2 l1_2.length c1_2] 24 (0, 0)) (zqK BK230.out) hb)
   have n15_ := Aside0.mk (blk_below (g := gb258) (o := .cells #[.int .i64 t253, .int .i64 t254, .slice Ao45 t291.length co45] 31 (0, 0)) (zqK BK258.out) hb)
   have n16_ := Aside0.mk (blk_below (g := gb264) (o := .cells #[.int .i64 t259, .int .i64 t260, .slice Ao53 t293.length co53] 31 (0, 0)) (zqK BK264.out) hb)
   have n17_ := Aside0.mk (below_step zq6 hb)
   clear HO_6
   clear HO_7
   clear HO_8
   clear HO_12
   clear HO_13
   clear HO_14
   clear HO_259002
   clear HO_265002
   clear HO310
   clear HO315
   clear BK229
   clear BK230
   clear BK258
   clear BK264
   clear HB
   have HO_6 := n0_
   have HO_7 := n1_
   have HO_8 := n2_
   have HO_12 := n3_
   have HO_13 := n4_
   have HO_14 := n5_
   have HO_259002 := n6_
   have HO_265002 := n7_
   have HO310 := n8_
   have HO315 := n9_
   have HO318 := n10_
   have HO321 := n11_
   have HO324 := n12_
   have BK229 := n13_
   have BK230 := n14_
   have BK258 := n15_
   have BK264 := n16_
   have HB := n17_
   clear n0_ n1_ n2_ n3_ n4_ n5_ n6_ n7_ n8_ n9_ n10_ n11_ n12_ n13_ n14_ n15_ n16_ n17_
   (try clear hb)
   (try clear hb2)
   (try clear hk)
   (try clear hi)
   (try clear ho0)
   (try clear ho1)
   (try clear ho2)
   refine hK.out _ _ ⟨(blk_cell BK229.out 0).trans rfl, (blk_cell BK229.out 1).trans rfl, (blk_cell BK229.out 2).trans rfl, (blk_cell BK230.out 0).trans rfl, (blk_cell BK230.out 1).trans rfl, (blk_cell BK230.out 2).trans rfl⟩ (fun hHeld => ?_)
   clear hK K
   refine norm_ (a' := ?_) ?_ ?_
   rotate_left
   ·
    show Act.put _ (some 149) _ = _
    simp only [Act.put, List.setIfInBounds_toArray, List.set_cons_zero, List.set_cons_succ, i64_w, i32_w]
    rfl
   refine pure_ (i := 5) (N := some 144) (v := ?_) (a' := ?_) #[true, true, true, true, true, true, false, false, false, false, false, false, false, false] rfl rfl (any_of HT_.out (by kernel_rfl)) (fun _ _ _ h => h) (Or.inl ⟨by rfl, ?_⟩) ?_ ?_
   rotate_left; · exact zqB
   rotate_left; · exact zqA
   refine pure_ (i := 6) (N := some 150) (v := ?_) (a' := ?_) #[true, true, true, true, true, true, true, false, false, false, false, false, false, false] rfl rfl (any_of HT_.out (by kernel_rfl)) (fun _ _ _ h => h) (Or.inl ⟨by rfl, ?_⟩) ?_ ?_
   rotate_left; · exact zqB
   rotate_left; · exact zqA
   refine pure_ (i := 7) (N := some 151) (v := ?_) (a' := ?_) #[true, true, true, true, true, true, true, true, false, false, false, false, false, false] rfl rfl (any_of HT_.out (by kernel_rfl)) (fun _ _ _ h => h) (Or.inl ⟨by rfl, ?_⟩) ?_ ?_
   rotate_left; · exact zqB
   rotate_left; · exact zqA
   refine pure_ (i := 8) (N := some 152) (v := ?_) (a' := ?_) #[true, true, true, true, true, true, true, true, true, false, false, false, false, false] rfl rfl (any_of HT_.out (by kernel_rfl)) (fun _ _ _ h => h) (Or.inl ⟨by rfl, ?_⟩) ?_ ?_
   rotate_left; · exact zqB
   rotate_left; · exact zqA
   refine pure_ (i := 9) (N := some 153) (v := ?_) (a' := ?_) #[true, true, true, true, true, true, true, true, true, true, false, false, false, false] rfl rfl (any_of HT_.out (by kernel_rfl)) (fun _ _ _ h => h) (Or.inl ⟨by rfl, ?_⟩) ?_ ?_
   rotate_left; · exact zqB
   rotate_left; · exact zqA
   refine pure_ (i := 10) (N := some 19) (v := ?_) (a' := ?_) #[true, true, true, true, true, true, true, true, true, true, true, false, false, false] rfl rfl (any_of HT_.out (by kernel_rfl)) (fun _ _ _ h => h) (Or.inl ⟨by rfl, ?_⟩) ?_ ?_
   rotate_left; · exact zqB
   rotate_left; · exact zqA
   refine pure_ (i := 11) (N := some 20) (v := ?_) (a' := ?_) #[true, true, true, true, true, true, true, true, true, true, true, true, false, false] rfl rfl (any_of HT_.out (by kernel_rfl)) (fun _ _ _ h => h) (Or.inl ⟨by rfl, ?_⟩) ?_ ?_
   rotate_left; · exact zqB
   rotate_left; · exact zqA
   refine pure_ (i := 12) (N := some 21) (v := ?_) (a' := ?_) #[true, true, true, true, true, true, true, true, true, true, true, true, true, false] rfl rfl (any_of HT_.out (by kernel_rfl)) (fun _ _ _ h => h) (Or.inl ⟨by rfl, ?_⟩) ?_ ?_
   rotate_left; · exact zqB
   rotate_left; · exact zqA
   refine pure_ (i := 13) (N := some 22) (v := ?_) (a' := ?_) #[true, true, true, true, true, true, true, true, true, true, true, true, true, true] rfl rfl (any_of HT_.out (by kernel_rfl)) (fun _ _ _ h => h) (Or.inl ⟨by rfl, ?_⟩) ?_ ?_
   rotate_left; · exact zqB
   rotate_left; · exact zqA
   refine done_ (done_of HT_.out (by kernel_rfl)) ?_
   go_upto_region 40 with (fail)
   go_cut [174] (fun v174 wc => ∃ (kq : Nat) (x174_121 : Bool), v174 = .bool x174_121 ∧ Aside0 (laws_FnExactBulletinChanges.j2 kq t298 t300 t302 t301 x174_121 = some r) ∧ Aside0 (kq ≤ kj76) ∧ Aside0 (Kd.R (Kd.int .i64) 3 wc w.heap.size (fun k_ => some k_ ≠ ((.slice Ao125 t268.length co125) : Value).ownBlock ∧ some k_ ≠ ((.slice Ao127 t271.length co127) : Value).ownBlock) (.slice Ao123 t265.length co123) t298) ∧ Aside0 (Kd.R (Kd.int .i64) 3 wc w.heap.size (fun k_ => some k_ ≠ ((.slice Ao123 t265.length co123) : Value).ownBlock ∧ some k_ ≠ ((.slice Ao127 t271.length co127) : Value).ownBlock) (.slice Ao125 t268.length co125) t300) ∧ Aside0 (Kd.R (Kd.int .i64) 3 wc w.heap.size (fun k_ => some k_ ≠ ((.slice Ao123 t265.length co123) : Value).ownBlock ∧ some k_ ≠ ((.slice Ao125 t268.length co125) : Value).ownBlock) (.slice Ao127 t271.length co127) t302) ∧ Aside0 (Kd.R k41 41 wc w.heap.size (fun k_ => some k_ ≠ ((.slice Ao53 t293.length co53) : Value).ownBlock) (.slice Ao45 t291.length co45) t291) ∧ Aside0 (Kd.R k41 41 wc w.heap.size (fun k_ => some k_ ≠ ((.slice Ao45 t291.length co45) : Value).ownBlock) (.slice Ao53 t293.length co53) t293) ∧ Aside0 (wc.heap[gb229]? = some (.cells #[.int .i64 a0_0, .int .i64 a0_1, (.slice A0_2 l0_2.length c0_2)] 24 (0, 0))) ∧ Aside0 (wc.heap[gb230]? = some (.cells #[.int .i64 a1_0, .int .i64 a1_1, (.slice A1_2 l1_2.length c1_2)] 24 (0, 0))) ∧ Aside0 (wc.heap[gb258]? = some (.cells #[.int .i64 t253, .int .i64 t254, (.slice Ao45 t291.length co45)] 31 (0, 0))) ∧ Aside0 (wc.heap[gb264]? = some (.cells #[.int .i64 t259, .int .i64 t260, (.slice Ao53 t293.length co53)] 31 (0, 0))) ∧ Aside0 (Below w.heap.size w wc))
   case first =>
    have H := HC122.out
    clear HC122
    replace H := Option.bind_eq_some_iff.mp H
    obtain ⟨t326, A1350, H⟩ := H
    replace H : (if t326 = true then ((laws_eqIntS.f kj76 t319 t246).bind fun t327 => (if t327 = true then ((laws_eqIntS.f kj76 t322 t249).bind fun t328 => (if t328 = true then (laws_FnExactBulletinChanges.j2 kj76 t298 t300 t302 t301 (t325 != t252)) else (none))) else (none))) else (none)) = some r := H
    have A135 := Aside0.mk A1350
    clear A1350
    by_cases c136 : t326 = true
    case neg =>
     replace c136 := Bool.eq_false_iff.mpr c136
     subst c136
     have H1 : (none) = some r := by rw [if_neg (show ¬ (false = true) by decide)] at H; exact H
     clear H
     have H := H1
     clear H1
     exact absurd H (by simp)
    subst c136
    have H1 : ((laws_eqIntS.f kj76 t319 t246).bind fun t327 => (if t327 = true then ((laws_eqIntS.f kj76 t322 t249).bind fun t328 => (if t328 = true then (laws_FnExactBulletinChanges.j2 kj76 t298 t300 t302 t301 (t325 != t252)) else (none))) else (none))) = some r := by rw [if_pos rfl] at H; exact H
    clear H
    have H := H1
    clear H1
    replace H := Option.bind_eq_some_iff.mp H
    obtain ⟨t327, A1370, H⟩ := H
    replace H : (if t327 = true then ((laws_eqIntS.f kj76 t322 t249).bind fun t328 => (if t328 = true then (laws_FnExactBulletinChanges.j2 kj76 t298 t300 t302 t301 (t325 != t252)) else (none))) else (none)) = some r := H
    have A137 := Aside0.mk A1370
    clear A1370
    by_cases c138 : t327 = true
    case neg =>
     replace c138 := Bool.eq_false_iff.mpr c138
     subst c138
     have H1 : (none) = some r := by rw [if_neg (show ¬ (false = true) by decide)] at H; exact H
     clear H
     have H := H1
     clear H1
     exact absurd H (by simp)
    subst c138
    have H1 : ((laws_eqIntS.f kj76 t322 t249).bind fun t328 => (if t328 = true then (laws_FnExactBulletinChanges.j2 kj76 t298 t300 t302 t301 (t325 != t252)) else (none))) = some r := by rw [if_pos rfl] at H; exact H
    clear H
    have H := H1
    clear H1
    replace H := Option.bind_eq_some_iff.mp H
    obtain ⟨t328, A1390, H⟩ := H
    replace H : (if t328 = true then (laws_FnExactBulletinChanges.j2 kj76 t298 t300 t302 t301 (t325 != t252)) else (none)) = some r := H
    have A139 := Aside0.mk A1390
    clear A1390
    by_cases c140 : t328 = true
    case neg =>
     replace c140 := Bool.eq_false_iff.mpr c140
     subst c140
     have H1 : (none) = some r := by rw [if_neg (show ¬ (false = true) by decide)] at H; exact H
     clear H
     have H := H1
     clear H1
     exact absurd H (by simp)
    subst c140
    have H1 : (laws_FnExactBulletinChanges.j2 kj76 t298 t300 t302 t301 (t325 != t252)) = some r := by rw [if_pos rfl] at H; exact H
    clear H
    have H := H1
    clear H1
    have H' := Aside0.mk H
    clear H
    obtain ⟨Ao141, co141, eo141⟩ := Kd.R_slice HO318.out
    subst eo141
    obtain ⟨Ao142, co142, eo142⟩ := Kd.R_slice HO_6.out
    subst eo142
    go_wp2_with (first | ((with_reducible refine gate_callee (f := 8) rfl ?_); refine goesL_ (some 156) rfl rfl Try.func8 (by kernel_rfl) rfl #[.slice Ao141 t316.length co141, .slice Ao142 t243.length co142] rfl zq2 ?_; (with_reducible refine (laws_eqIntS.calls kj76 _ _ t316 _ _ t243 true _ ?side1 ?side2 ?side3 ?side4 A135.out).mono ?_); (case side1 => exact zqC (Kd.R_reads' HO318.out).2.2); (case side2 => exact (Kd.R_reads' HO318.out).2.1); (case side3 => exact zqC (Kd.R_reads' HO_6.out).2.2); (case side4 => exact (Kd.R_reads' HO_6.out).2.1); rintro e w' ⟨rfl, ⟨nd, rfl⟩⟩; refine ⟨_, rfl, ?_⟩; obtain ⟨Ao143, co143, eo143⟩ := Kd.R_slice HO321.out; subst eo143; obtain ⟨Ao144, co144, eo144⟩ := Kd.R_slice HO_7.out; subst eo144) | (go_at_call 8; (with_reducible refine (laws_eqIntS.calls kj76 _ _ t319 _ _ t246 true _ ?side1 ?side2 ?side3 ?side4 A137.out).mono ?_); (case side1 => exact zqC (Kd.R_reads' HO321.out).2.2); (case side2 => exact (Kd.R_reads' HO321.out).2.1); (case side3 => exact zqC (Kd.R_reads' HO_7.out).2.2); (case side4 => exact (Kd.R_reads' HO_7.out).2.1); rintro e w' ⟨rfl, ⟨nd, rfl⟩⟩; obtain ⟨Ao145, co145, eo145⟩ := Kd.R_slice HO324.out; subst eo145; obtain ⟨Ao146, co146, eo146⟩ := Kd.R_slice HO_8.out; subst eo146) | (go_at_call 8; (with_reducible refine (laws_eqIntS.calls kj76 _ _ t322 _ _ t249 true _ ?side1 ?side2 ?side3 ?side4 A139.out).mono ?_); (case side1 => exact zqC (Kd.R_reads' HO324.out).2.2); (case side2 => exact (Kd.R_reads' HO324.out).2.1); (case side3 => exact zqC (Kd.R_reads' HO_8.out).2.2); (case side4 => exact (Kd.R_reads' HO_8.out).2.1); rintro e w' ⟨rfl, ⟨nd, rfl⟩⟩))
    go_meet
    case rel => exact ⟨_, ((t325 != t252)), (by first | rfl | (simp; done) | (simp [*]; done)), H', ⟨by have := HJ24.out; have := HJ76.out; first | omega | exact Nat.le_refl _⟩, ⟨by (try simp only [hl259002_76]); (try simp only [hl265002_76]); (with_reducible repeat (first | apply Kd.R_alloc | apply Kd.R_drewN | apply Kd.R_drew)); exact Kd.R_mono HO_12.out (fun _ hk => ⟨by with_reducible (first | exact hk.1.1.1.1 | exact hk.1.1.1 | exact hk.1.1.1.2.1 | exact hk.1.1.1.2 | exact hk.1.1.1.2.2.1 | exact hk.1.1.1.2.2 | exact hk.1.1.1.2.2.2.1 | exact hk.1.1.1.2.2.2 | exact hk.1.1.1.2.2.2.2.1 | exact hk.1.1.1.2.2.2.2 | exact hk.1.1.1.2.2.2.2.2.1 | exact hk.1.1.1.2.2.2.2.2 | exact hk.1.1.1.2.2.2.2.2.2.1 | exact hk.1.1.1.2.2.2.2.2.2 | exact hk.1.1.1.2.2.2.2.2.2.2.1 | exact hk.1.1.1.2.2.2.2.2.2.2 | exact hk.1.1 | exact hk.1.1.2.1 | exact hk.1.1.2 | exact hk.1.1.2.2.1 | exact hk.1.1.2.2 | exact hk.1.1.2.2.2.1 | exact hk.1.1.2.2.2 | exact hk.1.1.2.2.2.2.1 | exact hk.1.1.2.2.2.2 | exact hk.1.1.2.2.2.2.2.1 | exact hk.1.1.2.2.2.2.2 | exact hk.1.1.2.2.2.2.2.2.1 | exact hk.1.1.2.2.2.2.2.2 | exact hk.1.1.2.2.2.2.2.2.2.1 | exact hk.1.1.2.2.2.2.2.2.2 | exact hk.1 | exact hk.1.2.1 | exact hk.1.2 | exact hk.1.2.2.1 | exact hk.1.2.2 | exact hk.1.2.2.2.1 | exact hk.1.2.2.2 | exact hk.1.2.2.2.2.1 | exact hk.1.2.2.2.2 | exact hk.1.2.2.2.2.2.1 | exact hk.1.2.2.2.2.2 | exact hk.1.2.2.2.2.2.2.1 | exact hk.1.2.2.2.2.2.2 | exact hk.1.2.2.2.2.2.2.2.1 | exact hk.1.2.2.2.2.2.2.2 | exact hk | exact hk.2.1 | exact hk.2 | exact hk.2.2.1 | exact hk.2.2 | exact hk.2.2.2.1 | exact hk.2.2.2 | exact hk.2.2.2.2.1 | exact hk.2.2.2.2 | exact hk.2.2.2.2.2.1 | exact hk.2.2.2.2.2 | exact hk.2.2.2.2.2.2.1 | exact hk.2.2.2.2.2.2 | exact hk.2.2.2.2.2.2.2.1 | exact hk.2.2.2.2.2.2.2 | exact hk.1.1.1.1.1 | exact hk.1.1.1.1.2.1 | exact hk.1.1.1.1.2 | exact hk.1.1.1.1.2.2.1 | exact hk.1.1.1.1.2.2 | exact hk.1.1.1.1.2.2.2.1 | exact hk.1.1.1.1.2.2.2 | exact hk.1.1.1.1.2.2.2.2.1 | exact hk.1.1.1.1.2.2.2.2 | exact hk.1.1.1.1.2.2.2.2.2.1 | exact hk.1.1.1.1.2.2.2.2.2 | exact hk.1.1.1.1.2.2.2.2.2.2.1 | exact hk.1.1.1.1.2.2.2.2.2.2 | exact hk.1.1.1.1.2.2.2.2.2.2.2.1 | exact hk.1.1.1.1.2.2.2.2.2.2.2), by with_reducible (first | exact hk.1.1.1.1 | exact hk.1.1.1 | exact hk.1.1.1.2.1 | exact hk.1.1.1.2 | exact hk.1.1.1.2.2.1 | exact hk.1.1.1.2.2 | exact hk.1.1.1.2.2.2.1 | exact hk.1.1.1.2.2.2 | exact hk.1.1.1.2.2.2.2.1 | exact hk.1.1.1.2.2.2.2 | exact hk.1.1.1.2.2.2.2.2.1 | exact hk.1.1.1.2.2.2.2.2 | exact hk.1.1.1.2.2.2.2.2.2.1 | exact hk.1.1.1.2.2.2.2.2.2 | exact hk.1.1.1.2.2.2.2.2.2.2.1 | exact hk.1.1.1.2.2.2.2.2.2.2 | exact hk.1.1 | exact hk.1.1.2.1 | exact hk.1.1.2 | exact hk.1.1.2.2.1 | exact hk.1.1.2.2 | exact hk.1.1.2.2.2.1 | exact hk.1.1.2.2.2 | exact hk.1.1.2.2.2.2.1 | exact hk.1.1.2.2.2.2 | exact hk.1.1.2.2.2.2.2.1 | exact hk.1.1.2.2.2.2.2 | exact hk.1.1.2.2.2.2.2.2.1 | exact hk.1.1.2.2.2.2.2.2 | exact hk.1.1.2.2.2.2.2.2.2.1 | exact hk.1.1.2.2.2.2.2.2.2 | exact hk.1 | exact hk.1.2.1 | exact hk.1.2 | exact hk.1.2.2.1 | exact hk.1.2.2 | exact hk.1.2.2.2.1 | exact hk.1.2.2.2 | exact hk.1.2.2.2.2.1 | exact hk.1.2.2.2.2 | exact hk.1.2.2.2.2.2.1 | exact hk.1.2.2.2.2.2 | exact hk.1.2.2.2.2.2.2.1 | exact hk.1.2.2.2.2.2.2 | exact hk.1.2.2.2.2.2.2.2.1 | exact hk.1.2.2.2.2.2.2.2 | exact hk | exact hk.2.1 | exact hk.2 | exact hk.2.2.1 | exact hk.2.2 | exact hk.2.2.2.1 | exact hk.2.2.2 | exact hk.2.2.2.2.1 | exact hk.2.2.2.2 | exact hk.2.2.2.2.2.1 | exact hk.2.2.2.2.2 | exact hk.2.2.2.2.2.2.1 | exact hk.2.2.2.2.2.2 | exact hk.2.2.2.2.2.2.2.1 | exact hk.2.2.2.2.2.2.2 | exact hk.1.1.1.1.1 | exact hk.1.1.1.1.2.1 | exact hk.1.1.1.1.2 | exact hk.1.1.1.1.2.2.1 | exact hk.1.1.1.1.2.2 | exact hk.1.1.1.1.2.2.2.1 | exact hk.1.1.1.1.2.2.2 | exact hk.1.1.1.1.2.2.2.2.1 | exact hk.1.1.1.1.2.2.2.2 | exact hk.1.1.1.1.2.2.2.2.2.1 | exact hk.1.1.1.1.2.2.2.2.2 | exact hk.1.1.1.1.2.2.2.2.2.2.1 | exact hk.1.1.1.1.2.2.2.2.2.2 | exact hk.1.1.1.1.2.2.2.2.2.2.2.1 | exact hk.1.1.1.1.2.2.2.2.2.2.2)⟩)⟩, ⟨by (try simp only [hl259002_76]); (try simp only [hl265002_76]); (with_reducible repeat (first | apply Kd.R_alloc | apply Kd.R_drewN | apply Kd.R_drew)); exact Kd.R_mono HO_13.out (fun _ hk => ⟨by with_reducible (first | exact hk.1.1.1.1 | exact hk.1.1.1 | exact hk.1.1.1.2.1 | exact hk.1.1.1.2 | exact hk.1.1.1.2.2.1 | exact hk.1.1.1.2.2 | exact hk.1.1.1.2.2.2.1 | exact hk.1.1.1.2.2.2 | exact hk.1.1.1.2.2.2.2.1 | exact hk.1.1.1.2.2.2.2 | exact hk.1.1.1.2.2.2.2.2.1 | exact hk.1.1.1.2.2.2.2.2 | exact hk.1.1.1.2.2.2.2.2.2.1 | exact hk.1.1.1.2.2.2.2.2.2 | exact hk.1.1.1.2.2.2.2.2.2.2.1 | exact hk.1.1.1.2.2.2.2.2.2.2 | exact hk.1.1 | exact hk.1.1.2.1 | exact hk.1.1.2 | exact hk.1.1.2.2.1 | exact hk.1.1.2.2 | exact hk.1.1.2.2.2.1 | exact hk.1.1.2.2.2 | exact hk.1.1.2.2.2.2.1 | exact hk.1.1.2.2.2.2 | exact hk.1.1.2.2.2.2.2.1 | exact hk.1.1.2.2.2.2.2 | exact hk.1.1.2.2.2.2.2.2.1 | exact hk.1.1.2.2.2.2.2.2 | exact hk.1.1.2.2.2.2.2.2.2.1 | exact hk.1.1.2.2.2.2.2.2.2 | exact hk.1 | exact hk.1.2.1 | exact hk.1.2 | exact hk.1.2.2.1 | exact hk.1.2.2 | exact hk.1.2.2.2.1 | exact hk.1.2.2.2 | exact hk.1.2.2.2.2.1 | exact hk.1.2.2.2.2 | exact hk.1.2.2.2.2.2.1 | exact hk.1.2.2.2.2.2 | exact hk.1.2.2.2.2.2.2.1 | exact hk.1.2.2.2.2.2.2 | exact hk.1.2.2.2.2.2.2.2.1 | exact hk.1.2.2.2.2.2.2.2 | exact hk | exact hk.2.1 | exact hk.2 | exact hk.2.2.1 | exact hk.2.2 | exact hk.2.2.2.1 | exact hk.2.2.2 | exact hk.2.2.2.2.1 | exact hk.2.2.2.2 | exact hk.2.2.2.2.2.1 | exact hk.2.2.2.2.2 | exact hk.2.2.2.2.2.2.1 | exact hk.2.2.2.2.2.2 | exact hk.2.2.2.2.2.2.2.1 | exact hk.2.2.2.2.2.2.2 | exact hk.1.1.1.1.1 | exact hk.1.1.1.1.2.1 | exact hk.1.1.1.1.2 | exact hk.1.1.1.1.2.2.1 | exact hk.1.1.1.1.2.2 | exact hk.1.1.1.1.2.2.2.1 | exact hk.1.1.1.1.2.2.2 | exact hk.1.1.1.1.2.2.2.2.1 | exact hk.1.1.1.1.2.2.2.2 | exact hk.1.1.1.1.2.2.2.2.2.1 | exact hk.1.1.1.1.2.2.2.2.2 | exact hk.1.1.1.1.2.2.2.2.2.2.1 | exact hk.1.1.1.1.2.2.2.2.2.2 | exact hk.1.1.1.1.2.2.2.2.2.2.2.1 | exact hk.1.1.1.1.2.2.2.2.2.2.2), by with_reducible (first | exact hk.1.1.1.1 | exact hk.1.1.1 | exact hk.1.1.1.2.1 | exact hk.1.1.1.2 | exact hk.1.1.1.2.2.1 | exact hk.1.1.1.2.2 | exact hk.1.1.1.2.2.2.1 | exact hk.1.1.1.2.2.2 | exact hk.1.1.1.2.2.2.2.1 | exact hk.1.1.1.2.2.2.2 | exact hk.1.1.1.2.2.2.2.2.1 | exact hk.1.1.1.2.2.2.2.2 | exact hk.1.1.1.2.2.2.2.2.2.1 | exact hk.1.1.1.2.2.2.2.2.2 | exact hk.1.1.1.2.2.2.2.2.2.2.1 | exact hk.1.1.1.2.2.2.2.2.2.2 | exact hk.1.1 | exact hk.1.1.2.1 | exact hk.1.1.2 | exact hk.1.1.2.2.1 | exact hk.1.1.2.2 | exact hk.1.1.2.2.2.1 | exact hk.1.1.2.2.2 | exact hk.1.1.2.2.2.2.1 | exact hk.1.1.2.2.2.2 | exact hk.1.1.2.2.2.2.2.1 | exact hk.1.1.2.2.2.2.2 | exact hk.1.1.2.2.2.2.2.2.1 | exact hk.1.1.2.2.2.2.2.2 | exact hk.1.1.2.2.2.2.2.2.2.1 | exact hk.1.1.2.2.2.2.2.2.2 | exact hk.1 | exact hk.1.2.1 | exact hk.1.2 | exact hk.1.2.2.1 | exact hk.1.2.2 | exact hk.1.2.2.2.1 | exact hk.1.2.2.2 | exact hk.1.2.2.2.2.1 | exact hk.1.2.2.2.2 | exact hk.1.2.2.2.2.2.1 | exact hk.1.2.2.2.2.2 | exact hk.1.2.2.2.2.2.2.1 | exact hk.1.2.2.2.2.2.2 | exact hk.1.2.2.2.2.2.2.2.1 | exact hk.1.2.2.2.2.2.2.2 | exact hk | exact hk.2.1 | exact hk.2 | exact hk.2.2.1 | exact hk.2.2 | exact hk.2.2.2.1 | exact hk.2.2.2 | exact hk.2.2.2.2.1 | exact hk.2.2.2.2 | exact hk.2.2.2.2.2.1 | exact hk.2.2.2.2.2 | exact hk.2.2.2.2.2.2.1 | exact hk.2.2.2.2.2.2 | exact hk.2.2.2.2.2.2.2.1 | exact hk.2.2.2.2.2.2.2 | exact hk.1.1.1.1.1 | exact hk.1.1.1.1.2.1 | exact hk.1.1.1.1.2 | exact hk.1.1.1.1.2.2.1 | exact hk.1.1.1.1.2.2 | exact hk.1.1.1.1.2.2.2.1 | exact hk.1.1.1.1.2.2.2 | exact hk.1.1.1.1.2.2.2.2.1 | exact hk.1.1.1.1.2.2.2.2 | exact hk.1.1.1.1.2.2.2.2.2.1 | exact hk.1.1.1.1.2.2.2.2.2 | exact hk.1.1.1.1.2.2.2.2.2.2.1 | exact hk.1.1.1.1.2.2.2.2.2.2 | exact hk.1.1.1.1.2.2.2.2.2.2.2.1 | exact hk.1.1.1.1.2.2.2.2.2.2.2)⟩)⟩, ⟨by (try simp only [hl259002_76]); (try simp only [hl265002_76]); (with_reducible repeat (first | apply Kd.R_alloc | apply Kd.R_drewN | apply Kd.R_drew)); exact Kd.R_mono HO_14.out (fun _ hk => ⟨by with_reducible (first | exact hk.1.1.1.1 | exact hk.1.1.1 | exact hk.1.1.1.2.1 | exact hk.1.1.1.2 | exact hk.1.1.1.2.2.1 | exact hk.1.1.1.2.2 | exact hk.1.1.1.2.2.2.1 | exact hk.1.1.1.2.2.2 | exact hk.1.1.1.2.2.2.2.1 | exact hk.1.1.1.2.2.2.2 | exact hk.1.1.1.2.2.2.2.2.1 | exact hk.1.1.1.2.2.2.2.2 | exact hk.1.1.1.2.2.2.2.2.2.1 | exact hk.1.1.1.2.2.2.2.2.2 | exact hk.1.1.1.2.2.2.2.2.2.2.1 | exact hk.1.1.1.2.2.2.2.2.2.2 | exact hk.1.1 | exact hk.1.1.2.1 | exact hk.1.1.2 | exact hk.1.1.2.2.1 | exact hk.1.1.2.2 | exact hk.1.1.2.2.2.1 | exact hk.1.1.2.2.2 | exact hk.1.1.2.2.2.2.1 | exact hk.1.1.2.2.2.2 | exact hk.1.1.2.2.2.2.2.1 | exact hk.1.1.2.2.2.2.2 | exact hk.1.1.2.2.2.2.2.2.1 | exact hk.1.1.2.2.2.2.2.2 | exact hk.1.1.2.2.2.2.2.2.2.1 | exact hk.1.1.2.2.2.2.2.2.2 | exact hk.1 | exact hk.1.2.1 | exact hk.1.2 | exact hk.1.2.2.1 | exact hk.1.2.2 | exact hk.1.2.2.2.1 | exact hk.1.2.2.2 | exact hk.1.2.2.2.2.1 | exact hk.1.2.2.2.2 | exact hk.1.2.2.2.2.2.1 | exact hk.1.2.2.2.2.2 | exact hk.1.2.2.2.2.2.2.1 | exact hk.1.2.2.2.2.2.2 | exact hk.1.2.2.2.2.2.2.2.1 | exact hk.1.2.2.2.2.2.2.2 | exact hk | exact hk.2.1 | exact hk.2 | exact hk.2.2.1 | exact hk.2.2 | exact hk.2.2.2.1 | exact hk.2.2.2 | exact hk.2.2.2.2.1 | exact hk.2.2.2.2 | exact hk.2.2.2.2.2.1 | exact hk.2.2.2.2.2 | exact hk.2.2.2.2.2.2.1 | exact hk.2.2.2.2.2.2 | exact hk.2.2.2.2.2.2.2.1 | exact hk.2.2.2.2.2.2.2 | exact hk.1.1.1.1.1 | exact hk.1.1.1.1.2.1 | exact hk.1.1.1.1.2 | exact hk.1.1.1.1.2.2.1 | exact hk.1.1.1.1.2.2 | exact hk.1.1.1.1.2.2.2.1 | exact hk.1.1.1.1.2.2.2 | exact hk.1.1.1.1.2.2.2.2.1 | exact hk.1.1.1.1.2.2.2.2 | exact hk.1.1.1.1.2.2.2.2.2.1 | exact hk.1.1.1.1.2.2.2.2.2 | exact hk.1.1.1.1.2.2.2.2.2.2.1 | exact hk.1.1.1.1.2.2.2.2.2.2 | exact hk.1.1.1.1.2.2.2.2.2.2.2.1 | exact hk.1.1.1.1.2.2.2.2.2.2.2), by with_reducible (first | exact hk.1.1.1.1 | exact hk.1.1.1 | exact hk.1.1.1.2.1 | exact hk.1.1.1.2 | exact hk.1.1.1.2.2.1 | exact hk.1.1.1.2.2 | exact hk.1.1.1.2.2.2.1 | exact hk.1.1.1.2.2.2 | exact hk.1.1.1.2.2.2.2.1 | exact hk.1.1.1.2.2.2.2 | exact hk.1.1.1.2.2.2.2.2.1 | exact hk.1.1.1.2.2.2.2.2 | exact hk.1.1.1.2.2.2.2.2.2.1 | exact hk.1.1.1.2.2.2.2.2.2 | exact hk.1.1.1.2.2.2.2.2.2.2.1 | exact hk.1.1.1.2.2.2.2.2.2.2 | exact hk.1.1 | exact hk.1.1.2.1 | exact hk.1.1.2 | exact hk.1.1.2.2.1 | exact hk.1.1.2.2 | exact hk.1.1.2.2.2.1 | exact hk.1.1.2.2.2 | exact hk.1.1.2.2.2.2.1 | exact hk.1.1.2.2.2.2 | exact hk.1.1.2.2.2.2.2.1 | exact hk.1.1.2.2.2.2.2 | exact hk.1.1.2.2.2.2.2.2.1 | exact hk.1.1.2.2.2.2.2.2 | exact hk.1.1.2.2.2.2.2.2.2.1 | exact hk.1.1.2.2.2.2.2.2.2 | exact hk.1 | exact hk.1.2.1 | exact hk.1.2 | exact hk.1.2.2.1 | exact hk.1.2.2 | exact hk.1.2.2.2.1 | exact hk.1.2.2.2 | exact hk.1.2.2.2.2.1 | exact hk.1.2.2.2.2 | exact hk.1.2.2.2.2.2.1 | exact hk.1.2.2.2.2.2 | exact hk.1.2.2.2.2.2.2.1 | exact hk.1.2.2.2.2.2.2 | exact hk.1.2.2.2.2.2.2.2.1 | exact hk.1.2.2.2.2.2.2.2 | exact hk | exact hk.2.1 | exact hk.2 | exact hk.2.2.1 | exact hk.2.2 | exact hk.2.2.2.1 | exact hk.2.2.2 | exact hk.2.2.2.2.1 | exact hk.2.2.2.2 | exact hk.2.2.2.2.2.1 | exact hk.2.2.2.2.2 | exact hk.2.2.2.2.2.2.1 | exact hk.2.2.2.2.2.2 | exact hk.2.2.2.2.2.2.2.1 | exact hk.2.2.2.2.2.2.2 | exact hk.1.1.1.1.1 | exact hk.1.1.1.1.2.1 | exact hk.1.1.1.1.2 | exact hk.1.1.1.1.2.2.1 | exact hk.1.1.1.1.2.2 | exact hk.1.1.1.1.2.2.2.1 | exact hk.1.1.1.1.2.2.2 | exact hk.1.1.1.1.2.2.2.2.1 | exact hk.1.1.1.1.2.2.2.2 | exact hk.1.1.1.1.2.2.2.2.2.1 | exact hk.1.1.1.1.2.2.2.2.2 | exact hk.1.1.1.1.2.2.2.2.2.2.1 | exact hk.1.1.1.1.2.2.2.2.2.2 | exact hk.1.1.1.1.2.2.2.2.2.2.2.1 | exact hk.1.1.1.1.2.2.2.2.2.2.2)⟩)⟩, ⟨by (try simp only [hl259002_76]); (try simp only [hl265002_76]); (with_reducible repeat (first | apply Kd.R_alloc | apply Kd.R_drewN | apply Kd.R_drew)); exact Kd.R_mono HO_259002.out (fun _ hk => hk.1.1)⟩, ⟨by (try simp only [hl259002_76]); (try simp only [hl265002_76]); (with_reducible repeat (first | apply Kd.R_alloc | apply Kd.R_drewN | apply Kd.R_drew)); exact Kd.R_mono HO_265002.out (fun _ hk => hk.1.1)⟩, ⟨by (try simp only [hl259002_76]); (try simp only [hl265002_76]); (with_reducible repeat (first | refine blk_drewN ?_ _ | refine blk_drew ?_ | refine blk_alloc ?_ _)); exact BK229.out⟩, ⟨by (try simp only [hl259002_76]); (try simp only [hl265002_76]); (with_reducible repeat (first | refine blk_drewN ?_ _ | refine blk_drew ?_ | refine blk_alloc ?_ _)); exact BK230.out⟩, ⟨by (try simp only [hl259002_76]); (try simp only [hl265002_76]); (with_reducible repeat (first | refine blk_drewN ?_ _ | refine blk_drew ?_ | refine blk_alloc ?_ _)); exact BK258.out⟩, ⟨by (try simp only [hl259002_76]); (try simp only [hl265002_76]); (with_reducible repeat (first | refine blk_drewN ?_ _ | refine blk_drew ?_ | refine blk_alloc ?_ _)); exact BK264.out⟩, ⟨zq6⟩⟩
   clear HC122
   try clear c1
   try clear p2
   try clear c6
   try clear c7
   try clear c8
   try clear c9
   try clear c10
   try clear c11
   try clear c12
   try clear c13
   try clear c14
   try clear c71
   try clear c74
   try clear c86
   try clear c87
   try clear c88
   try clear c91
   try clear c92
   try clear c95
   try clear c95b0
   try clear c97
   try clear c99
   try clear c101
   try clear c108
   try clear c113
   try clear c113b0
   try clear c115
   try clear c115b0
   try clear c117
   try clear c117b0
   try clear c118
   try clear c118b0
   try clear c118b1
   try clear c136
   try clear c138
   try clear c140
   try clear hcz31_2
   try clear hcz39_0
   try clear hcz39_1
   try clear hcz39_2
   try clear hcz44_0
   try clear hcz44_1
   try clear hcz44_2
   try clear hcz46_0
   try clear hcz46_1
   try clear hcz46_2
   try clear hcz52_0
   try clear hcz52_1
   try clear hcz52_2
   try clear hcz54_0
   try clear hcz54_1
   try clear hcz54_2
   try clear hcz89_0
   try clear hcz89_1
   try clear hcz89_2
   try clear hcz8_0
   try clear hcz8_1
   try clear hcz8_2
   try clear hcz93_0
   try clear hcz93_1
   try clear hcz93_2
   try clear hfz15_0
   try clear hfz15_1
   try clear hfz15_2
   try clear hfz17_0
   try clear hfz17_1
   try clear hfz17_2
   try clear hfz29_0
   try clear hfz29_1
   try clear hfz29_2
   try clear hfz31_0
   try clear hfz31_1
   try clear hfz31_2
   try clear hfz39_0
   try clear hfz39_1
   try clear hfz39_2
   try clear hfz44_0
   try clear hfz44_1
   try clear hfz44_2
   try clear hfz46_0
   try clear hfz46_1
   try clear hfz46_2
   try clear hfz52_0
   try clear hfz52_1
   try clear hfz52_2
   try clear hfz54_0
   try clear hfz54_1
   try clear hfz54_2
   try clear hfz89_0
   try clear hfz89_1
   try clear hfz89_2
   try clear hfz8_0
   try clear hfz8_1
   try clear hfz8_2
   try clear hfz93_0
   try clear hfz93_1
   try clear hfz93_2
   obtain ⟨kq, x174_121, rfl, HA, HJ121, HO_12, HO_13, HO_14, HO_259002, HO_265002, BK229, BK230, BK258, BK264, HB⟩ := hcut
   have hl12_121 := (Kd.R_reads' HO_12.out).1
   rw [hl12_121] at HO_12
   (try simp only [hl12_121])
   (try simp only [hl12_121] at BK229)
   (try simp only [hl12_121] at BK230)
   (try simp only [hl12_121] at BK258)
   (try simp only [hl12_121] at BK264)
   (try simp only [hl12_121] at HO_13)
   (try simp only [hl12_121] at HO_14)
   (try simp only [hl12_121] at HO_259002)
   (try simp only [hl12_121] at HO_265002)
   have hl13_121 := (Kd.R_reads' HO_13.out).1
   rw [hl13_121] at HO_13
   (try simp only [hl13_121])
   (try simp only [hl13_121] at BK229)
   (try simp only [hl13_121] at BK230)
   (try simp only [hl13_121] at BK258)
   (try simp only [hl13_121] at BK264)
   (try simp only [hl13_121] at HO_12)
   (try simp only [hl13_121] at HO_14)
   (try simp only [hl13_121] at HO_259002)
   (try simp only [hl13_121] at HO_265002)
   have hl14_121 := (Kd.R_reads' HO_14.out).1
   rw [hl14_121] at HO_14
   (try simp only [hl14_121])
   (try simp only [hl14_121] at BK229)
   (try simp only [hl14_121] at BK230)
   (try simp only [hl14_121] at BK258)
   (try simp only [hl14_121] at BK264)
   (try simp only [hl14_121] at HO_12)
   (try simp only [hl14_121] at HO_13)
   (try simp only [hl14_121] at HO_259002)
   (try simp only [hl14_121] at HO_265002)
   cases kq with
   | zero => exact absurd HA.out (by simp [laws_FnExactBulletinChanges.j2])
   | succ kj121 =>
    have H := HA.out
    clear HA
    simp only [laws_FnExactBulletinChanges.j2] at H
    by_cases c147 : x174_121 = true
    case pos =>
     subst c147
     have H1 : (none) = some r := by rw [if_pos rfl] at H; exact H
     clear H
     have H := H1
     clear H1
     exact absurd H (by simp)
    replace c147 := Bool.eq_false_iff.mpr c147
    subst c147
    have H1 : ((laws_heldIntS.f kj121 t298 1).bind fun t329 => (if t329 < 0 then (none) else ((laws_heldIntS.f kj121 t300 t329).bind fun t330 => (if t330 < 0 then (none) else ((laws_heldIntS.f kj121 t302 t330).bind fun t331 => (if t331 < 0 then (none) else (if t331 = t301 then (some true) else (none)))))))) = some r := by rw [if_neg (show ¬ (false = true) by decide)] at H; exact H
    clear H
    have H := H1
    clear H1
    replace H := Option.bind_eq_some_iff.mp H
    obtain ⟨t329, A1480, H⟩ := H
    replace H : (if t329 < 0 then (none) else ((laws_heldIntS.f kj121 t300 t329).bind fun t330 => (if t330 < 0 then (none) else ((laws_heldIntS.f kj121 t302 t330).bind fun t331 => (if t331 < 0 then (none) else (if t331 = t301 then (some true) else (none))))))) = some r := H
    have A148 := Aside0.mk A1480
    clear A1480
    by_cases c149 : t329 < 0
    case pos =>
     rw [if_pos c149] at H
     exact absurd H (by simp)
    rw [if_neg c149] at H
    have c149b0 : decide (t329 < 0) = false := decide_eq_false c149
    clear c149
    replace H := Option.bind_eq_some_iff.mp H
    obtain ⟨t330, A1500, H⟩ := H
    replace H : (if t330 < 0 then (none) else ((laws_heldIntS.f kj121 t302 t330).bind fun t331 => (if t331 < 0 then (none) else (if t331 = t301 then (some true) else (none))))) = some r := H
    have A150 := Aside0.mk A1500
    clear A1500
    by_cases c151 : t330 < 0
    case pos =>
     rw [if_pos c151] at H
     exact absurd H (by simp)
    rw [if_neg c151] at H
    have c151b0 : decide (t330 < 0) = false := decide_eq_false c151
    clear c151
    replace H := Option.bind_eq_some_iff.mp H
    obtain ⟨t331, A1520, H⟩ := H
    replace H : (if t331 < 0 then (none) else (if t331 = t301 then (some true) else (none))) = some r := H
    have A152 := Aside0.mk A1520
    clear A1520
    by_cases c153 : t331 < 0
    case pos =>
     rw [if_pos c153] at H
     exact absurd H (by simp)
    rw [if_neg c153] at H
    have c153b0 : decide (t331 < 0) = false := decide_eq_false c153
    clear c153
    by_cases c154 : t331 = t301
    case neg =>
     rw [if_neg c154] at H
     exact absurd H (by simp)
    rw [if_pos c154] at H
    have c154b0 : (t331 == t301) = true := beq_iff_eq.mpr c154
    have c154b1 : (t331 != t301) = false := bne_eq_false_iff_eq.mpr c154
    clear c154
    obtain rfl := Option.some.inj H
    go_wp2_with (first | ((with_reducible refine gate_callee (f := 12) rfl ?_); refine goesL_ (some 177) rfl rfl Try.func12 (by kernel_rfl) rfl #[.slice Ao123 t298.length co123, .int .i64 1] rfl zq2 ?_; (with_reducible refine (laws_heldIntS.calls kj121 _ _ t298 1 t329 _ ?side1 ?side2 A148.out).mono ?_); (case side1 => exact zqC (Kd.R_reads' HO_12.out).2.2); (case side2 => exact (Kd.R_reads' HO_12.out).2.1); rintro e w' ⟨rfl, ⟨nd, rfl⟩⟩; refine ⟨_, rfl, ?_⟩) | ((with_reducible refine gate_callee (f := 12) rfl ?_); refine goesL_ (some 182) rfl rfl Try.func12 (by kernel_rfl) rfl #[.slice Ao125 t300.length co125, .int .i64 t329] rfl zq2 ?_; (with_reducible refine (laws_heldIntS.calls kj121 _ _ t300 t329 t330 _ ?side1 ?side2 A150.out).mono ?_); (case side1 => exact zqC (Kd.R_reads' HO_13.out).2.2); (case side2 => exact (Kd.R_reads' HO_13.out).2.1); rintro e w' ⟨rfl, ⟨nd, rfl⟩⟩; refine ⟨_, rfl, ?_⟩) | ((with_reducible refine gate_callee (f := 12) rfl ?_); refine goesL_ (some 187) rfl rfl Try.func12 (by kernel_rfl) rfl #[.slice Ao127 t302.length co127, .int .i64 t330] rfl zq2 ?_; (with_reducible refine (laws_heldIntS.calls kj121 _ _ t302 t330 t331 _ ?side1 ?side2 A152.out).mono ?_); (case side1 => exact zqC (Kd.R_reads' HO_14.out).2.2); (case side2 => exact (Kd.R_reads' HO_14.out).2.1); rintro e w' ⟨rfl, ⟨nd, rfl⟩⟩; refine ⟨_, rfl, ?_⟩))
    go_ret
    exact ⟨zqE, zq6⟩
end Go.Proofs.Ytlagjagmobbngaa.Q
