/- Texts of this claim, put together: walks of the program's functions, and plain facts. -/
import Derived.Test.YtpdeapefekbdpaaZFnTracks
import Derived.Test.YtpdeapefekbdpaaBFnTracks0
import Derived.Test.YtpdeapefekbdpaaBFnTracks2
import Derived.Test.YtpdeapefekbdpaaBFnTracks3
import Derived.Test.YtpdeapefekbdpaaBFnTracks5
import Derived.Test.YtpdeapefekbdpaaBFnTracks6
import Derived.Test.YtpdeapefekbdpaaBFnTracks8
import Derived.Test.YtpdeapefekbdpaaBFnTracks10
import Derived.Test.YtpdeapefekbdpaaBFnTracks11
namespace Go.Proofs.Ytpdeapefekbdpaa.Q
open Go.RowKit Go.Proofs.YtpdeapefekbdpaaW.PrintWords Go.Proofs.YtpdeapefekbdpaaW.PrintLast Go.Proofs.YtpdeapefekbdpaaW.PrintMore
attribute [local go_sem] max2_int min2_int max_two min_two max_three min_three max_four min_four
set_option linter.unusedVariables false
set_option linter.unusedSimpArgs false
mutual
def laws_FnTracks.j0 : Nat → List Int → List (List (S49)) → Int → Int → Bool → Bool → Option (Bool)
 | 0, _, _, _, _, _, _ => none
 | k + 1, x0, x3, x4, x7, x8, x62 => if x62 = true then (none) else ((impl_LongestTrack.f k x3 x4).bind fun bt776 => ((spec_LongestTrack.f k x3 x4).bind fun bt779 => (if bt776.1 = bt779.1 then (if bt776.2.1 = bt779.2.1 then (laws_FnTracks.j1 k x0 x3 x4 x7 x8 bt776.1 bt776.2.1 bt776.2.2 (bt776.2.2 != bt779.2.2)) else (none)) else (none))))
def laws_FnTracks.j1 : Nat → List Int → List (List (S49)) → Int → Int → Bool → Int → Int → Bool → Bool → Option (Bool)
 | 0, _, _, _, _, _, _, _, _, _ => none
 | k + 1, x0, x3, x4, x7, x8, x11, x12, x13, x89 => if x89 = true then (none) else (if x13 = true then ((impl_TrackLength.f k x3 x4 x11 x12).bind fun bt782 => (if bt782.2 = true then (if bt782.1 < 1 then (none) else (if x8 = true then (if x7 > bt782.1 then (none) else (laws_FnTracks.j2 k x0)) else (laws_FnTracks.j2 k x0))) else (none))) else (laws_FnTracks.j2 k x0))
def laws_FnTracks.j2 : Nat → List Int → Option (Bool)
 | 0, _ => none
 | k + 1, x0 => (spec_DrawStormsOf.f k x0).bind fun bt784 => ((impl_StormsOf.f k bt784.1 bt784.2.1 bt784.2.2.1 bt784.2.2.2).bind fun bt791 => ((spec_StormsOf.f k bt784.1 bt784.2.1 bt784.2.2.1 bt784.2.2.2).bind fun bt795 => (if (bt791.2 != bt795.2) = true then (none) else ((laws_vStorms.f k bt791.1 bt795.1).bind fun t799 => (laws_FnTracks.j3 k bt784.2.2.2 bt791.1 (!t799) bt784.1 bt784.2.1 bt784.2.2.1)))))
def laws_FnTracks.j3 : Nat → Int → List (S49) → Bool → Int → Int → List Int → Option (Bool)
 | 0, _, _, _, _, _, _ => none
 | k + 1, x20, x21, x138, x791000, x791001, x791002 => if x138 = true then (none) else (laws_FnTracks.l0 k x20 x21 0 x791000 x791001 x791002)
def laws_FnTracks.l0 : Nat → Int → List (S49) → Int → Int → Int → List Int → Option (Bool)
 | 0, _, _, _, _, _, _ => none
 | k + 1, x20, x21, x25, x791000, x791001, x791002 => if x25 < (x21.length : Int) then (if 0 ≤ x25 then ((impl_CellAt.f x791000 x791001 x791002 ((rd_T49 x21 x25).f0) ((rd_T49 x21 x25).f1)).bind fun bt802 => (if 0 < (x21.length : Int) then ((impl_StormDistance.f ((rd_T49 x21 x25).f0) ((rd_T49 x21 x25).f1) ((rd_T49 x21 x25).f2) ((rd_T49 x21 x25).f3) ((rd_T49 x21 0).f0) ((rd_T49 x21 0).f1) ((rd_T49 x21 0).f2) ((rd_T49 x21 0).f3)).bind fun bt806 => (if bt802.2 = true then (if bt802.1 = ((rd_T49 x21 x25).f3) then (if bt802.1 ≤ x20 then (none) else (if bt806.2 = true then (if bt806.1 < 0 then (none) else (if ((bt806.1 == 0) != (x25 == 0)) = true then (none) else (laws_FnTracks.l0 k x20 x21 (wrap64 (x25 + 1)) x791000 x791001 x791002))) else (none))) else (none)) else (none))) else (none))) else (none)) else (some true)
end
def laws_FnTracks.f (k : Nat) (l0 : List Int) : Option (Bool) := (laws_vBig.f l0).bind fun t765 => (if t765 = true then (some true) else ((spec_DrawTrackLength.f k l0).bind fun bt766 => ((impl_TrackLength.f k bt766.1 bt766.2.1 bt766.2.2.1 bt766.2.2.2).bind fun bt772 => ((spec_TrackLength.f k bt766.1 bt766.2.1 bt766.2.2.1 bt766.2.2.2).bind fun bt774 => (if bt772.1 = bt774.1 then (laws_FnTracks.j0 k l0 bt766.1 bt766.2.1 bt772.1 bt772.2 (bt772.2 != bt774.2)) else (none))))))
def laws_FnTracks.T24 : Bool × List (List Nat × List Nat) := (true, [([], []), ([], []), ([], []), ([1, 2], [1, 2]), ([3], [3]), ([4], [4]), ([], []), ([], []), ([6, 7], [6, 7]), ([8], [8]), ([9], [9]), ([0, 5, 10], [0, 5, 10]), ([11], [11]), ([12], [12]), ([12], [12]), ([13, 11, 0, 1, 2, 3, 4, 5, 6, 7, 8, 9, 10, 11, 12, 13], [13]), ([14, 15, 0, 1, 2, 3, 4, 5, 6, 7, 8, 9, 10, 11, 12, 13, 14, 15], [14])])
def laws_FnTracks.B24 : List Nat := [0, 0, 0, 6, 14, 30, 0, 0, 192, 448, 960, 2047, 4095, 8191, 8191, 16383, 65535]
theorem laws_FnTracks.tab24 : rtab .any (opsOf Try.f4 24) = laws_FnTracks.T24 := by kernel_rfl
theorem laws_FnTracks.bits24 : waitsOk laws_FnTracks.T24.2 laws_FnTracks.B24 = true := by kernel_rfl
def laws_FnTracks.T25 : Bool × List (List Nat × List Nat) := (true, [([], []), ([], []), ([0, 1], [0, 1]), ([2], [2]), ([], []), ([4], [4]), ([5], [5]), ([3, 6], [3, 6]), ([7], [7]), ([8], [8]), ([8], [8]), ([9, 7, 0, 1, 2, 3, 4, 5, 6, 7, 8, 9], [9]), ([10, 11, 0, 1, 2, 3, 4, 5, 6, 7, 8, 9, 10, 11], [10])])
def laws_FnTracks.B25 : List Nat := [0, 0, 3, 7, 0, 16, 48, 127, 255, 511, 511, 1023, 4095]
theorem laws_FnTracks.tab25 : rtab .any (opsOf Try.f4 25) = laws_FnTracks.T25 := by kernel_rfl
theorem laws_FnTracks.bits25 : waitsOk laws_FnTracks.T25.2 laws_FnTracks.B25 = true := by kernel_rfl
set_option maxHeartbeats 8000000 in
set_option maxRecDepth 100000 in
theorem laws_FnTracks.calls (k : Nat) (A0 : Option Addr) (c0 : Nat) (l0 : List Int) (r : Bool) (w : World) (hr0 : Kd.C (Kd.int .u8) w A0 l0.length l0) (hc0 : l0.length ≤ c0) (h : laws_FnTracks.f k l0 = some r) :
  Calls Try.prog 4 #[.slice A0 l0.length c0] w fun e w' => e = .returned (.bool r) ∧ Below w.heap.size w w' := by
 have hu29 := Try.underlying29
 have hu49 := Try.underlying49
 have HR0 := Aside0.mk hr0
 have HC0 := Aside0.mk hc0
 clear hr0 hc0
 have HB := Aside0.mk (Below.refl w.heap.size w)
 have H : ((laws_vBig.f l0).bind fun t765 => (if t765 = true then (some true) else ((spec_DrawTrackLength.f k l0).bind fun bt766 => ((impl_TrackLength.f k bt766.1 bt766.2.1 bt766.2.2.1 bt766.2.2.2).bind fun bt772 => ((spec_TrackLength.f k bt766.1 bt766.2.1 bt766.2.2.1 bt766.2.2.2).bind fun bt774 => (if bt772.1 = bt774.1 then (laws_FnTracks.j0 k l0 bt766.1 bt766.2.1 bt772.1 bt772.2 (bt772.2 != bt774.2)) else (none))))))) = some r := h
 clear h
 replace H := Option.bind_eq_some_iff.mp H
 obtain ⟨t765, A20, H⟩ := H
 replace H : (if t765 = true then (some true) else ((spec_DrawTrackLength.f k l0).bind fun bt766 => ((impl_TrackLength.f k bt766.1 bt766.2.1 bt766.2.2.1 bt766.2.2.2).bind fun bt772 => ((spec_TrackLength.f k bt766.1 bt766.2.1 bt766.2.2.1 bt766.2.2.2).bind fun bt774 => (if bt772.1 = bt774.1 then (laws_FnTracks.j0 k l0 bt766.1 bt766.2.1 bt772.1 bt772.2 (bt772.2 != bt774.2)) else (none)))))) = some r := H
 have A2 := Aside0.mk A20
 clear A20
 by_cases c3 : t765 = true
 case pos =>
  subst c3
  have H1 : (some true) = some r := by rw [if_pos rfl] at H; exact H
  clear H
  have H := H1
  clear H1
  obtain rfl := Option.some.inj H
  go_enter Try.func4, Try.ntmps4
  go_wp2_with (first | ((with_reducible refine gate_callee (f := 14) rfl ?_); refine goesL_ (some 31) rfl rfl Try.func14 (by kernel_rfl) rfl #[.slice A0 l0.length c0] rfl zq1 ?_; (with_reducible refine (laws_vBig.calls _ _ l0 true _ ?side1 ?side2 A2.out).mono ?_); (case side1 => exact zqC HR0.out); (case side2 => exact HC0.out); rintro e w' ⟨rfl, ⟨nd, rfl⟩⟩; refine ⟨_, rfl, ?_⟩))
  go_ret
  exact ⟨zqE, zq0⟩
 replace c3 := Bool.eq_false_iff.mpr c3
 subst c3
 have H1 : ((spec_DrawTrackLength.f k l0).bind fun bt766 => ((impl_TrackLength.f k bt766.1 bt766.2.1 bt766.2.2.1 bt766.2.2.2).bind fun bt772 => ((spec_TrackLength.f k bt766.1 bt766.2.1 bt766.2.2.1 bt766.2.2.2).bind fun bt774 => (if bt772.1 = bt774.1 then (laws_FnTracks.j0 k l0 bt766.1 bt766.2.1 bt772.1 bt772.2 (bt772.2 != bt774.2)) else (none))))) = some r := by rw [if_neg (show ¬ (false = true) by decide)] at H; exact H
 clear H
 have H := H1
 clear H1
 replace H := Option.bind_eq_some_iff.mp H
 obtain ⟨⟨t766, t767, t768, t769⟩, A40, H⟩ := H
 replace H : ((impl_TrackLength.f k t766 t767 t768 t769).bind fun bt772 => ((spec_TrackLength.f k t766 t767 t768 t769).bind fun bt774 => (if bt772.1 = bt774.1 then (laws_FnTracks.j0 k l0 t766 t767 bt772.1 bt772.2 (bt772.2 != bt774.2)) else (none)))) = some r := H
 have A4 := Aside0.mk A40
 clear A40
 replace H := Option.bind_eq_some_iff.mp H
 obtain ⟨⟨t772, t773⟩, A50, H⟩ := H
 replace H : ((spec_TrackLength.f k t766 t767 t768 t769).bind fun bt774 => (if t772 = bt774.1 then (laws_FnTracks.j0 k l0 t766 t767 t772 t773 (t773 != bt774.2)) else (none))) = some r := H
 have A5 := Aside0.mk A50
 clear A50
 replace H := Option.bind_eq_some_iff.mp H
 obtain ⟨⟨t774, t775⟩, A60, H⟩ := H
 replace H : (if t772 = t774 then (laws_FnTracks.j0 k l0 t766 t767 t772 t773 (t773 != t775)) else (none)) = some r := H
 have A6 := Aside0.mk A60
 clear A60
 have HC7 := Aside0.mk H
 clear H
 go_enter Try.func4, Try.ntmps4
 go_upto_region 6 with (first | ((with_reducible refine gate_callee (f := 14) rfl ?_); refine goesL_ (some 31) rfl rfl Try.func14 (by kernel_rfl) rfl #[.slice A0 l0.length c0] rfl zq1 ?_; (with_reducible refine (laws_vBig.calls _ _ l0 false _ ?side1 ?side2 A2.out).mono ?_); (case side1 => exact zqC HR0.out); (case side2 => exact HC0.out); rintro e w' ⟨rfl, ⟨nd, rfl⟩⟩; refine ⟨_, rfl, ?_⟩) | ((with_reducible refine gate_callee (f := 15) rfl ?_); refine goesL_ (some 34) rfl rfl Try.func15 (by kernel_rfl) rfl #[.slice A0 l0.length c0] rfl zq1 ?_; (with_reducible refine (spec_DrawTrackLength.calls k _ _ l0 t766 t767 t768 t769 _ ?side1 ?side2 A4.out).mono ?_); (case side1 => exact zqC HR0.out); (case side2 => exact HC0.out); rintro e w8 ⟨v770, rfl, ho0, hb⟩; refine ⟨_, rfl, ?_⟩; have HO771 := Aside0.mk (Kd.S_lower ho0 (below_size zq0)); replace HB := Aside0.mk (below_step zq0 hb); (try clear hb); (try clear hb2); (try clear hk); (try clear hi); (try clear ho0); obtain ⟨Ao9, co9, eo9⟩ := Kd.S_slice HO771.out; subst eo9) | ((with_reducible refine gate_callee (f := 16) rfl ?_); refine goesL_ (some 44) rfl rfl Try.func16 (by kernel_rfl) rfl #[.slice Ao9 t766.length co9, .int .i64 t767, .int .i64 t768, .int .i64 t769] rfl zq1 ?_; (with_reducible refine (impl_TrackLength.calls k _ _ t766 t767 t768 t769 t772 t773 _ ?side1 ?side2 A5.out).mono ?_); (case side1 => exact zqC (Kd.S_reads' HO771.out).2.2); (case side2 => exact (Kd.S_reads' HO771.out).2.1); rintro e w10 ⟨rfl, hb⟩; refine ⟨_, rfl, ?_⟩; replace HO771 := Aside0.mk (Kd.S_below (by (with_reducible repeat (first | apply Kd.S_alloc | apply Kd.S_drewN | apply Kd.S_drew)); exact HO771.out) hb); replace HB := Aside0.mk (below_step zq0 hb); (try clear hb); (try clear hb2); (try clear hk); (try clear hi)) | ((with_reducible refine gate_callee (f := 17) rfl ?_); refine goesL_ (some 52) rfl rfl Try.func17 (by kernel_rfl) rfl #[.slice Ao9 t766.length co9, .int .i64 t767, .int .i64 t768, .int .i64 t769] rfl zq1 ?_; (with_reducible refine (spec_TrackLength.calls k _ _ t766 t767 t768 t769 t774 t775 _ ?side1 ?side2 A6.out).mono ?_); (case side1 => exact zqC (Kd.S_reads' HO771.out).2.2); (case side2 => exact (Kd.S_reads' HO771.out).2.1); rintro e w11 ⟨rfl, hb⟩; refine ⟨_, rfl, ?_⟩; replace HO771 := Aside0.mk (Kd.S_below (by (with_reducible repeat (first | apply Kd.S_alloc | apply Kd.S_drewN | apply Kd.S_drew)); exact HO771.out) hb); replace HB := Aside0.mk (below_step zq0 hb); (try clear hb); (try clear hb2); (try clear hk); (try clear hi)))
 (try simp only [Act.put, List.setIfInBounds_toArray, List.set_cons_zero, List.set_cons_succ])
 go_cut [62] (fun v62 wc => ∃ (kq : Nat) (x62_6 : Bool), v62 = .bool x62_6 ∧ Aside0 (laws_FnTracks.j0 kq l0 t766 t767 t772 t773 x62_6 = some r) ∧ Aside0 (kq ≤ k) ∧ Aside0 (Kd.S (Kd.slice 49 k49) 26 wc w.heap.size (fun _ => True) (.slice Ao9 t766.length co9) t766) ∧ Aside0 (Below w.heap.size w wc))
 case first =>
  have H := HC7.out
  clear HC7
  by_cases c12 : t772 = t774
  case neg =>
   rw [if_neg c12] at H
   exact absurd H (by simp)
  rw [if_pos c12] at H
  have c12b0 : (t772 == t774) = true := beq_iff_eq.mpr c12
  have c12b1 : (t772 != t774) = false := bne_eq_false_iff_eq.mpr c12
  clear c12
  (first | rw [c12b0] | (simp only [i64_w, i32_w]; rw [c12b0]) | rw [c12b1] | skip)
  have H' := Aside0.mk H
  clear H
  go_wp2
  go_meet
  case rel => exact ⟨_, ((t773 != t775)), (by first | rfl | (simp; done) | (simp [*]; done)), H', ⟨by first | omega | exact Nat.le_refl _⟩, ⟨by (with_reducible repeat (first | apply Kd.S_alloc | apply Kd.S_drewN | apply Kd.S_drew)); exact HO771.out⟩, ⟨zq0⟩⟩
 clear HC7
 try clear c1
 try clear p2
 try clear c3
 try clear c4
 try clear c12
 try clear c12b0
 try clear c12b1
 obtain ⟨kq, x62_6, rfl, HA, HJ6, HO_3, HB⟩ := hcut
 cases kq with
 | zero => exact absurd HA.out (by simp [laws_FnTracks.j0])
 | succ kj6 =>
  have H := HA.out
  clear HA
  simp only [laws_FnTracks.j0] at H
  by_cases c13 : x62_6 = true
  case pos =>
   subst c13
   have H1 : (none) = some r := by rw [if_pos rfl] at H; exact H
   clear H
   have H := H1
   clear H1
   exact absurd H (by simp)
  replace c13 := Bool.eq_false_iff.mpr c13
  subst c13
  have H1 : ((impl_LongestTrack.f kj6 t766 t767).bind fun bt776 => ((spec_LongestTrack.f kj6 t766 t767).bind fun bt779 => (if bt776.1 = bt779.1 then (if bt776.2.1 = bt779.2.1 then (laws_FnTracks.j1 kj6 l0 t766 t767 t772 t773 bt776.1 bt776.2.1 bt776.2.2 (bt776.2.2 != bt779.2.2)) else (none)) else (none)))) = some r := by rw [if_neg (show ¬ (false = true) by decide)] at H; exact H
  clear H
  have H := H1
  clear H1
  replace H := Option.bind_eq_some_iff.mp H
  obtain ⟨⟨t776, t777, t778⟩, A140, H⟩ := H
  replace H : ((spec_LongestTrack.f kj6 t766 t767).bind fun bt779 => (if t776 = bt779.1 then (if t777 = bt779.2.1 then (laws_FnTracks.j1 kj6 l0 t766 t767 t772 t773 t776 t777 t778 (t778 != bt779.2.2)) else (none)) else (none))) = some r := H
  have A14 := Aside0.mk A140
  clear A140
  replace H := Option.bind_eq_some_iff.mp H
  obtain ⟨⟨t779, t780, t781⟩, A150, H⟩ := H
  replace H : (if t776 = t779 then (if t777 = t780 then (laws_FnTracks.j1 kj6 l0 t766 t767 t772 t773 t776 t777 t778 (t778 != t781)) else (none)) else (none)) = some r := H
  have A15 := Aside0.mk A150
  clear A150
  have HC16 := Aside0.mk H
  clear H
  go_upto_region 10 with (first | ((with_reducible refine gate_callee (f := 18) rfl ?_); refine goesL_ (some 66) rfl rfl Try.func18 (by kernel_rfl) rfl #[.slice Ao9 t766.length co9, .int .i64 t767] rfl zq1 ?_; (with_reducible refine (impl_LongestTrack.calls kj6 _ _ t766 t767 t776 t777 t778 _ ?side1 ?side2 A14.out).mono ?_); (case side1 => exact zqC (Kd.S_reads' HO_3.out).2.2); (case side2 => exact (Kd.S_reads' HO_3.out).2.1); rintro e w17 ⟨rfl, hb⟩; refine ⟨_, rfl, ?_⟩; replace HO_3 := Aside0.mk (Kd.S_below (by (with_reducible repeat (first | apply Kd.S_alloc | apply Kd.S_drewN | apply Kd.S_drew)); exact HO_3.out) hb); replace HB := Aside0.mk (below_step zq0 hb); (try clear hb); (try clear hb2); (try clear hk); (try clear hi)) | ((with_reducible refine gate_callee (f := 19) rfl ?_); refine goesL_ (some 73) rfl rfl Try.func19 (by kernel_rfl) rfl #[.slice Ao9 t766.length co9, .int .i64 t767] rfl zq1 ?_; (with_reducible refine (spec_LongestTrack.calls kj6 _ _ t766 t767 t779 t780 t781 _ ?side1 ?side2 A15.out).mono ?_); (case side1 => exact zqC (Kd.S_reads' HO_3.out).2.2); (case side2 => exact (Kd.S_reads' HO_3.out).2.1); rintro e w18 ⟨rfl, hb⟩; refine ⟨_, rfl, ?_⟩; replace HO_3 := Aside0.mk (Kd.S_below (by (with_reducible repeat (first | apply Kd.S_alloc | apply Kd.S_drewN | apply Kd.S_drew)); exact HO_3.out) hb); replace HB := Aside0.mk (below_step zq0 hb); (try clear hb); (try clear hb2); (try clear hk); (try clear hi)))
  (try simp only [Act.put, List.setIfInBounds_toArray, List.set_cons_zero, List.set_cons_succ])
  go_cut [89] (fun v89 wc => ∃ (kq : Nat) (x89_15 : Bool), v89 = .bool x89_15 ∧ Aside0 (laws_FnTracks.j1 kq l0 t766 t767 t772 t773 t776 t777 t778 x89_15 = some r) ∧ Aside0 (kq ≤ kj6) ∧ Aside0 (Kd.S (Kd.slice 49 k49) 26 wc w.heap.size (fun _ => True) (.slice Ao9 t766.length co9) t766) ∧ Aside0 (Below w.heap.size w wc))
  case first =>
   have H := HC16.out
   clear HC16
   by_cases c19 : t776 = t779
   case neg =>
    rw [if_neg c19] at H
    exact absurd H (by simp)
   rw [if_pos c19] at H
   have c19b0 : (t776 == t779) = true := beq_iff_eq.mpr c19
   have c19b1 : (t776 != t779) = false := bne_eq_false_iff_eq.mpr c19
   clear c19
   (first | rw [c19b0] | (simp only [i64_w, i32_w]; rw [c19b0]) | rw [c19b1] | skip)
   by_cases c20 : t777 = t780
   case neg =>
    rw [if_neg c20] at H
    exact absurd H (by simp)
   rw [if_pos c20] at H
   have c20b0 : (t777 == t780) = true := beq_iff_eq.mpr c20
   have c20b1 : (t777 != t780) = false := bne_eq_false_iff_eq.mpr c20
   clear c20
   have H' := Aside0.mk H
   clear H
   go_wp2
   go_meet
   case rel => exact ⟨_, ((t778 != t781)), (by first | rfl | (simp; done) | (simp [*]; done)), H', ⟨by have := HJ6.out; first | omega | exact Nat.le_refl _⟩, ⟨by (with_reducible repeat (first | apply Kd.S_alloc | apply Kd.S_drewN | apply Kd.S_drew)); exact HO_3.out⟩, ⟨zq0⟩⟩
  clear HC16
  try clear c1
  try clear c2
  try clear p2
  try clear c3
  try clear c4
  try clear c12
  try clear c12b0
  try clear c12b1
  try clear c13
  try clear c14
  try clear c15
  try clear c16
  try clear c17
  try clear c18
  try clear c19
  try clear c19b0
  try clear c19b1
  try clear c20
  try clear c20b0
  try clear c20b1
  try clear p2
  obtain ⟨kq, x89_15, rfl, HA, HJ15, HO_3, HB⟩ := hcut
  cases kq with
  | zero => exact absurd HA.out (by simp [laws_FnTracks.j1])
  | succ kj15 =>
   have H := HA.out
   clear HA
   simp only [laws_FnTracks.j1] at H
   by_cases c21 : x89_15 = true
   case pos =>
    subst c21
    have H1 : (none) = some r := by rw [if_pos rfl] at H; exact H
    clear H
    have H := H1
    clear H1
    exact absurd H (by simp)
   replace c21 := Bool.eq_false_iff.mpr c21
   subst c21
   have H1 : (if t778 = true then ((impl_TrackLength.f kj15 t766 t767 t776 t777).bind fun bt782 => (if bt782.2 = true then (if bt782.1 < 1 then (none) else (if t773 = true then (if t772 > bt782.1 then (none) else (laws_FnTracks.j2 kj15 l0)) else (laws_FnTracks.j2 kj15 l0))) else (none))) else (laws_FnTracks.j2 kj15 l0)) = some r := by rw [if_neg (show ¬ (false = true) by decide)] at H; exact H
   clear H
   have H := H1
   clear H1
   have HC22 := Aside0.mk H
   clear H
   go_upto_if 90 with (fail)
   go_cut [] (fun wc => ∃ (kq : Nat), Aside0 (laws_FnTracks.j2 kq l0 = some r) ∧ Aside0 (kq ≤ kj15) ∧ Aside0 (Below w.heap.size w wc))
   case first =>
    have H := HC22.out
    clear HC22
    by_cases c23 : t778 = true
    case neg =>
     replace c23 := Bool.eq_false_iff.mpr c23
     subst c23
     have H1 : (laws_FnTracks.j2 kj15 l0) = some r := by rw [if_neg (show ¬ (false = true) by decide)] at H; exact H
     clear H
     have H := H1
     clear H1
     have H' := Aside0.mk H
     clear H
     go_wp2
     go_meet
     case rel => exact ⟨_, H', ⟨by have := HJ6.out; have := HJ15.out; first | omega | exact Nat.le_refl _⟩, ⟨zq0⟩⟩
    subst c23
    have H1 : ((impl_TrackLength.f kj15 t766 t767 t776 t777).bind fun bt782 => (if bt782.2 = true then (if bt782.1 < 1 then (none) else (if t773 = true then (if t772 > bt782.1 then (none) else (laws_FnTracks.j2 kj15 l0)) else (laws_FnTracks.j2 kj15 l0))) else (none))) = some r := by rw [if_pos rfl] at H; exact H
    clear H
    have H := H1
    clear H1
    replace H := Option.bind_eq_some_iff.mp H
    obtain ⟨⟨t782, t783⟩, A240, H⟩ := H
    replace H : (if t783 = true then (if t782 < 1 then (none) else (if t773 = true then (if t772 > t782 then (none) else (laws_FnTracks.j2 kj15 l0)) else (laws_FnTracks.j2 kj15 l0))) else (none)) = some r := H
    have A24 := Aside0.mk A240
    clear A240
    by_cases c25 : t783 = true
    case neg =>
     replace c25 := Bool.eq_false_iff.mpr c25
     subst c25
     have H1 : (none) = some r := by rw [if_neg (show ¬ (false = true) by decide)] at H; exact H
     clear H
     have H := H1
     clear H1
     exact absurd H (by simp)
    subst c25
    have H1 : (if t782 < 1 then (none) else (if t773 = true then (if t772 > t782 then (none) else (laws_FnTracks.j2 kj15 l0)) else (laws_FnTracks.j2 kj15 l0))) = some r := by rw [if_pos rfl] at H; exact H
    clear H
    have H := H1
    clear H1
    by_cases c26 : t782 < 1
    case pos =>
     rw [if_pos c26] at H
     exact absurd H (by simp)
    rw [if_neg c26] at H
    have c26b0 : decide (t782 < 1) = false := decide_eq_false c26
    clear c26
    (first | rw [c26b0] | (simp only [i64_w, i32_w]; rw [c26b0]) | skip)
    by_cases c27 : t773 = true
    case neg =>
     replace c27 := Bool.eq_false_iff.mpr c27
     subst c27
     have H1 : (laws_FnTracks.j2 kj15 l0) = some r := by rw [if_neg (show ¬ (false = true) by decide)] at H; exact H
     clear H
     have H := H1
     clear H1
     have H' := Aside0.mk H
     clear H
     go_wp2_with (first | ((with_reducible refine gate_callee (f := 16) rfl ?_); refine goesL_ (some 96) rfl rfl Try.func16 (by kernel_rfl) rfl #[.slice Ao9 t766.length co9, .int .i64 t767, .int .i64 t776, .int .i64 t777] rfl zq1 ?_; (with_reducible refine (impl_TrackLength.calls kj15 _ _ t766 t767 t776 t777 t782 true _ ?side1 ?side2 A24.out).mono ?_); (case side1 => exact zqC (Kd.S_reads' HO_3.out).2.2); (case side2 => exact (Kd.S_reads' HO_3.out).2.1); rintro e w30 ⟨rfl, hb⟩; refine ⟨_, rfl, ?_⟩; replace HO_3 := Aside0.mk (Kd.S_below (by (with_reducible repeat (first | apply Kd.S_alloc | apply Kd.S_drewN | apply Kd.S_drew)); exact HO_3.out) hb); replace HB := Aside0.mk (below_step zq0 hb); (try clear hb); (try clear hb2); (try clear hk); (try clear hi)))
     go_meet
     case rel => exact ⟨_, H', ⟨by have := HJ6.out; have := HJ15.out; first | omega | exact Nat.le_refl _⟩, ⟨zq0⟩⟩
    subst c27
    have H1 : (if t772 > t782 then (none) else (laws_FnTracks.j2 kj15 l0)) = some r := by rw [if_pos rfl] at H; exact H
    clear H
    have H := H1
    clear H1
    by_cases c28 : t772 > t782
    case pos =>
     rw [if_pos c28] at H
     exact absurd H (by simp)
    rw [if_neg c28] at H
    have c28b0 : decide (t782 < t772) = false := decide_eq_false c28
    clear c28
    have H' := Aside0.mk H
    clear H
    go_wp2_with (first | ((with_reducible refine gate_callee (f := 16) rfl ?_); refine goesL_ (some 96) rfl rfl Try.func16 (by kernel_rfl) rfl #[.slice Ao9 t766.length co9, .int .i64 t767, .int .i64 t776, .int .i64 t777] rfl zq1 ?_; (with_reducible refine (impl_TrackLength.calls kj15 _ _ t766 t767 t776 t777 t782 true _ ?side1 ?side2 A24.out).mono ?_); (case side1 => exact zqC (Kd.S_reads' HO_3.out).2.2); (case side2 => exact (Kd.S_reads' HO_3.out).2.1); rintro e w29 ⟨rfl, hb⟩; refine ⟨_, rfl, ?_⟩; replace HO_3 := Aside0.mk (Kd.S_below (by (with_reducible repeat (first | apply Kd.S_alloc | apply Kd.S_drewN | apply Kd.S_drew)); exact HO_3.out) hb); replace HB := Aside0.mk (below_step zq0 hb); (try clear hb); (try clear hb2); (try clear hk); (try clear hi)))
    go_meet
    case rel => exact ⟨_, H', ⟨by have := HJ6.out; have := HJ15.out; first | omega | exact Nat.le_refl _⟩, ⟨zq0⟩⟩
   clear HC22
   try clear c1
   try clear c2
   try clear p2
   try clear c3
   try clear c4
   try clear c12
   try clear c12b0
   try clear c12b1
   try clear c13
   try clear c14
   try clear c15
   try clear c16
   try clear c17
   try clear c18
   try clear c19
   try clear c19b0
   try clear c19b1
   try clear c20
   try clear c20b0
   try clear c20b1
   try clear c21
   try clear c23
   try clear c25
   try clear c26
   try clear c26b0
   try clear c27
   try clear c28
   try clear c28b0
   try clear p2
   obtain ⟨kq, HA, HJ21, HB⟩ := hcut
   cases kq with
   | zero => exact absurd HA.out (by simp [laws_FnTracks.j2])
   | succ kj21 =>
    have H := HA.out
    clear HA
    simp only [laws_FnTracks.j2] at H
    replace H := Option.bind_eq_some_iff.mp H
    obtain ⟨⟨t784, t785, t786, t789⟩, A310, H⟩ := H
    replace H : ((impl_StormsOf.f kj21 t784 t785 t786 t789).bind fun bt791 => ((spec_StormsOf.f kj21 t784 t785 t786 t789).bind fun bt795 => (if (bt791.2 != bt795.2) = true then (none) else ((laws_vStorms.f kj21 bt791.1 bt795.1).bind fun t799 => (laws_FnTracks.j3 kj21 t789 bt791.1 (!t799) t784 t785 t786))))) = some r := H
    have A31 := Aside0.mk A310
    clear A310
    replace H := Option.bind_eq_some_iff.mp H
    obtain ⟨⟨t791, t794⟩, A320, H⟩ := H
    replace H : ((spec_StormsOf.f kj21 t784 t785 t786 t789).bind fun bt795 => (if (t794 != bt795.2) = true then (none) else ((laws_vStorms.f kj21 t791 bt795.1).bind fun t799 => (laws_FnTracks.j3 kj21 t789 t791 (!t799) t784 t785 t786)))) = some r := H
    have A32 := Aside0.mk A320
    clear A320
    replace H := Option.bind_eq_some_iff.mp H
    obtain ⟨⟨t795, t798⟩, A330, H⟩ := H
    replace H : (if (t794 != t798) = true then (none) else ((laws_vStorms.f kj21 t791 t795).bind fun t799 => (laws_FnTracks.j3 kj21 t789 t791 (!t799) t784 t785 t786))) = some r := H
    have A33 := Aside0.mk A330
    clear A330
    have HC34 := Aside0.mk H
    clear H
    go_upto_region 19 with (first | ((with_reducible refine gate_callee (f := 20) rfl ?_); refine goesL_ (some 115) rfl rfl Try.func20 (by kernel_rfl) rfl #[.slice A0 l0.length c0] rfl zq1 ?_; (with_reducible refine (spec_DrawStormsOf.calls kj21 _ _ l0 t784 t785 t786 t789 _ ?side1 ?side2 A31.out).mono ?_); (case side1 => exact zqC (Kd.C_below HR0.out HB.out)); (case side2 => exact HC0.out); rintro e w35 ⟨v787, rfl, ho0, hb⟩; refine ⟨_, rfl, ?_⟩; have HO788 := Aside0.mk (Kd.Q_lower ho0 (below_size zq0)); replace HB := Aside0.mk (below_step zq0 hb); (try clear hb); (try clear hb2); (try clear hk); (try clear hi); (try clear ho0)) | ((with_reducible refine gate_dst (N := 19) rfl ?_); refine box_event ?hg (N := 19) ?hd (cs := #[.int .i64 0, .int .i64 0, .slice none 0 0]) (t := 29) ?hr ?_; (case hd => rfl); (case hg => rfl); (case hr => exact zqS); intro gb790 hg w36 hbox hb; replace HO788 := Aside0.mk (Kd.Q_below (by (with_reducible repeat (first | apply Kd.Q_alloc | apply Kd.Q_drewN | apply Kd.Q_drew)); exact HO788.out) hb); have BK790 := Aside0.mk (hbox); have GW790 := Aside0.mk ((by rw [hg]; exact (below_size zq0) : w.heap.size ≤ gb790)); replace HB := Aside0.mk (below_step zq0 hb); have GE790 := GW790; clear hb hbox hg; have hcz37_0 := bz BK790.out 0 (.int .i64 0); have hcz37_1 := bz BK790.out 1 (.int .i64 0); have hcz37_2 := bz BK790.out 2 (.slice none 0 0); have hfz37_0 := blk_frozen BK790.out 0; have hfz37_1 := blk_frozen BK790.out 1; have hfz37_2 := blk_frozen BK790.out 2; obtain ⟨Ao38, co38, eo38, _⟩ := Kd.Q_slice HO788.out; subst eo38) | ((with_reducible refine gate_callee (f := 8) rfl ?_); refine goesL_ (some 121) rfl rfl Try.func8 (by kernel_rfl) rfl #[.agg #[.int .i64 t784, .int .i64 t785, .slice Ao38 t786.length co38], .int .i64 t789] rfl zq1 ?_; (with_reducible refine (impl_StormsOf.calls kj21 t784 t785 _ _ t786 t789 t791 t794 _ ?side1 ?side2 A32.out).mono ?_); (case side1 => refine (Kd.Q_reads' (e := 3) (base := w.heap.size) (ok := fun k_ => True) (n := t786.length) (c := co38) ?_).2.2; exact zq43); (case side2 => exact (Kd.Q_reads' HO788.out).2.1); rintro e w39 ⟨v792, rfl, ho0, hb⟩; refine ⟨_, rfl, ?_⟩; replace HO788 := Aside0.mk (Kd.Q_below zq43 hb); have HO793 := Aside0.mk (Kd.R_lower ho0 (below_size zq23)); replace BK790 := Aside0.mk (blk_below (g := gb790) (o := .cells #[.int .i64 t784, .int .i64 t785, .slice Ao38 t786.length co38] 29 (0, 0)) (by (with_reducible repeat (first | refine blk_drewN ?_ _ | refine blk_drew ?_ | refine blk_alloc ?_ _)); refine blk_put (cs := #[.int .i64 t784, .int .i64 t785, .slice none 0 0]) ?_ 2 _ rfl; (with_reducible repeat (first | refine blk_drewN ?_ _ | refine blk_drew ?_ | refine blk_alloc ?_ _)); refine blk_put (cs := #[.int .i64 t784, .int .i64 0, .slice none 0 0]) ?_ 1 _ rfl; (with_reducible repeat (first | refine blk_drewN ?_ _ | refine blk_drew ?_ | refine blk_alloc ?_ _)); refine blk_put (cs := #[.int .i64 0, .int .i64 0, .slice none 0 0]) ?_ 0 _ rfl; (with_reducible repeat (first | refine blk_drewN ?_ _ | refine blk_drew ?_ | refine blk_alloc ?_ _)); exact BK790.out) hb); replace HB := Aside0.mk (below_step zq23 hb); (try clear hb); (try clear hb2); (try clear hk); (try clear hi); (try clear ho0); have hcz40_0 := bz BK790.out 0 (.int .i64 t784); have hcz40_1 := bz BK790.out 1 (.int .i64 t785); have hcz40_2 := bz BK790.out 2 (.slice Ao38 t786.length co38); have hfz40_0 := blk_frozen BK790.out 0; have hfz40_1 := blk_frozen BK790.out 1; have hfz40_2 := blk_frozen BK790.out 2) | ((with_reducible refine gate_callee (f := 6) rfl ?_); refine goesL_ (some 127) rfl rfl Try.func6 (by kernel_rfl) rfl #[.agg #[.int .i64 t784, .int .i64 t785, .slice Ao38 t786.length co38], .int .i64 t789] rfl zq1 ?_; (with_reducible refine (spec_StormsOf.calls kj21 t784 t785 _ _ t786 t789 t795 t798 _ ?side1 ?side2 A33.out).mono ?_); (case side1 => exact zqC (Kd.Q_reads' HO788.out).2.2); (case side2 => exact (Kd.Q_reads' HO788.out).2.1); rintro e w41 ⟨v796, rfl, ho0, hb⟩; refine ⟨_, rfl, ?_⟩; replace HO788 := Aside0.mk (Kd.Q_below (by (with_reducible repeat (first | apply Kd.Q_alloc | apply Kd.Q_drewN | apply Kd.Q_drew)); exact HO788.out) hb); have HO797 := Aside0.mk (Kd.R_lower (Kd.R_new' ho0 (Kd.R_lt (zqR HO793.out))) (below_size zq23)); replace HO793 := Aside0.mk (Kd.R_elder' (zqR HO793.out) (Kd.R_base ho0) hb); replace BK790 := Aside0.mk (blk_below (g := gb790) (o := .cells #[.int .i64 t784, .int .i64 t785, .slice Ao38 t786.length co38] 29 (0, 0)) (zqK BK790.out) hb); replace HB := Aside0.mk (below_step zq23 hb); (try clear hb); (try clear hb2); (try clear hk); (try clear hi); (try clear ho0)))
    (try simp only [Act.put, List.setIfInBounds_toArray, List.set_cons_zero, List.set_cons_succ])
    go_cut [138] (fun v138 wc => ∃ (kq : Nat) (x138_33 : Bool), v138 = .bool x138_33 ∧ Aside0 (laws_FnTracks.j3 kq t789 t791 x138_33 t784 t785 t786 = some r) ∧ Aside0 (kq ≤ kj21) ∧ Aside0 (Kd.R k49 49 wc w.heap.size (fun _ => True) v792 t791) ∧ Aside0 (Kd.Q (Kd.int .i64) 3 wc w.heap.size (fun _ => True) (.slice Ao38 t786.length co38) t786) ∧ Aside0 (wc.heap[gb790]? = some (.cells #[.int .i64 t784, .int .i64 t785, (.slice Ao38 t786.length co38)] 29 (0, 0))) ∧ Aside0 (Below w.heap.size w wc))
    case first =>
     have H := HC34.out
     clear HC34
     by_cases c42 : (t794 != t798) = true
     case pos =>
      rw [if_pos c42] at H
      exact absurd H (by simp)
     rw [if_neg c42] at H
     have c42b0 : (t794 != t798) = false := by simpa using c42
     (try (have c42b1 : decide (t794 = t798) = true := by simpa using c42))
     (try (have c42b2 : (t794 == t798) = true := by simpa using c42))
     clear c42
     (first | rw [c42b0] | (simp only [i64_w, i32_w]; rw [c42b0]) | rw [c42b1] | skip)
     replace H := Option.bind_eq_some_iff.mp H
     obtain ⟨t799, A430, H⟩ := H
     replace H : (laws_FnTracks.j3 kj21 t789 t791 (!t799) t784 t785 t786) = some r := H
     have A43 := Aside0.mk A430
     clear A430
     have H' := Aside0.mk H
     clear H
     obtain ⟨Ao44, co44, eo44⟩ := Kd.R_slice HO793.out
     subst eo44
     obtain ⟨Ao45, co45, eo45⟩ := Kd.R_slice HO797.out
     subst eo45
     go_wp2_with (first | (go_at_call 21; (with_reducible refine (laws_vStorms.calls kj21 _ _ t791 _ _ t795 t799 _ ?side1 ?side2 ?side3 ?side4 A43.out).mono ?_); (case side1 => exact zqC (Kd.R_reads' HO793.out).2.2); (case side2 => exact (Kd.R_reads' HO793.out).2.1); (case side3 => exact zqC (Kd.R_reads' HO797.out).2.2); (case side4 => exact (Kd.R_reads' HO797.out).2.1); rintro e w' ⟨rfl, ⟨nd, rfl⟩⟩))
     go_meet
     case rel => exact ⟨_, (!t799), (by first | rfl | (simp; done) | (simp [*]; done)), H', ⟨by have := HJ6.out; have := HJ15.out; have := HJ21.out; first | omega | exact Nat.le_refl _⟩, ⟨by (with_reducible repeat (first | apply Kd.R_alloc | apply Kd.R_drewN | apply Kd.R_drew)); exact Kd.R_mono HO793.out (fun _ hk => trivial)⟩, ⟨by (with_reducible repeat (first | apply Kd.Q_alloc | apply Kd.Q_drewN | apply Kd.Q_drew)); exact HO788.out⟩, ⟨by (with_reducible repeat (first | refine blk_drewN ?_ _ | refine blk_drew ?_ | refine blk_alloc ?_ _)); exact BK790.out⟩, ⟨zq23⟩⟩
    clear HC34
    try clear c1
    try clear c2
    try clear p2
    try clear c3
    try clear c4
    try clear c6
    try clear c8
    try clear c12
    try clear c12b0
    try clear c12b1
    try clear c13
    try clear c14
    try clear c15
    try clear c16
    try clear c17
    try clear c18
    try clear c19
    try clear c19b0
    try clear c19b1
    try clear c20
    try clear c20b0
    try clear c20b1
    try clear c21
    try clear c23
    try clear c25
    try clear c26
    try clear c26b0
    try clear c27
    try clear c28
    try clear c28b0
    try clear c42
    try clear c42b0
    try clear c42b1
    try clear c42b2
    try clear hcz37_0
    try clear hcz37_1
    try clear hcz37_2
    try clear hcz40_0
    try clear hcz40_1
    try clear hcz40_2
    try clear hfz37_0
    try clear hfz37_1
    try clear hfz37_2
    try clear hfz40_0
    try clear hfz40_1
    try clear hfz40_2
    try clear p2
    obtain ⟨kq, x138_33, rfl, HA, HJ33, HO_21, HO_791002, BK790, HB⟩ := hcut
    cases kq with
    | zero => exact absurd HA.out (by simp [laws_FnTracks.j3])
    | succ kj33 =>
     have H := HA.out
     clear HA
     simp only [laws_FnTracks.j3] at H
     by_cases c46 : x138_33 = true
     case pos =>
      subst c46
      have H1 : (none) = some r := by rw [if_pos rfl] at H; exact H
      clear H
      have H := H1
      clear H1
      exact absurd H (by simp)
     replace c46 := Bool.eq_false_iff.mpr c46
     subst c46
     have H1 : (laws_FnTracks.l0 kj33 t789 t791 0 t784 t785 t786) = some r := by rw [if_neg (show ¬ (false = true) by decide)] at H; exact H
     clear H
     have H := H1
     clear H1
     have H' := Aside0.mk H
     clear H
     go_wp2
     go_loopg [25] kj33 (fun kq v25 w' => ∃ (x25_5 : Int), v25 = .int .i64 x25_5 ∧ Aside0 (laws_FnTracks.l0 kq t789 t791 x25_5 t784 t785 t786 = some r) ∧ Aside0 (kq ≤ kj33) ∧ Aside0 (Kd.R k49 49 w' w.heap.size (fun _ => True) v792 t791) ∧ Aside0 (Kd.Q (Kd.int .i64) 3 w' w.heap.size (fun _ => True) (.slice Ao38 t786.length co38) t786) ∧ Aside0 (w'.heap[gb790]? = some (.cells #[.int .i64 t784, .int .i64 t785, (.slice Ao38 t786.length co38)] 29 (0, 0))) ∧ Aside0 (Below w.heap.size w w'))
     case atStart => exact ⟨(0), (by first | rfl | (simp; done) | (simp [*]; done)), H', ⟨Nat.le_refl _⟩, ⟨zqR HO_21.out⟩, ⟨by (with_reducible repeat (first | apply Kd.Q_alloc | apply Kd.Q_drewN | apply Kd.Q_drew)); exact HO_791002.out⟩, ⟨by (with_reducible repeat (first | refine blk_drewN ?_ _ | refine blk_drew ?_ | refine blk_alloc ?_ _)); exact BK790.out⟩, ⟨zq23⟩⟩
     clear H'
     try clear c1
     try clear c2
     try clear p2
     try clear c3
     try clear c4
     try clear c6
     try clear c8
     try clear c12
     try clear c12b0
     try clear c12b1
     try clear c13
     try clear c14
     try clear c15
     try clear c16
     try clear c17
     try clear c18
     try clear c19
     try clear c19b0
     try clear c19b1
     try clear c20
     try clear c20b0
     try clear c20b1
     try clear c21
     try clear c23
     try clear c25
     try clear c26
     try clear c26b0
     try clear c27
     try clear c28
     try clear c28b0
     try clear c42
     try clear c42b0
     try clear c42b1
     try clear c42b2
     try clear c46
     try clear hcz37_0
     try clear hcz37_1
     try clear hcz37_2
     try clear hcz40_0
     try clear hcz40_1
     try clear hcz40_2
     try clear hfz37_0
     try clear hfz37_1
     try clear hfz37_2
     try clear hfz40_0
     try clear hfz40_1
     try clear hfz40_2
     try clear p2
     obtain ⟨x25_5, rfl, HA, HK5, HO_21, HO_791002, BK790, HB⟩ := hrel
     cases gk with
     | zero => exact absurd HA.out (by simp [laws_FnTracks.l0])
     | succ k5 =>
      have H := HA.out
      clear HA
      simp only [laws_FnTracks.l0] at H
      by_cases c47 : x25_5 < (t791.length : Int)
      case neg =>
       rw [if_neg c47] at H
       have c47b0 : decide (x25_5 < (t791.length : Int)) = false := decide_eq_false c47
       clear c47
       obtain rfl := Option.some.inj H
       obtain ⟨Ao63, co63, eo63⟩ := Kd.R_slice HO_21.out
       subst eo63
       go_wp2
       go_ret
       exact ⟨zqE, zq23⟩
      rw [if_pos c47] at H
      have c47b0 : decide (x25_5 < (t791.length : Int)) = true := decide_eq_true c47
      clear c47
      by_cases c48 : 0 ≤ x25_5
      case neg =>
       rw [if_neg c48] at H
       exact absurd H (by simp)
      rw [if_pos c48] at H
      have c48b0 : decide (0 ≤ x25_5) = true := decide_eq_true c48
      clear c48
      replace H := Option.bind_eq_some_iff.mp H
      obtain ⟨⟨t802, t803⟩, A490, H⟩ := H
      replace H : (if 0 < (t791.length : Int) then ((impl_StormDistance.f ((rd_T49 t791 x25_5).f0) ((rd_T49 t791 x25_5).f1) ((rd_T49 t791 x25_5).f2) ((rd_T49 t791 x25_5).f3) ((rd_T49 t791 0).f0) ((rd_T49 t791 0).f1) ((rd_T49 t791 0).f2) ((rd_T49 t791 0).f3)).bind fun bt806 => (if t803 = true then (if t802 = ((rd_T49 t791 x25_5).f3) then (if t802 ≤ t789 then (none) else (if bt806.2 = true then (if bt806.1 < 0 then (none) else (if ((bt806.1 == 0) != (x25_5 == 0)) = true then (none) else (laws_FnTracks.l0 k5 t789 t791 (wrap64 (x25_5 + 1)) t784 t785 t786))) else (none))) else (none)) else (none))) else (none)) = some r := H
      have A49 := Aside0.mk A490
      clear A490
      by_cases c50 : 0 < (t791.length : Int)
      case neg =>
       rw [if_neg c50] at H
       exact absurd H (by simp)
      rw [if_pos c50] at H
      have c50b0 : decide (0 < (t791.length : Int)) = true := decide_eq_true c50
      have c50b1 : decide (0 < t791.length) = true := decide_eq_true (by omega)
      clear c50
      replace H := Option.bind_eq_some_iff.mp H
      obtain ⟨⟨t806, t807⟩, A510, H⟩ := H
      replace H : (if t803 = true then (if t802 = ((rd_T49 t791 x25_5).f3) then (if t802 ≤ t789 then (none) else (if t807 = true then (if t806 < 0 then (none) else (if ((t806 == 0) != (x25_5 == 0)) = true then (none) else (laws_FnTracks.l0 k5 t789 t791 (wrap64 (x25_5 + 1)) t784 t785 t786))) else (none))) else (none)) else (none)) = some r := H
      have A51 := Aside0.mk A510
      clear A510
      by_cases c52 : t803 = true
      case neg =>
       replace c52 := Bool.eq_false_iff.mpr c52
       subst c52
       have H1 : (none) = some r := by rw [if_neg (show ¬ (false = true) by decide)] at H; exact H
       clear H
       have H := H1
       clear H1
       exact absurd H (by simp)
      subst c52
      have H1 : (if t802 = ((rd_T49 t791 x25_5).f3) then (if t802 ≤ t789 then (none) else (if t807 = true then (if t806 < 0 then (none) else (if ((t806 == 0) != (x25_5 == 0)) = true then (none) else (laws_FnTracks.l0 k5 t789 t791 (wrap64 (x25_5 + 1)) t784 t785 t786))) else (none))) else (none)) = some r := by rw [if_pos rfl] at H; exact H
      clear H
      have H := H1
      clear H1
      by_cases c53 : t802 = ((rd_T49 t791 x25_5).f3)
      case neg =>
       rw [if_neg c53] at H
       exact absurd H (by simp)
      rw [if_pos c53] at H
      have c53b0 : (t802 == ((rd_T49 t791 x25_5).f3)) = true := beq_iff_eq.mpr c53
      have c53b1 : (t802 != ((rd_T49 t791 x25_5).f3)) = false := bne_eq_false_iff_eq.mpr c53
      clear c53
      by_cases c54 : t802 ≤ t789
      case pos =>
       rw [if_pos c54] at H
       exact absurd H (by simp)
      rw [if_neg c54] at H
      have c54b0 : decide (t802 ≤ t789) = false := decide_eq_false c54
      clear c54
      by_cases c55 : t807 = true
      case neg =>
       replace c55 := Bool.eq_false_iff.mpr c55
       subst c55
       have H1 : (none) = some r := by rw [if_neg (show ¬ (false = true) by decide)] at H; exact H
       clear H
       have H := H1
       clear H1
       exact absurd H (by simp)
      subst c55
      have H1 : (if t806 < 0 then (none) else (if ((t806 == 0) != (x25_5 == 0)) = true then (none) else (laws_FnTracks.l0 k5 t789 t791 (wrap64 (x25_5 + 1)) t784 t785 t786))) = some r := by rw [if_pos rfl] at H; exact H
      clear H
      have H := H1
      clear H1
      by_cases c56 : t806 < 0
      case pos =>
       rw [if_pos c56] at H
       exact absurd H (by simp)
      rw [if_neg c56] at H
      have c56b0 : decide (t806 < 0) = false := decide_eq_false c56
      clear c56
      by_cases c57 : ((t806 == 0) != (x25_5 == 0)) = true
      case pos =>
       rw [if_pos c57] at H
       exact absurd H (by simp)
      rw [if_neg c57] at H
      have c57b0 : ((t806 == 0) != (x25_5 == 0)) = false := by simpa using c57
      (try (have c57b1 : decide ((t806 == 0) = (x25_5 == 0)) = true := by simpa using c57))
      (try (have c57b2 : ((t806 == 0) == (x25_5 == 0)) = true := by simpa using c57))
      clear c57
      have H' := Aside0.mk H
      clear H
      obtain ⟨Ao58, co58, eo58⟩ := Kd.R_slice HO_21.out
      subst eo58
      try go_wp2
      have n0_ := Aside0.mk (Kd.R_drew HO_21.out)
      have n1_ := Aside0.mk (Kd.Q_drew HO_791002.out)
      have n2_ := Aside0.mk (blk_drew BK790.out)
      have n3_ := Aside0.mk (below_drew1 HB.out)
      clear HO_21
      clear HO_791002
      clear BK790
      clear HB
      have HO_21 := n0_
      have HO_791002 := n1_
      have BK790 := n2_
      have HB := n3_
      clear n0_ n1_ n2_ n3_
      have p800 : 0 ≤ (x25_5 : Int) := of_decide_eq_true zq2
      have q800 : x25_5 < (t791.length : Int) := of_decide_eq_true zq2
      obtain ⟨ad800, e800, hx800_0, hx800_1, hx800_2, hx800_3⟩ := at_T49 (Kd.R_reads' HO_21.out).2.2 x25_5 p800 q800
      cases e800
      replace p800 := eq_true p800
      replace q800 := eq_true q800
      have p801 : 0 ≤ (x25_5 : Int) := of_decide_eq_true zq2
      have q801 : x25_5 < (t791.length : Int) := of_decide_eq_true zq2
      obtain ⟨ad801, e801, hx801_0, hx801_1, hx801_2, hx801_3⟩ := at_T49 (Kd.R_reads' HO_21.out).2.2 x25_5 p801 q801
      obtain rfl : ad800 = ad801 := (by injection e801)
      replace p801 := eq_true p801
      replace q801 := eq_true q801
      refine start_ (n := 17) (S := fun w' => w'.cell? ⟨gb790, 0, none⟩ = some (.int .i64 t784) ∧ w'.cell? ⟨gb790, 1, none⟩ = some (.int .i64 t785) ∧ w'.cell? ⟨gb790, 2, none⟩ = some (.slice Ao38 t786.length co38) ∧ w'.cell? (ad800.add ((x25_5).toNat * 4)) = some (.int .i64 ((rd_T49 t791 x25_5).f0)) ∧ w'.cell? ⟨(ad800.add ((x25_5).toNat * 4)).block, (ad800.add ((x25_5).toNat * 4)).off + 1, none⟩ = some (.int .i64 ((rd_T49 t791 x25_5).f1)) ∧ w'.cell? ⟨(ad800.add ((x25_5).toNat * 4)).block, (ad800.add ((x25_5).toNat * 4)).off + 2, none⟩ = some (.int .i64 ((rd_T49 t791 x25_5).f2)) ∧ w'.cell? ⟨(ad800.add ((x25_5).toNat * 4)).block, (ad800.add ((x25_5).toNat * 4)).off + 3, none⟩ = some (.int .i64 ((rd_T49 t791 x25_5).f3)) ∧ w'.cell? (ad800.add ((x25_5).toNat * 4)) = some (.int .i64 ((rd_T49 t791 x25_5).f0)) ∧ w'.cell? ⟨(ad800.add ((x25_5).toNat * 4)).block, (ad800.add ((x25_5).toNat * 4)).off + 1, none⟩ = some (.int .i64 ((rd_T49 t791 x25_5).f1)) ∧ w'.cell? ⟨(ad800.add ((x25_5).toNat * 4)).block, (ad800.add ((x25_5).toNat * 4)).off + 2, none⟩ = some (.int .i64 ((rd_T49 t791 x25_5).f2)) ∧ w'.cell? ⟨(ad800.add ((x25_5).toNat * 4)).block, (ad800.add ((x25_5).toNat * 4)).off + 3, none⟩ = some (.int .i64 ((rd_T49 t791 x25_5).f3))) (ds := []) #[false, false, false, false, false, false, false, false, false, false, false, false, false, false, false, false, false] (by kernel_rfl) rfl rfl ⟨(blk_cell BK790.out 0).trans rfl, (blk_cell BK790.out 1).trans rfl, (blk_cell BK790.out 2).trans rfl, hx800_0, hx800_1, hx800_2, hx800_3, hx801_0, hx801_1, hx801_2, hx801_3⟩ (fun hHeld => ?_); refine with_tabW laws_FnTracks.tab24 laws_FnTracks.bits24 (fun HT_ HW_ => ?_)
      generalize wr.drew = w59 at HO_21 HO_791002 BK790 HB hx800_0 hx800_1 hx800_2 hx800_3 hx801_0 hx801_1 hx801_2 hx801_3 hHeld ⊢
      refine zP 1 (some 147) #[zf, zt, zf, zf, zf, zf, zf, zf, zf, zf, zf, zf, zf, zf, zf, zf, zf] ?_ rfl rfl HT_ (Or.inl ⟨by rfl, ?_⟩) ?_ ?_ ?_
      rotate_left; · exact zqB
      rotate_left; · exact zqA
      refine zP 2 (some 148) #[zf, zt, zt, zf, zf, zf, zf, zf, zf, zf, zf, zf, zf, zf, zf, zf, zf] ?_ rfl rfl HT_ (Or.inl ⟨by rfl, ?_⟩) ?_ ?_ ?_
      rotate_left; · exact zqB
      rotate_left; · exact zqA
      refine zP 3 (some 149) #[zf, zt, zt, zt, zf, zf, zf, zf, zf, zf, zf, zf, zf, zf, zf, zf, zf] ?_ rfl rfl HT_ (Or.inl ⟨by rfl, ?_⟩) ?_ ?_ ?_
      rotate_left; · exact zqB
      rotate_left; · exact zqA
      refine zP 4 (some 150) #[zf, zt, zt, zt, zt, zf, zf, zf, zf, zf, zf, zf, zf, zf, zf, zf, zf] ?_ rfl rfl HT_ (Or.inl ⟨by rfl, ?_⟩) ?_ ?_ ?_
      rotate_left; · exact zqB
      rotate_left; · exact zqA
      refine zP 6 (some 152) #[zf, zt, zt, zt, zt, zf, zt, zf, zf, zf, zf, zf, zf, zf, zf, zf, zf] ?_ rfl rfl HT_ (Or.inl ⟨by rfl, ?_⟩) ?_ ?_ ?_
      rotate_left; · exact zqB
      rotate_left; · exact zqA
      refine zP 7 (some 153) #[zf, zt, zt, zt, zt, zf, zt, zt, zf, zf, zf, zf, zf, zf, zf, zf, zf] ?_ rfl rfl HT_ (Or.inl ⟨by rfl, ?_⟩) ?_ ?_ ?_
      rotate_left; · exact zqB
      rotate_left; · exact zqA
      refine zP 8 (some 154) #[zf, zt, zt, zt, zt, zf, zt, zt, zt, zf, zf, zf, zf, zf, zf, zf, zf] ?_ rfl rfl HT_ (Or.inl ⟨by rfl, ?_⟩) ?_ ?_ ?_
      rotate_left; · exact zqB
      rotate_left; · exact zqA
      refine zP 9 (some 155) #[zf, zt, zt, zt, zt, zf, zt, zt, zt, zt, zf, zf, zf, zf, zf, zf, zf] ?_ rfl rfl HT_ (Or.inl ⟨by rfl, ?_⟩) ?_ ?_ ?_
      rotate_left; · exact zqB
      rotate_left; · exact zqA
      refine zT 0 (some 146) #[zt, zt, zt, zt, zt, zf, zt, zt, zt, zt, zf, zf, zf, zf, zf, zf, zf] ?_ rfl rfl HT_ HW_ (Or.inl ⟨by rfl, ?_⟩) hHeld ?_ ?_ ?_
      rotate_left
      ·
       rintro w' ⟨s0, s1, s2, s3, s4, s5, s6, s7, s8, s9, s10⟩
       go_simp
       with_reducible rfl
      rotate_left; · exact zqA
      refine zT 5 (some 151) #[zt, zt, zt, zt, zt, zt, zt, zt, zt, zt, zf, zf, zf, zf, zf, zf, zf] ?_ rfl rfl HT_ HW_ (Or.inl ⟨by rfl, ?_⟩) hHeld ?_ ?_ ?_
      rotate_left
      ·
       rintro w' ⟨s0, s1, s2, s3, s4, s5, s6, s7, s8, s9, s10⟩
       go_simp
       with_reducible rfl
      rotate_left; · exact zqA
      refine zT 10 (some 156) #[zt, zt, zt, zt, zt, zt, zt, zt, zt, zt, zt, zf, zf, zf, zf, zf, zf] ?_ rfl rfl HT_ HW_ (Or.inl ⟨by rfl, ?_⟩) hHeld ?_ ?_ ?_
      rotate_left
      ·
       rintro w' ⟨s0, s1, s2, s3, s4, s5, s6, s7, s8, s9, s10⟩
       go_simp
       with_reducible rfl
      rotate_left; · exact zqA
      refine one_ (i := 11) (N := some 157) #[zt, zt, zt, zt, zt, zt, zt, zt, zt, zt, zt, zt, zf, zf, zf, zf, zf] rfl rfl (one_of HT_.out (by kernel_rfl)) (by decide) (fun K hK => ?_)
      refine goes_ Try.func22 (by kernel_rfl) rfl #[.agg #[.int .i64 t784, .int .i64 t785, .slice Ao38 t786.length co38], .int .i64 ((rd_T49 t791 x25_5).f0), .int .i64 ((rd_T49 t791 x25_5).f1)] (by rfl) rfl rfl zq1 ?_
      with_reducible refine (impl_CellAt.calls t784 t785 _ _ t786 ((rd_T49 t791 x25_5).f0) ((rd_T49 t791 x25_5).f1) t802 true _ ?side1 ?side2 A49.out).mono ?_
      (case side1 => exact zqC (Kd.Q_reads' HO_791002.out).2.2)
      (case side2 => exact (Kd.Q_reads' HO_791002.out).2.1)
      rintro e w60 ⟨rfl, hb⟩
      have HS3_ := (hb.cell (World.block_lt_of_cell? _ _ (hHeld.2.2.2.1))).trans (hHeld.2.2.2.1)
      have HS4_ := (hb.cell (World.block_lt_of_cell? _ _ (hHeld.2.2.2.2.1))).trans (hHeld.2.2.2.2.1)
      have HS5_ := (hb.cell (World.block_lt_of_cell? _ _ (hHeld.2.2.2.2.2.1))).trans (hHeld.2.2.2.2.2.1)
      have HS6_ := (hb.cell (World.block_lt_of_cell? _ _ (hHeld.2.2.2.2.2.2.1))).trans (hHeld.2.2.2.2.2.2.1)
      have HS7_ := (hb.cell (World.block_lt_of_cell? _ _ (hHeld.2.2.2.2.2.2.2.1))).trans (hHeld.2.2.2.2.2.2.2.1)
      have HS8_ := (hb.cell (World.block_lt_of_cell? _ _ (hHeld.2.2.2.2.2.2.2.2.1))).trans (hHeld.2.2.2.2.2.2.2.2.1)
      have HS9_ := (hb.cell (World.block_lt_of_cell? _ _ (hHeld.2.2.2.2.2.2.2.2.2.1))).trans (hHeld.2.2.2.2.2.2.2.2.2.1)
      have HS10_ := (hb.cell (World.block_lt_of_cell? _ _ (hHeld.2.2.2.2.2.2.2.2.2.2))).trans (hHeld.2.2.2.2.2.2.2.2.2.2)
      refine ⟨_, rfl, ?_⟩
      have n0_ := Aside0.mk (Kd.R_below (zqR HO_21.out) hb)
      have n1_ := Aside0.mk (Kd.Q_below (by (with_reducible repeat (first | apply Kd.Q_alloc | apply Kd.Q_drewN | apply Kd.Q_drew)); exact HO_791002.out) hb)
      have n2_ := Aside0.mk (blk_below (g := gb790) (o := .cells #[.int .i64 t784, .int .i64 t785, .slice Ao38 t786.length co38] 29 (0, 0)) (zqK BK790.out) hb)
      have n3_ := Aside0.mk (below_step zq23 hb)
      clear HO_21
      clear HO_791002
      clear BK790
      clear HB
      have HO_21 := n0_
      have HO_791002 := n1_
      have BK790 := n2_
      have HB := n3_
      clear n0_ n1_ n2_ n3_
      (try clear hb)
      (try clear hb2)
      (try clear hk)
      (try clear hi)
      refine hK.out _ _ ⟨(blk_cell BK790.out 0).trans rfl, (blk_cell BK790.out 1).trans rfl, (blk_cell BK790.out 2).trans rfl, HS3_, HS4_, HS5_, HS6_, HS7_, HS8_, HS9_, HS10_⟩ (fun hHeld => ?_)
      clear hK K
      refine norm_ (a' := ?_) ?_ ?_
      rotate_left
      ·
       show Act.put _ (some 157) _ = _
       simp only [Act.put, List.setIfInBounds_toArray, List.set_cons_zero, List.set_cons_succ, i64_w, i32_w]
       rfl
      refine zP 12 (some 145) #[zt, zt, zt, zt, zt, zt, zt, zt, zt, zt, zt, zt, zt, zf, zf, zf, zf] ?_ rfl rfl HT_ (Or.inl ⟨by rfl, ?_⟩) ?_ ?_ ?_
      rotate_left; · exact zqB
      rotate_left; · exact zqA
      refine zP 13 (some 158) #[zt, zt, zt, zt, zt, zt, zt, zt, zt, zt, zt, zt, zt, zt, zf, zf, zf] ?_ rfl rfl HT_ (Or.inl ⟨by rfl, ?_⟩) ?_ ?_ ?_
      rotate_left; · exact zqB
      rotate_left; · exact zqA
      refine zP 14 (some 159) #[zt, zt, zt, zt, zt, zt, zt, zt, zt, zt, zt, zt, zt, zt, zt, zf, zf] ?_ rfl rfl HT_ (Or.inl ⟨by rfl, ?_⟩) ?_ ?_ ?_
      rotate_left; · exact zqB
      rotate_left; · exact zqA
      refine zP 15 (some 26) #[zt, zt, zt, zt, zt, zt, zt, zt, zt, zt, zt, zt, zt, zt, zt, zt, zf] ?_ rfl rfl HT_ (Or.inl ⟨by rfl, ?_⟩) ?_ ?_ ?_
      rotate_left; · exact zqB
      rotate_left; · exact zqA
      refine zP 16 (some 27) #[zt, zt, zt, zt, zt, zt, zt, zt, zt, zt, zt, zt, zt, zt, zt, zt, zt] ?_ rfl rfl HT_ (Or.inl ⟨by rfl, ?_⟩) ?_ ?_ ?_
      rotate_left; · exact zqB
      rotate_left; · exact zqA
      refine done_ (done_of HT_.out (by kernel_rfl)) ?_
      try go_wp2
      have n0_ := Aside0.mk (Kd.R_drew HO_21.out)
      have n1_ := Aside0.mk (Kd.Q_drew HO_791002.out)
      have n2_ := Aside0.mk (blk_drew BK790.out)
      have n3_ := Aside0.mk (below_drew1 HB.out)
      clear HO_21
      clear HO_791002
      clear BK790
      clear HB
      have HO_21 := n0_
      have HO_791002 := n1_
      have BK790 := n2_
      have HB := n3_
      clear n0_ n1_ n2_ n3_
      have p804 : 0 ≤ (x25_5 : Int) := of_decide_eq_true zq2
      have q804 : x25_5 < (t791.length : Int) := of_decide_eq_true zq2
      obtain ⟨ad804, e804, hx804_0, hx804_1, hx804_2, hx804_3⟩ := at_T49 (Kd.R_reads' HO_21.out).2.2 x25_5 p804 q804
      obtain rfl : ad800 = ad804 := (by injection e804)
      replace p804 := eq_true p804
      replace q804 := eq_true q804
      have p805 : 0 ≤ (0 : Int) := (by omega)
      have q805 : 0 < (t791.length : Int) := of_decide_eq_true zq2
      obtain ⟨ad805, e805, hx805_0, hx805_1, hx805_2, hx805_3⟩ := at_T49 (Kd.R_reads' HO_21.out).2.2 0 p805 q805
      obtain rfl : ad800 = ad805 := (by injection e805)
      have qi805 : (0 < t791.length) = True := eq_true (by omega)
      (try rw [show ((0 : Int)).toNat = 0 from rfl] at hx805_0)
      (try rw [show 0 * 4 = 0 from rfl] at hx805_0)
      (try rw [Addr.add_zero'] at hx805_0)
      (try rw [show ((0 : Int)).toNat = 0 from rfl] at hx805_1)
      (try rw [show 0 * 4 = 0 from rfl] at hx805_1)
      (try rw [Addr.add_zero'] at hx805_1)
      (try rw [show ((0 : Int)).toNat = 0 from rfl] at hx805_2)
      (try rw [show 0 * 4 = 0 from rfl] at hx805_2)
      (try rw [Addr.add_zero'] at hx805_2)
      (try rw [show ((0 : Int)).toNat = 0 from rfl] at hx805_3)
      (try rw [show 0 * 4 = 0 from rfl] at hx805_3)
      (try rw [Addr.add_zero'] at hx805_3)
      replace p805 := eq_true p805
      replace q805 := eq_true q805
      refine start_ (n := 13) (S := fun w' => w'.cell? (ad800.add ((x25_5).toNat * 4)) = some (.int .i64 ((rd_T49 t791 x25_5).f0)) ∧ w'.cell? ⟨(ad800.add ((x25_5).toNat * 4)).block, (ad800.add ((x25_5).toNat * 4)).off + 1, none⟩ = some (.int .i64 ((rd_T49 t791 x25_5).f1)) ∧ w'.cell? ⟨(ad800.add ((x25_5).toNat * 4)).block, (ad800.add ((x25_5).toNat * 4)).off + 2, none⟩ = some (.int .i64 ((rd_T49 t791 x25_5).f2)) ∧ w'.cell? ⟨(ad800.add ((x25_5).toNat * 4)).block, (ad800.add ((x25_5).toNat * 4)).off + 3, none⟩ = some (.int .i64 ((rd_T49 t791 x25_5).f3)) ∧ w'.cell? ad800 = some (.int .i64 ((rd_T49 t791 0).f0)) ∧ w'.cell? ⟨ad800.block, ad800.off + 1, none⟩ = some (.int .i64 ((rd_T49 t791 0).f1)) ∧ w'.cell? ⟨ad800.block, ad800.off + 2, none⟩ = some (.int .i64 ((rd_T49 t791 0).f2)) ∧ w'.cell? ⟨ad800.block, ad800.off + 3, none⟩ = some (.int .i64 ((rd_T49 t791 0).f3))) (ds := []) #[false, false, false, false, false, false, false, false, false, false, false, false, false] (by kernel_rfl) rfl rfl ⟨hx804_0, hx804_1, hx804_2, hx804_3, hx805_0, hx805_1, hx805_2, hx805_3⟩ (fun hHeld => ?_); refine with_tabW laws_FnTracks.tab25 laws_FnTracks.bits25 (fun HT_ HW_ => ?_)
      generalize w60.drew = w61 at HO_21 HO_791002 BK790 HB hx804_0 hx804_1 hx804_2 hx804_3 hx805_0 hx805_1 hx805_2 hx805_3 hHeld ⊢
      refine zP 0 (some 161) #[zt, zf, zf, zf, zf, zf, zf, zf, zf, zf, zf, zf, zf] ?_ rfl rfl HT_ (Or.inl ⟨by rfl, ?_⟩) ?_ ?_ ?_
      rotate_left; · exact zqB
      rotate_left; · exact zqA
      refine zP 1 (some 162) #[zt, zt, zf, zf, zf, zf, zf, zf, zf, zf, zf, zf, zf] ?_ rfl rfl HT_ (Or.inl ⟨by rfl, ?_⟩) ?_ ?_ ?_
      rotate_left; · exact zqB
      rotate_left; · exact zqA
      refine zP 2 (some 163) #[zt, zt, zt, zf, zf, zf, zf, zf, zf, zf, zf, zf, zf] ?_ rfl rfl HT_ (Or.inl ⟨by rfl, ?_⟩) ?_ ?_ ?_
      rotate_left; · exact zqB
      rotate_left; · exact zqA
      refine zP 4 (some 165) #[zt, zt, zt, zf, zt, zf, zf, zf, zf, zf, zf, zf, zf] ?_ rfl rfl HT_ (Or.inl ⟨by rfl, ?_⟩) ?_ ?_ ?_
      rotate_left; · exact zqB
      rotate_left; · exact zqA
      refine zP 5 (some 166) #[zt, zt, zt, zf, zt, zt, zf, zf, zf, zf, zf, zf, zf] ?_ rfl rfl HT_ (Or.inl ⟨by rfl, ?_⟩) ?_ ?_ ?_
      rotate_left; · exact zqB
      rotate_left; · exact zqA
      refine zT 3 (some 164) #[zt, zt, zt, zt, zt, zt, zf, zf, zf, zf, zf, zf, zf] ?_ rfl rfl HT_ HW_ (Or.inl ⟨by rfl, ?_⟩) hHeld ?_ ?_ ?_
      rotate_left
      ·
       rintro w' ⟨s0, s1, s2, s3, s4, s5, s6, s7⟩
       go_simp
       with_reducible rfl
      rotate_left; · exact zqA
      refine zT 6 (some 167) #[zt, zt, zt, zt, zt, zt, zt, zf, zf, zf, zf, zf, zf] ?_ rfl rfl HT_ HW_ (Or.inl ⟨by rfl, ?_⟩) hHeld ?_ ?_ ?_
      rotate_left
      ·
       rintro w' ⟨s0, s1, s2, s3, s4, s5, s6, s7⟩
       go_simp
       with_reducible rfl
      rotate_left; · exact zqA
      refine one_ (i := 7) (N := some 168) #[zt, zt, zt, zt, zt, zt, zt, zt, zf, zf, zf, zf, zf] rfl rfl (one_of HT_.out (by kernel_rfl)) (by decide) (fun K hK => ?_)
      refine goes_ Try.func23 (by kernel_rfl) rfl #[.agg #[.int .i64 ((rd_T49 t791 x25_5).f0), .int .i64 ((rd_T49 t791 x25_5).f1), .int .i64 ((rd_T49 t791 x25_5).f2), .int .i64 ((rd_T49 t791 x25_5).f3)], .agg #[.int .i64 ((rd_T49 t791 0).f0), .int .i64 ((rd_T49 t791 0).f1), .int .i64 ((rd_T49 t791 0).f2), .int .i64 ((rd_T49 t791 0).f3)]] (by rfl) rfl rfl zq1 ?_
      with_reducible refine (impl_StormDistance.calls ((rd_T49 t791 x25_5).f0) ((rd_T49 t791 x25_5).f1) ((rd_T49 t791 x25_5).f2) ((rd_T49 t791 x25_5).f3) ((rd_T49 t791 0).f0) ((rd_T49 t791 0).f1) ((rd_T49 t791 0).f2) ((rd_T49 t791 0).f3) t806 true _ A51.out).mono ?_
      rintro e w62 ⟨rfl, hb⟩
      have HS0_ := (hb.cell (World.block_lt_of_cell? _ _ (hHeld.1))).trans (hHeld.1)
      have HS1_ := (hb.cell (World.block_lt_of_cell? _ _ (hHeld.2.1))).trans (hHeld.2.1)
      have HS2_ := (hb.cell (World.block_lt_of_cell? _ _ (hHeld.2.2.1))).trans (hHeld.2.2.1)
      have HS3_ := (hb.cell (World.block_lt_of_cell? _ _ (hHeld.2.2.2.1))).trans (hHeld.2.2.2.1)
      have HS4_ := (hb.cell (World.block_lt_of_cell? _ _ (hHeld.2.2.2.2.1))).trans (hHeld.2.2.2.2.1)
      have HS5_ := (hb.cell (World.block_lt_of_cell? _ _ (hHeld.2.2.2.2.2.1))).trans (hHeld.2.2.2.2.2.1)
      have HS6_ := (hb.cell (World.block_lt_of_cell? _ _ (hHeld.2.2.2.2.2.2.1))).trans (hHeld.2.2.2.2.2.2.1)
      have HS7_ := (hb.cell (World.block_lt_of_cell? _ _ (hHeld.2.2.2.2.2.2.2))).trans (hHeld.2.2.2.2.2.2.2)
      refine ⟨_, rfl, ?_⟩
      have n0_ := Aside0.mk (Kd.R_below (zqR HO_21.out) hb)
      have n1_ := Aside0.mk (Kd.Q_below (by (with_reducible repeat (first | apply Kd.Q_alloc | apply Kd.Q_drewN | apply Kd.Q_drew)); exact HO_791002.out) hb)
      have n2_ := Aside0.mk (blk_below (g := gb790) (o := .cells #[.int .i64 t784, .int .i64 t785, .slice Ao38 t786.length co38] 29 (0, 0)) (zqK BK790.out) hb)
      have n3_ := Aside0.mk (below_step zq23 hb)
      clear HO_21
      clear HO_791002
      clear BK790
      clear HB
      have HO_21 := n0_
      have HO_791002 := n1_
      have BK790 := n2_
      have HB := n3_
      clear n0_ n1_ n2_ n3_
      (try clear hb)
      (try clear hb2)
      (try clear hk)
      (try clear hi)
      refine hK.out _ _ ⟨HS0_, HS1_, HS2_, HS3_, HS4_, HS5_, HS6_, HS7_⟩ (fun hHeld => ?_)
      clear hK K
      refine norm_ (a' := ?_) ?_ ?_
      rotate_left
      ·
       show Act.put _ (some 168) _ = _
       simp only [Act.put, List.setIfInBounds_toArray, List.set_cons_zero, List.set_cons_succ, i64_w, i32_w]
       rfl
      refine zP 8 (some 160) #[zt, zt, zt, zt, zt, zt, zt, zt, zt, zf, zf, zf, zf] ?_ rfl rfl HT_ (Or.inl ⟨by rfl, ?_⟩) ?_ ?_ ?_
      rotate_left; · exact zqB
      rotate_left; · exact zqA
      refine zP 9 (some 169) #[zt, zt, zt, zt, zt, zt, zt, zt, zt, zt, zf, zf, zf] ?_ rfl rfl HT_ (Or.inl ⟨by rfl, ?_⟩) ?_ ?_ ?_
      rotate_left; · exact zqB
      rotate_left; · exact zqA
      refine zP 10 (some 170) #[zt, zt, zt, zt, zt, zt, zt, zt, zt, zt, zt, zf, zf] ?_ rfl rfl HT_ (Or.inl ⟨by rfl, ?_⟩) ?_ ?_ ?_
      rotate_left; · exact zqB
      rotate_left; · exact zqA
      refine zP 11 (some 28) #[zt, zt, zt, zt, zt, zt, zt, zt, zt, zt, zt, zt, zf] ?_ rfl rfl HT_ (Or.inl ⟨by rfl, ?_⟩) ?_ ?_ ?_
      rotate_left; · exact zqB
      rotate_left; · exact zqA
      refine zP 12 (some 29) #[zt, zt, zt, zt, zt, zt, zt, zt, zt, zt, zt, zt, zt] ?_ rfl rfl HT_ (Or.inl ⟨by rfl, ?_⟩) ?_ ?_ ?_
      rotate_left; · exact zqB
      rotate_left; · exact zqA
      refine done_ (done_of HT_.out (by kernel_rfl)) ?_
      have p808 : 0 ≤ (x25_5 : Int) := of_decide_eq_true zq2
      have q808 : x25_5 < (t791.length : Int) := of_decide_eq_true zq2
      obtain ⟨ad808, e808, hx808_0, hx808_1, hx808_2, hx808_3⟩ := at_T49 (Kd.R_reads' HO_21.out).2.2 x25_5 p808 q808
      obtain rfl : ad800 = ad808 := (by injection e808)
      replace p808 := eq_true p808
      replace q808 := eq_true q808
      try go_wp2
      go_roundg k5
      case measure => have := HJ6.out; have := HJ15.out; have := HJ21.out; have := HJ33.out; have := HK5.out; omega
      case rel => exact ⟨(wrap64 (x25_5 + 1)), (by first | rfl | (simp; done) | (simp [*]; done)), H', ⟨by have := HJ6.out; have := HJ15.out; have := HJ21.out; have := HJ33.out; have := HK5.out; omega⟩, ⟨zqR HO_21.out⟩, ⟨by (with_reducible repeat (first | apply Kd.Q_alloc | apply Kd.Q_drewN | apply Kd.Q_drew)); exact HO_791002.out⟩, ⟨by (with_reducible repeat (first | refine blk_drewN ?_ _ | refine blk_drew ?_ | refine blk_alloc ?_ _)); exact BK790.out⟩, ⟨zq23⟩⟩
end Go.Proofs.Ytpdeapefekbdpaa.Q
