-- Printed by a program of this session (wip/tools/seatprint.py) that runs over the kit's print.
import Derived.Test.YtnibkkfjgmfpnaaDoorQ0
import Derived.Test.YtnibkkfjgmfpnaaDoorQf23
import Derived.Test.YtnibkkfjgmfpnaaDoorQf30
namespace Go.Proofs.YtnibkkfjgmfpnaaDoor.Q
open Go.RowKit Go.Proofs.YtnibkkfjgmfpnaaDoorW.PrintWords Go.Proofs.YtnibkkfjgmfpnaaDoorW.PrintLast Go.Proofs.YtnibkkfjgmfpnaaDoorW.PrintMore
attribute [local go_sem] max2_int min2_int max_two min_two max_three min_three max_four min_four   -- for this text's walks alone
set_option linter.unusedVariables false
set_option linter.unusedSimpArgs false

-- NOT PRINTED: function 31 (strings_Builder_String)

/-! ### impl_OverviewText: function 12 -/
-- function 30, called
/-- The texts of the warnings, one behind the other. -/
def ovL : List S42 → ByteArray → Option ByteArray
 | [], s => some s
 | x :: r, s => (impl_warningText.f x.f0 x.f1 x.f2 x.f3 x.f4 x.f5).bind fun t => if s.size + (t.size + 1) ≤ 1000000 then ovL r (s ++ (t ++ (⟨#[10]⟩ : ByteArray))) else none
def impl_OverviewText.f (k : Nat) (l0 : List S42) : Option (ByteArray × Bool) := (impl_isOverview.f k l0).bind fun t => (if t = true then (if l0.length = 0 then some ((⟨#[78, 111, 32, 119, 97, 114, 110, 105, 110, 103, 115, 46, 10]⟩ : ByteArray), true) else (ovL l0 (⟨#[]⟩ : ByteArray)).bind fun s => some (s, true)) else some ((⟨#[]⟩ : ByteArray), false))
theorem impl_OverviewText.mono : ∀ a0 k, LeO (impl_OverviewText.f k a0) (impl_OverviewText.f (k + 1) a0) := fun a0 k => LeO.bind (impl_isOverview.mono a0 k) (fun _ => LeO.refl _)
theorem bytes_app (a b : ByteArray) : Lib.byteCells a.data.toList ++ Lib.strCells b = Lib.byteCells (a ++ b).data.toList := by
 rw [Lib.strCells_eq, ← Lib.byteCells_append]
 simp
theorem ba_eta (r : ByteArray) : (⟨r.data.toList.toArray⟩ : ByteArray) = r := by
 cases r
 simp
theorem ov_size (x : ByteArray) : (x ++ (⟨#[10]⟩ : ByteArray)).size = x.size + 1 := by rw [ByteArray.size_append]; rfl
theorem impl_OverviewText.write (b B : Nat) (bs : List Value) (s : ByteArray) (w : World) (h : Lib.IsBuilder 57 5 B b bs w) (hlen : bs.length + s.size ≤ 140737488355328) (hBw : B ≤ w.heap.size) :
  Calls Tryd.prog 29 #[.pointer (some ⟨b, 0, none⟩), .string s] w fun e w' => e = .returned (.tuple #[.int .i64 s.size, .nilIface]) ∧ (Lib.BuilderAt 57 5 B b (.pointer (some ⟨b, 0, none⟩)) (bs ++ Lib.strCells s) w' ∧ Below B w w') :=
 Any.Builder_WriteString (ρ := Tryd.lays156_ren) { Tryd.lays156 with } Tryd.Builder_Extra_156 B b bs s w h hlen hBw
theorem impl_OverviewText.str (b B : Nat) (l : List UInt8) (w : World) (h : Lib.IsBuilder 57 5 B b (Lib.byteCells l) w) (hBw : B ≤ w.heap.size) :
  Calls Tryd.prog 31 #[.pointer (some ⟨b, 0, none⟩)] w fun e w' => e = .returned (.string ⟨l.toArray⟩) ∧ Below B w w' :=
 Any.Builder_String_any (ρ := Tryd.lays156_ren) { Tryd.lays156 with } Tryd.Builder_Extra_156 B b l w h hBw
theorem bld_below {T e : TypeId} {B b : Nat} {bs : List Value} {w w' : World} (h : Lib.IsBuilder T e B b bs w) (hb : Below w.heap.size w w') : Lib.IsBuilder T e B b bs w' := by
 rcases h with ⟨h1, v, h2, h3, h4⟩ | ⟨h1, v, h2, h3, h4⟩
 ·
  exact .inl ⟨h1, v, blk_below h2 hb, pw_own_below h3 hb, h4⟩
 ·
  exact .inr ⟨h1, v, blk_below h2 hb, pw_own_below h3 hb, h4⟩
set_option maxHeartbeats 4000000 in
set_option maxRecDepth 100000 in
theorem impl_OverviewText.calls (k : Nat) (A0 : Option Addr) (c0 : Nat) (l0 : List S42) (r1 : ByteArray) (r2 : Bool) (w : World) (htL : TabL w) (htN : TabN w) (htO : TabO w) (hr0 : Kd.C k42 w A0 l0.length l0) (hc0 : l0.length ≤ c0) (h : impl_OverviewText.f k l0 = some (r1, r2)) :
  Calls Tryd.prog 12 #[.slice A0 l0.length c0] w fun e w' => e = .returned (.tuple #[.string r1, .bool r2]) ∧ Below w.heap.size w w' := by
 have hu := Tryd.underlying42
 have hub := Tryd.underlying57
 have HR0 := Aside0.mk hr0
 have HC0 := Aside0.mk hc0
 have HTL := Aside0.mk htL
 have HTN := Aside0.mk htN
 have HTO := Aside0.mk htO
 have hbig : l0.length ≤ 9223372036854775807 := hr0.2.1
 clear hr0 hc0 htL htN htO
 unfold impl_OverviewText.f at h
 obtain ⟨t, ht, h⟩ := Option.bind_eq_some_iff.1 h
 have HT := Aside0.mk ht
 clear ht
 cases t with
 | false =>
  rw [if_neg (by simp)] at h
  injection h with h
  injection h with h1 h2
  subst h1 h2
  go_enter Tryd.func12, Tryd.ntmps12
  go_wp2_with (go_at_call 23; (with_reducible refine (impl_isOverview.calls k A0 c0 l0 false _ HR0.out HC0.out HT.out).mono ?_); rintro e w1 ⟨rfl, hb⟩)
  go_ret2
  exact ⟨rfl, hb⟩
 | true =>
  rw [if_pos rfl] at h
  by_cases hz : l0.length = 0
  ·
   rw [if_pos hz] at h
   injection h with h
   injection h with h1 h2
   subst h1 h2
   have hz1 : decide ((l0.length : Int) = 0) = true := decide_eq_true (by omega)
   have hz2 : ((l0.length : Int) == 0) = true := by simpa using hz
   clear hz
   go_enter Tryd.func12, Tryd.ntmps12
   go_wp2_with (go_at_call 23; (with_reducible refine (impl_isOverview.calls k A0 c0 l0 true _ HR0.out HC0.out HT.out).mono ?_); rintro e w1 ⟨rfl, hb⟩)
   go_ret2
   exact ⟨rfl, hb⟩
  ·
   rw [if_neg hz] at h
   obtain ⟨s, hs, h⟩ := Option.bind_eq_some_iff.1 h
   injection h with h
   injection h with h1 h2
   subst h1 h2
   have HS := Aside0.mk hs
   clear hs
   have hz1 : decide ((l0.length : Int) = 0) = false := decide_eq_false (by omega)
   have hz2 : ((l0.length : Int) == 0) = false := by simpa using hz
   clear hz
   go_enter Tryd.func12, Tryd.ntmps12
   go_wp2_with (go_at_call 23; (with_reducible refine (impl_isOverview.calls k A0 c0 l0 true _ HR0.out HC0.out HT.out).mono ?_); rintro e w1 ⟨rfl, hb⟩; have HB1 := Aside0.mk hb; clear hb)
   have HF := Aside0.mk (Lib.fresh_isBuilder 57 5 w1)
   go_loopg [15, 6, 16, 17, 18, 19, 20, 21, 22, 23] l0.length (fun gg s15 _ _ _ _ _ _ _ _ _ wr => ∃ (kk : Nat) (x : ByteArray), kk ≤ l0.length ∧ l0.length - kk ≤ gg ∧ s15 = .int .i64 kk ∧ Aside0 (Below w.heap.size w wr) ∧ Aside0 (w1.heap.size ≤ wr.heap.size) ∧ Aside0 (Lib.IsBuilder 57 5 w1.heap.size w1.heap.size (Lib.byteCells x.data.toList) wr) ∧ Aside0 (ovL (l0.drop kk) x = some s))
   case atStart => exact ⟨0, ⟨#[]⟩, Nat.zero_le _, by omega, rfl, ⟨below_alloc HB1.out _⟩, ⟨by simp⟩, HF, HS⟩
   case round =>
    clear HF HS
    obtain ⟨kk, x, hkk, hg, rfl, BW, HM, HI, HO⟩ := hrel
    by_cases hlt : kk < l0.length
    ·
     have hltz : (kk : Int) < (l0.length : Int) := by omega
     obtain ⟨ad, e0, hx0, hx1, hx2, hx3, hx4, hx5⟩ := at_T42 HR0.out (kk : Int) (by omega) hltz
     cases e0
     rw [show rd_T42 l0 (kk : Int) = l0.getD kk z42 from rfl, Int.toNat_natCast] at hx0 hx1 hx2 hx3 hx4 hx5
     have hO := HO.out
     rw [List.drop_eq_getElem_cons hlt, ← Gen.getD_lt l0 z42 kk hlt] at hO
     clear HO
     generalize hy : l0.getD kk z42 = y at hx0 hx1 hx2 hx3 hx4 hx5 hO
     clear hy
     unfold ovL at hO
     obtain ⟨t, ht, hO⟩ := Option.bind_eq_some_iff.1 hO
     split at hO
     ·
      rename_i hsz
      have HW := Aside0.mk ht
      have HO := Aside0.mk hO
      have HZ := Aside0.mk hsz
      clear ht hO
      replace hx0 := (BW.out.cell (World.block_lt_of_cell? w _ hx0)).trans hx0
      replace hx1 := (BW.out.cell (World.block_lt_of_cell? w _ hx1)).trans hx1
      replace hx2 := (BW.out.cell (World.block_lt_of_cell? w _ hx2)).trans hx2
      replace hx3 := (BW.out.cell (World.block_lt_of_cell? w _ hx3)).trans hx3
      replace hx4 := (BW.out.cell (World.block_lt_of_cell? w _ hx4)).trans hx4
      replace hx5 := (BW.out.cell (World.block_lt_of_cell? w _ hx5)).trans hx5
      have hts : t.size + 1 ≤ 9223372036854775807 := by omega
      have hts2 : (9223372036854775807 < t.size + 1) = False := eq_false (by omega)
      clear hsz
      go_wp2_with fail
      refine (impl_warningText.calls y.f0 y.f1 y.f2 y.f3 y.f4 y.f5 t _ (HTL.out.below (below_alloc BW.out _)) (HTN.out.below (below_alloc BW.out _)) (HTO.out.below (below_alloc BW.out _)) HW.out).mono ?_
      rintro e w2 ⟨rfl, hb2⟩
      have HB2 := Aside0.mk (below_step (below_alloc BW.out _) hb2)
      have HM2 := Aside0.mk (show w1.heap.size ≤ w2.heap.size from Nat.le_trans HM.out (Nat.le_trans (by simp) hb2.size))
      have HI2 := Aside0.mk (bld_below (bld_below HI.out (below_alloc (Below.refl _ _) _)) hb2)
      clear hb2
      go_wp2_with fail
      refine (impl_OverviewText.write w1.heap.size w1.heap.size (Lib.byteCells x.data.toList) (t ++ (⟨#[10]⟩ : ByteArray)) w2 HI2.out ?hL HM2.out).mono ?_
      case hL => rw [Lib.byteCells_length, ov_size]; have := HZ.out; show x.size + (t.size + 1) ≤ _; omega
      rintro e w3 ⟨rfl, h3, hb3⟩
      rw [bytes_app] at h3
      have H3 := Aside0.mk h3
      have HB3 := Aside0.mk hb3
      clear h3 hb3
      go_wp2
      go_roundg (l0.length - (kk + 1))
      case measure => omega
      case rel => exact ⟨kk + 1, x ++ (t ++ (⟨#[10]⟩ : ByteArray)), by omega, by omega, by go_num, ⟨below_weaken HB2.out HB1.out.size HB3.out⟩, ⟨Nat.le_trans HM2.out HB3.out.size⟩, ⟨.inr H3.out⟩, HO⟩
     ·
      cases hO
    ·
     have hltz : ¬ (kk : Int) < (l0.length : Int) := by omega
     have : kk = l0.length := by omega
     subst this
     have e : x = s := by have := HO.out; rw [List.drop_length] at this; exact Option.some.inj this
     subst e
     go_wp2_with fail
     refine (impl_OverviewText.str w1.heap.size w1.heap.size x.data.toList wr HI.out HM.out).mono ?_
     rintro e w3 ⟨rfl, h3⟩
     go_wp2
     go_ret2
     exact ⟨congrArg (fun b => Ending.returned (.tuple #[.string b, .bool true])) (ba_eta x), below_weaken BW.out HB1.out.size h3⟩

end Go.Proofs.YtnibkkfjgmfpnaaDoor.Q
