-- Printed by a program of this session (wip/tools/seatprint.py) that runs over the kit's print.
import Derived.Test.YtnibkkfjgmfpnaaDoorQ0
import Derived.Test.YtnibkkfjgmfpnaaDoorQf23
import Derived.Test.YtnibkkfjgmfpnaaDoorQf30
namespace Go.Proofs.YtnibkkfjgmfpnaaDoor.Q
open Go.RowKit Go.Proofs.YtnibkkfjgmfpnaaDoorW.PrintWords Go.Proofs.YtnibkkfjgmfpnaaDoorW.PrintLast Go.Proofs.YtnibkkfjgmfpnaaDoorW.PrintMore
attribute [local go_sem] max2_int min2_int max_two min_two max_three min_three max_four min_four   -- for this text's walks alone
set_option linter.unusedVariables false
set_option linter.unusedSimpArgs false

/-! ### impl_HeadlineOf: function 9 -/
-- function 23, 26, 24, called
def impl_HeadlineOf.c.T19 : Bool × List (List Nat × List Nat) := (true, [([], []), ([0], [0]), ([1], [1]), ([2], [2]), ([], []), ([4], [4]), ([3, 5], [3, 5]), ([6, 5, 0, 1, 2, 3, 4, 5, 6], [6]), ([7, 0, 1, 2, 3, 4, 5, 6, 7], [])])
def impl_HeadlineOf.c.B19 : List Nat := [0, 1, 3, 7, 0, 16, 63, 127, 255]
theorem impl_HeadlineOf.c.tab19 : rtab .any (opsOf Tryd.f9 19) = impl_HeadlineOf.c.T19 := by kernel_rfl
theorem impl_HeadlineOf.c.bits19 : waitsOk impl_HeadlineOf.c.T19.2 impl_HeadlineOf.c.B19 = true := by kernel_rfl
/-- Does a warning bear a level and a topic? -/
def hitT (m t : Int) (x : S42) : Bool := decide (x.f2 = m) && decide (x.f1 = t)
/-- The greatest level of the first n warnings. -/
def lvN (l : List S42) : Nat → Int
 | 0 => 0
 | n + 1 => if lvN l n < (l.getD n z42).f2 then (l.getD n z42).f2 else lvN l n
/-- The words of the first n topics of a level. -/
def wordsN (l : List S42) (m : Int) : Nat → List ByteArray
 | 0 => []
 | n + 1 => if l.any (hitT m ((n + 1 : Nat) : Int)) = true then wordsN l m n ++ [wordS topicT ((n + 1 : Nat) : Int)] else wordsN l m n
theorem wordsN_len (l : List S42) (m : Int) : ∀ n, (wordsN l m n).length ≤ n
 | 0 => Nat.le_refl _
 | n + 1 => by
  have := wordsN_len l m n
  unfold wordsN
  split
  ·
   rw [List.length_append]; simp; omega
  ·
   omega
def impl_HeadlineOf.f (k : Nat) (l0 : List S42) : Option (ByteArray × Bool) := (impl_isOverview.f k l0).bind fun t => (if t = true then (if l0.length = 0 then some ((⟨#[78, 111, 32, 119, 97, 114, 110, 105, 110, 103, 115]⟩ : ByteArray), true) else (if 0 ≤ lvN l0 l0.length ∧ lvN l0 l0.length < 4 then (strings_Join.f (wordsN l0 (lvN l0 l0.length) 5) (⟨#[44, 32]⟩ : ByteArray)).bind fun s => (if s.size ≤ 1000000 then some (((wordS levelT (lvN l0 l0.length)) ++ (⟨#[32, 119, 97, 114, 110, 105, 110, 103, 115, 58, 32]⟩ : ByteArray)) ++ s, true) else none) else none)) else some ((⟨#[]⟩ : ByteArray), false))
theorem impl_HeadlineOf.mono : ∀ a0 k, LeO (impl_HeadlineOf.f k a0) (impl_HeadlineOf.f (k + 1) a0) := fun a0 k => LeO.bind (impl_isOverview.mono a0 k) (fun _ => LeO.refl _)
set_option maxRecDepth 100000 in
/-- The function that HeadlineOf hands on: it asks whether a warning bears the level in block B and the topic in block C. -/
theorem impl_HeadlineOf.pred (B C : Nat) (m t : Int) (w : World) (hB : w.heap[B]? = some (.cells #[.int .i64 m] 3 (0, 0))) (hC : w.heap[C]? = some (.cells #[.int .i64 t] 3 (0, 0))) :
  ∀ (W : World) (x : S42), Below w.heap.size w W → Calls Tryd.prog 25 (#[.agg #[.int .i64 x.f0, .int .i64 x.f1, .int .i64 x.f2, .int .i64 x.f3, .int .i64 x.f4, .int .i64 x.f5]] ++ #[.pointer (some ⟨B, 0, none⟩), .pointer (some ⟨C, 0, none⟩)]) W fun e w' => e = .returned (.bool (hitT m t x)) ∧ Below W.heap.size W w' := by
 intro W x hb
 have hBW := blk_below hB hb
 have hCW := blk_below hC hb
 have h0 : W.cell? ⟨B, 0, none⟩ = some (.int .i64 m) := (blk_cell hBW 0).trans rfl
 have h1 : W.cell? ⟨C, 0, none⟩ = some (.int .i64 t) := (blk_cell hCW 0).trans rfl
 have h2 : ∀ o, (W.alloc o).cell? ⟨B, 0, none⟩ = some (.int .i64 m) := fun o => (blk_cell (blk_alloc hBW o) 0).trans rfl
 have h3 : ∀ o, (W.alloc o).cell? ⟨C, 0, none⟩ = some (.int .i64 t) := fun o => (blk_cell (blk_alloc hCW o) 0).trans rfl
 have hn0 : B ≠ W.heap.size := Nat.ne_of_lt (blk_lt hBW)
 have hn1 : C ≠ W.heap.size := Nat.ne_of_lt (blk_lt hCW)
 have hu := Tryd.underlying42
 clear hBW hCW hB hC hb
 show Calls Tryd.prog 25 #[.agg #[.int .i64 x.f0, .int .i64 x.f1, .int .i64 x.f2, .int .i64 x.f3, .int .i64 x.f4, .int .i64 x.f5], .pointer (some ⟨B, 0, none⟩), .pointer (some ⟨C, 0, none⟩)] W _
 unfold hitT
 by_cases c : x.f2 = m
 ·
  have c1 : decide (x.f2 = m) = true := decide_eq_true c
  have c2 : (x.f2 == m) = true := by simpa using c
  clear c
  go_enter Tryd.func25, Tryd.ntmps25
  go_wp2
  go_ret
  exact ⟨by first | rfl | (simp [c1]; done) | (simp [c1] <;> rfl), by first | exact (Below.refl _ W).alloc (Nat.le_refl _) _ | exact ((Below.refl _ W).alloc (Nat.le_refl _) _).drewN _⟩
 ·
  have c1 : decide (x.f2 = m) = false := decide_eq_false c
  have c2 : (x.f2 == m) = false := by simpa using c
  clear c
  go_enter Tryd.func25, Tryd.ntmps25
  go_wp2
  go_ret
  exact ⟨by first | rfl | (simp [c1]; done) | (simp [c1] <;> rfl), by first | exact (Below.refl _ W).alloc (Nat.le_refl _) _ | exact ((Below.refl _ W).alloc (Nat.le_refl _) _).drewN _⟩
set_option maxHeartbeats 4000000 in
set_option maxRecDepth 100000 in
theorem impl_HeadlineOf.calls (k : Nat) (A0 : Option Addr) (c0 : Nat) (l0 : List S42) (r1 : ByteArray) (r2 : Bool) (w : World) (htL : TabL w) (htO : TabO w) (hr0 : Kd.C k42 w A0 l0.length l0) (hc0 : l0.length ≤ c0) (h : impl_HeadlineOf.f k l0 = some (r1, r2)) :
  Calls Tryd.prog 9 #[.slice A0 l0.length c0] w fun e w' => e = .returned (.tuple #[.string r1, .bool r2]) ∧ Below w.heap.size w w' := by
 have hu := Tryd.underlying42
 have HR0 := Aside0.mk hr0
 have HC0 := Aside0.mk hc0
 have HTL := Aside0.mk htL
 have HTO := Aside0.mk htO
 have hbig : l0.length ≤ 9223372036854775807 := hr0.2.1
 have eg : ∀ args w, (callFunc 25 args).run Tryd.prog w = .ok (.enter 25 args) w := enters_of Tryd.func25 (by kernel_rfl) rfl
 have EG := Aside0.mk eg
 clear hr0 hc0 htL htO eg
 unfold impl_HeadlineOf.f at h
 obtain ⟨t, ht, h⟩ := Option.bind_eq_some_iff.1 h
 have HT := Aside0.mk ht
 clear ht
 cases t with
 | false =>
  rw [if_neg (by simp)] at h
  injection h with h
  injection h with h1 h2
  subst h1 h2
  go_enter Tryd.func9, Tryd.ntmps9
  go_wp2_with (go_at_call 23; (with_reducible refine (impl_isOverview.calls k A0 c0 l0 false _ HR0.out HC0.out HT.out).mono ?_); rintro e w1 ⟨rfl, hb⟩)
  go_ret2
  exact ⟨rfl, hb⟩
 | true =>
  rw [if_pos rfl] at h
  by_cases hz : l0.length = 0
  ·
   rw [if_pos hz] at h
   injection h with h
   injection h with h1 h2
   subst h1 h2
   have hz1 : decide ((l0.length : Int) = 0) = true := decide_eq_true (by omega)
   have hz2 : ((l0.length : Int) == 0) = true := by simpa using hz
   clear hz
   go_enter Tryd.func9, Tryd.ntmps9
   go_wp2_with (go_at_call 23; (with_reducible refine (impl_isOverview.calls k A0 c0 l0 true _ HR0.out HC0.out HT.out).mono ?_); rintro e w1 ⟨rfl, hb⟩)
   go_ret2
   exact ⟨rfl, hb⟩
  ·
   rw [if_neg hz] at h
   split at h
   ·
    rename_i hlv
    obtain ⟨s, hs, h⟩ := Option.bind_eq_some_iff.1 h
    split at h
    ·
     rename_i hsz
     injection h with h
     injection h with h1 h2
     subst h1 h2
     have HS := Aside0.mk hs
     have HZ := Aside0.mk hsz
     have HLV := Aside0.mk hlv
     clear hs hsz hlv
     have hz1 : decide ((l0.length : Int) = 0) = false := decide_eq_false (by omega)
     have hz2 : ((l0.length : Int) == 0) = false := by simpa using hz
     have HZ0 := Aside0.mk hz
     clear hz
     go_enter Tryd.func9, Tryd.ntmps9
     go_wp2_with (go_at_call 23; (with_reducible refine (impl_isOverview.calls k A0 c0 l0 true _ HR0.out HC0.out HT.out).mono ?_); rintro e w1 ⟨rfl, hb⟩; have HB1 := Aside0.mk hb; clear hb)
     go_loopg [17, 6, 18, 19, 20, 21, 22, 23, 24, 25] l0.length (fun gg s17 _ _ _ _ _ _ _ _ _ wr => ∃ kk : Nat, kk ≤ l0.length ∧ l0.length - kk ≤ gg ∧ s17 = .int .i64 kk ∧ Aside0 (Below w.heap.size w wr) ∧ Aside0 (wr.heap[w1.heap.size]? = some (.cells #[.int .i64 (lvN l0 kk)] 3 (0, 0))))
     case atStart => exact ⟨0, Nat.zero_le _, by omega, rfl, ⟨below_alloc HB1.out _⟩, ⟨blk_new w1 _⟩⟩
     case round =>
      obtain ⟨kk, hkk, hg, rfl, BW, HL⟩ := hrel
      have hl0 : wr.cell? ⟨w1.heap.size, 0, none⟩ = some (.int .i64 (lvN l0 kk)) := (blk_cell HL.out 0).trans rfl
      have hf0 : wr.frozen? ⟨w1.heap.size, 0, none⟩ = false := blk_frozen HL.out 0
      have hne : w1.heap.size ≠ wr.heap.size := Nat.ne_of_lt (blk_lt HL.out)
      have hl1 : ∀ o, (wr.alloc o).cell? ⟨w1.heap.size, 0, none⟩ = some (.int .i64 (lvN l0 kk)) := fun o => (blk_cell (blk_alloc HL.out o) 0).trans rfl
      have hf1 : ∀ o, (wr.alloc o).frozen? ⟨w1.heap.size, 0, none⟩ = false := fun o => blk_frozen (blk_alloc HL.out o) 0
      by_cases hlt : kk < l0.length
      ·
       have hltz : (kk : Int) < (l0.length : Int) := by omega
       obtain ⟨ad, e0, hx0, hx1, hx2, hx3, hx4, hx5⟩ := at_T42 HR0.out (kk : Int) (by omega) hltz
       cases e0
       rw [show rd_T42 l0 (kk : Int) = l0.getD kk z42 from rfl, Int.toNat_natCast] at hx0 hx1 hx2 hx3 hx4 hx5
       have hlv : lvN l0 (kk + 1) = (if lvN l0 kk < (l0.getD kk z42).f2 then (l0.getD kk z42).f2 else lvN l0 kk) := rfl
       generalize hy : l0.getD kk z42 = y at hx0 hx1 hx2 hx3 hx4 hx5 hlv
       clear hy
       have HLN := Aside0.mk hlv
       clear hlv
       replace hx0 := (BW.out.cell (World.block_lt_of_cell? w _ hx0)).trans hx0
       replace hx1 := (BW.out.cell (World.block_lt_of_cell? w _ hx1)).trans hx1
       replace hx2 := (BW.out.cell (World.block_lt_of_cell? w _ hx2)).trans hx2
       replace hx3 := (BW.out.cell (World.block_lt_of_cell? w _ hx3)).trans hx3
       replace hx4 := (BW.out.cell (World.block_lt_of_cell? w _ hx4)).trans hx4
       replace hx5 := (BW.out.cell (World.block_lt_of_cell? w _ hx5)).trans hx5
       by_cases hmx : lvN l0 kk < y.f2
       ·
        have HN : lvN l0 (kk + 1) = y.f2 := HLN.out.trans (if_pos hmx)
        replace hmx := eq_true hmx
        go_wp2
        go_roundg (l0.length - (kk + 1))
        case measure => omega
        case rel => exact ⟨kk + 1, by omega, by omega, by go_num, ⟨below_set (below_alloc BW.out _) HB1.out.size⟩, ⟨by rw [HN]; exact blk_put (blk_alloc HL.out _) 0 _ rfl⟩⟩
       ·
        have HN : lvN l0 (kk + 1) = lvN l0 kk := HLN.out.trans (if_neg hmx)
        replace hmx := eq_false hmx
        go_wp2
        go_roundg (l0.length - (kk + 1))
        case measure => omega
        case rel => exact ⟨kk + 1, by omega, by omega, by go_num, ⟨below_set (below_alloc BW.out _) HB1.out.size⟩, ⟨by rw [HN]; exact blk_put (blk_alloc HL.out _) 0 _ rfl⟩⟩
      ·
       have hltz : ¬ (kk : Int) < (l0.length : Int) := by omega
       have : kk = l0.length := by omega
       subst this
       clear hl0 hf0 hne hl1 hf1 hltz
       go_wp2
       go_loopg [8, 7, 26, 27, 28, 29, 30, 31, 32, 33, 34, 35, 36, 37, 38, 39] 6 (fun gg s8 s7 _ _ _ _ _ _ _ _ _ _ _ _ _ _ wz => ∃ t gT : Nat, t ≤ 5 ∧ 5 - t ≤ gg ∧ s8 = .pointer (some ⟨gT, 0, none⟩) ∧ Aside0 (Below w.heap.size w wz) ∧ Aside0 (w.heap.size ≤ gT) ∧ Aside0 (wz.heap[w1.heap.size]? = some (.cells #[.int .i64 (lvN l0 l0.length)] 3 (0, 0))) ∧ Aside0 (wz.heap[gT]? = some (.cells #[.int .i64 ((t : Int) + 1)] 3 (0, 0))) ∧ Aside0 (gT ≠ w1.heap.size) ∧ Aside0 (Kd.R Kd.string 9 wz w.heap.size (fun _ => True) s7 (wordsN l0 (lvN l0 l0.length) t)))
       case atStart => exact ⟨0, wr.heap.size, Nat.zero_le _, by omega, rfl, ⟨below_alloc BW.out _⟩, ⟨BW.out.size⟩, ⟨blk_alloc HL.out _⟩, ⟨blk_new wr _⟩, ⟨fun e => absurd (blk_lt HL.out) (by omega)⟩, ⟨Kd.R_nil _ _ _ _ _⟩⟩
       case round =>
        clear BW HL
        obtain ⟨t, gT, ht5, hg, rfl, BW, GT, HL, HT2, HNE, HW⟩ := hrel
        have hT0 : wr.cell? ⟨gT, 0, none⟩ = some (.int .i64 ((t : Int) + 1)) := (blk_cell HT2.out 0).trans rfl
        by_cases hlt : t < 5
        ·
         have hle : ((t : Int) + 1 ≤ 5) = True := eq_true (by omega)
         have hle2 : decide ((t : Int) + 1 ≤ 5) = true := decide_eq_true (by omega)
         go_wp2_with fail
         refine (ContainsFuncW.calls 25 #[.pointer (some ⟨w1.heap.size, 0, none⟩), .pointer (some ⟨gT, 0, none⟩)] (hitT (lvN l0 l0.length) ((t : Int) + 1)) EG.out A0 l0.length c0 l0 _ rfl ?hr1 HC0.out ?hp1).mono ?_
         case hr1 => exact Kd.C_below HR0.out BW.out
         case hp1 => exact impl_HeadlineOf.pred _ _ _ _ _ HL.out HT2.out
         rintro e w2 ⟨rfl, hb2⟩
         have HB2 := Aside0.mk (below_step BW.out hb2)
         have HL2 := Aside0.mk (blk_below HL.out hb2)
         have HT3 := Aside0.mk (blk_below HT2.out hb2)
         have HW2 := Aside0.mk (Kd.R_below HW.out hb2)
         clear hb2 hT0 hle hle2
         cases hq : l0.any (hitT (lvN l0 l0.length) ((t : Int) + 1)) with
         | true =>
          have HWN := Aside0.mk (show wordsN l0 (lvN l0 l0.length) (t + 1) = wordsN l0 (lvN l0 l0.length) t ++ [wordS topicT ((t : Int) + 1)] from if_pos hq)
          clear hq
          have hT4 : w2.cell? ⟨gT, 0, none⟩ = some (.int .i64 ((t : Int) + 1)) := (blk_cell HT3.out 0).trans rfl
          have hO : w2.cell? ⟨0, ((t : Int) + 1).toNat, none⟩ = some (.string (wordS topicT ((t : Int) + 1))) := strTab_cell (HTO.out.below HB2.out) (by kernel_rfl) ((t : Int) + 1) (by show ((t : Int) + 1).toNat < 6; omega)
          rw [show ((t : Int) + 1).toNat = t + 1 from by omega] at hO
          have b1 : (0 ≤ (t : Int) + 1) = True := eq_true (by omega)
          have b2 : ((t : Int) + 1 < 6) = True := eq_true (by omega)
          have d1 : decide (0 ≤ (t : Int) + 1) = true := decide_eq_true (by omega)
          have d2 : decide ((t : Int) + 1 < 6) = true := decide_eq_true (by omega)
          have hv0 := Tryd.underlying49
          generalize hws : wordS topicT ((t : Int) + 1) = WS at hO HWN
          clear hws
          have hn0 : some w1.heap.size ≠ u7.ownBlock := by obtain ⟨inner, ho⟩ := Kd.R_own HW2.out; exact own_ne ho HL2.out (by decide)
          have hnT : some gT ≠ u7.ownBlock := by obtain ⟨inner, ho⟩ := Kd.R_own HW2.out; exact own_ne ho HT3.out (by decide)
          have HN0 := Aside0.mk hn0
          have HNT := Aside0.mk hnT
          clear hn0 hnT
          go_wp2_with ((with_reducible refine gate_dst (N := 38) rfl ?_); refine Kd.R_append Kd.string (w0 := w) w.heap.size rfl (.tmp 33) (.tmp 37) 43 9 (.string ⟨#[]⟩) 16 rfl Tryd.underlying43 info9 rfl (by decide) (by omega) u7 (wordsN l0 (lvN l0 l0.length) t) WS [.string WS] (fun _ => True) (fun _ => False) rfl rfl ?aP (fun _ hk => hk.elim) ?aF ?aO ?aB ?aS ?aL ?_; (case aP => exact rfl); (case aB => exact HB2.out); (case aF => exact fun _ _ => trivial); (case aO => exact HW2.out); (case aS => exact below_size HB2.out); (case aL => have := wordsN_len l0 (lvN l0 l0.length) t; omega); intro v3 w3 ho hb hg hat; have HW3 := Aside0.mk ho; have HB3 := Aside0.mk hb; have HL3 := Aside0.mk (blk_grown HL2.out hg HN0.out); have HT5 := Aside0.mk (blk_grown HT3.out hg HNT.out); have hT3 : w3.cell? ⟨gT, 0, none⟩ = some (.int .i64 ((t : Int) + 1)) := (blk_cell HT5.out 0).trans rfl; clear ho hb hg hat)
          go_roundg (5 - (t + 1))
          case measure => omega
          case rel =>
           refine ⟨t + 1, w3.heap.size, by omega, by omega, rfl, ⟨below_alloc HB3.out _⟩, ⟨below_size HB3.out⟩, ⟨blk_alloc HL3.out _⟩, ⟨by rw [show ((t + 1 : Nat) : Int) = (t : Int) + 1 from by omega]; exact blk_new _ _⟩, ⟨fun e => absurd (blk_lt HL3.out) (by omega)⟩, ⟨?_⟩⟩
           rw [HWN.out]
           exact Kd.R_alloc HW3.out _
         | false =>
          have HWN := Aside0.mk (show wordsN l0 (lvN l0 l0.length) (t + 1) = wordsN l0 (lvN l0 l0.length) t from if_neg (by rw [show ((t + 1 : Nat) : Int) = (t : Int) + 1 from by omega, hq]; simp))
          clear hq
          have hT3 : w2.cell? ⟨gT, 0, none⟩ = some (.int .i64 ((t : Int) + 1)) := (blk_cell HT3.out 0).trans rfl
          go_wp2
          go_roundg (5 - (t + 1))
          case measure => omega
          case rel =>
           refine ⟨t + 1, w2.heap.size, by omega, by omega, rfl, ⟨below_alloc HB2.out _⟩, ⟨below_size HB2.out⟩, ⟨blk_alloc HL2.out _⟩, ⟨by rw [show ((t + 1 : Nat) : Int) = (t : Int) + 1 from by omega]; exact blk_new _ _⟩, ⟨fun e => absurd (blk_lt HL2.out) (by omega)⟩, ⟨?_⟩⟩
           rw [HWN.out]
           exact Kd.R_alloc HW2.out _
        ·
         have hle : ((t : Int) + 1 ≤ 5) = False := eq_false (by omega)
         have hle2 : decide ((t : Int) + 1 ≤ 5) = false := decide_eq_false (by omega)
         have : t = 5 := by omega
         subst this
         obtain ⟨Ao, co, eo⟩ := Kd.R_slice HW.out
         subst eo
         have c0_ : wr.cell? ⟨w1.heap.size, 0, none⟩ = some (.int .i64 (lvN l0 l0.length)) := (blk_cell HL.out 0).trans rfl
         have hL : wr.cell? ⟨1, (lvN l0 l0.length).toNat, none⟩ = some (.string (wordS levelT (lvN l0 l0.length))) := strTab_cell (HTL.out.below BW.out) (by kernel_rfl) (lvN l0 l0.length) (by show (lvN l0 l0.length).toNat < 4; have := HLV.out; omega)
         have hLs := wordL_size (lvN l0 l0.length)
         have hZ := HZ.out
         generalize hLw : wordS levelT (lvN l0 l0.length) = L at hL hLs
         have HLW := Aside0.mk hLw
         clear hLw
         have z1 : (9223372036854775807 < L.size + 11) = False := eq_false (by omega)
         have z2 : (9223372036854775807 < L.size + 11 + s.size) = False := eq_false (by omega)
         have b1 : (0 ≤ lvN l0 l0.length) = True := eq_true HLV.out.1
         have b2 : (lvN l0 l0.length < 4) = True := eq_true HLV.out.2
         have d1 : decide (0 ≤ lvN l0 l0.length) = true := decide_eq_true HLV.out.1
         have d2 : decide (lvN l0 l0.length < 4) = true := decide_eq_true HLV.out.2
         have hv1 := Tryd.underlying50
         have HB := Aside0.mk BW.out.drew
         have HWd := Aside0.mk (Kd.R_drew HW.out)
         clear hLs hZ
         go_wp2_with fail
         refine start_ (n := 9) (S := fun w' => w'.cell? ⟨w1.heap.size, 0, none⟩ = some (.int .i64 (lvN l0 l0.length)) ∧ w'.cell? ⟨1, (lvN l0 l0.length).toNat, none⟩ = some (.string L)) (ds := []) #[false, false, false, false, false, false, false, false, false] (by kernel_rfl) rfl rfl ⟨(cell_drew6 c0_), (cell_drew6 hL)⟩ (fun hHeld => ?_)
         refine with_tabW impl_HeadlineOf.c.tab19 impl_HeadlineOf.c.bits19 (fun HT_ HW_ => ?_)
         generalize wr.drew = w1 at HB HWd hHeld ⊢
         refine pure_ (i := 4) (N := some 44) (v := ?_) (a' := ?_) #[false, false, false, false, true, false, false, false, false] rfl rfl (any_of HT_.out (by kernel_rfl)) (fun _ _ _ h => h) (Or.inl ⟨by rfl, ?_⟩) ?_ ?_
         rotate_left
         ·
          intro w'
          go_simp
          with_reducible rfl
         rotate_left
         ·
          simp only [Act.put, List.setIfInBounds_toArray, List.set_cons_zero, List.set_cons_succ, i64_w, i32_w]
          rfl
         refine take_ (i := 0) (N := some 40) (v := ?_) (a' := ?_) #[true, false, false, false, true, false, false, false, false] rfl rfl (take_ofW HT_.out HW_.out (by kernel_rfl)) (fun _ _ _ h => h) (Or.inl ⟨by rfl, ?_⟩) hHeld ?_ ?_
         rotate_left
         ·
          rintro w' ⟨s0, s1⟩
          go_simp
          with_reducible rfl
         rotate_left
         ·
          simp only [Act.put, List.setIfInBounds_toArray, List.set_cons_zero, List.set_cons_succ, i64_w, i32_w]
          rfl
         refine pure_ (i := 1) (N := some 41) (v := ?_) (a' := ?_) #[true, true, false, false, true, false, false, false, false] rfl rfl (any_of HT_.out (by kernel_rfl)) (fun _ _ _ h => h) (Or.inl ⟨by rfl, ?_⟩) ?_ ?_
         rotate_left
         ·
          intro w'
          go_simp
          with_reducible rfl
         rotate_left
         ·
          simp only [Act.put, List.setIfInBounds_toArray, List.set_cons_zero, List.set_cons_succ, i64_w, i32_w]
          rfl
         refine take_ (i := 2) (N := some 42) (v := ?_) (a' := ?_) #[true, true, true, false, true, false, false, false, false] rfl rfl (take_ofW HT_.out HW_.out (by kernel_rfl)) (fun _ _ _ h => h) (Or.inl ⟨by rfl, ?_⟩) hHeld ?_ ?_
         rotate_left
         ·
          rintro w' ⟨s0, s1⟩
          go_simp
          with_reducible rfl
         rotate_left
         ·
          simp only [Act.put, List.setIfInBounds_toArray, List.set_cons_zero, List.set_cons_succ, i64_w, i32_w]
          rfl
         refine pure_ (i := 3) (N := some 43) (v := ?_) (a' := ?_) #[true, true, true, true, true, false, false, false, false] rfl rfl (any_of HT_.out (by kernel_rfl)) (fun _ _ _ h => h) (Or.inl ⟨by rfl, ?_⟩) ?_ ?_
         rotate_left
         ·
          intro w'
          go_simp
          with_reducible rfl
         rotate_left
         ·
          simp only [Act.put, List.setIfInBounds_toArray, List.set_cons_zero, List.set_cons_succ, i64_w, i32_w]
          rfl
         refine one_ (i := 5) (N := some 45) #[true, true, true, true, true, true, false, false, false] rfl rfl (one_of HT_.out (by kernel_rfl)) (by decide) (fun K hK => ?_)
         refine goes_ Tryd.func26 (by kernel_rfl) rfl #[.slice Ao (wordsN l0 (lvN l0 l0.length) 5).length co, .string (⟨#[44, 32]⟩ : ByteArray)] (by rfl) rfl rfl (by (try simp only [List.map_toArray, List.map_cons, List.map_nil]); first | done | rfl) ?_
         refine (strings_Join.calls _ _ (wordsN l0 (lvN l0 l0.length) 5) (⟨#[44, 32]⟩ : ByteArray) s _ (Kd.R_reads' HWd.out).2.2 (Kd.R_reads' HWd.out).2.1 HS.out).mono ?_
         rintro e w2 ⟨rfl, hb⟩
         refine ⟨_, rfl, ?_⟩
         obtain ⟨s0, s1⟩ := hHeld
         have HB_ := Aside0.mk (HB.out.trans (hb.mono HB.out.size))
         clear HB
         have HB := HB_
         clear HB_
         refine hK.out _ _ ⟨(hb.cell (World.block_lt_of_cell? _ _ s0)).trans s0, (hb.cell (World.block_lt_of_cell? _ _ s1)).trans s1⟩ (fun hHeld => ?_)
         clear hK K hb s0 s1
         refine norm_ (a' := ?_) ?_ ?_
         rotate_left
         ·
          show Act.put _ (some 45) _ = _
          simp only [Act.put, List.setIfInBounds_toArray, List.set_cons_zero, List.set_cons_succ, i64_w, i32_w]
          rfl
         refine pure_ (i := 6) (N := some 46) (v := ?_) (a' := ?_) #[true, true, true, true, true, true, true, false, false] rfl rfl (any_of HT_.out (by kernel_rfl)) (fun _ _ _ h => h) (Or.inl ⟨by rfl, ?_⟩) ?_ ?_
         rotate_left
         ·
          intro w'
          go_simp
          with_reducible rfl
         rotate_left
         ·
          simp only [Act.put, List.setIfInBounds_toArray, List.set_cons_zero, List.set_cons_succ, i64_w, i32_w]
          rfl
         refine pure_ (i := 7) (N := some 2) (v := ?_) (a' := ?_) #[true, true, true, true, true, true, true, true, false] rfl rfl (any_of HT_.out (by kernel_rfl)) (fun _ _ _ h => h) (Or.inl ⟨by rfl, ?_⟩) ?_ ?_
         rotate_left
         ·
          intro w'
          go_simp
          with_reducible rfl
         rotate_left
         ·
          simp only [Act.put, List.setIfInBounds_toArray, List.set_cons_zero, List.set_cons_succ, i64_w, i32_w]
          rfl
         refine pure_ (i := 8) (N := some 3) (v := ?_) (a' := ?_) #[true, true, true, true, true, true, true, true, true] rfl rfl (any_of HT_.out (by kernel_rfl)) (fun _ _ _ h => h) (Or.inl ⟨by rfl, ?_⟩) ?_ ?_
         rotate_left
         ·
          intro w'
          go_simp
          with_reducible rfl
         rotate_left
         ·
          simp only [Act.put, List.setIfInBounds_toArray, List.set_cons_zero, List.set_cons_succ, i64_w, i32_w]
          rfl
         refine done_ (done_of HT_.out (by kernel_rfl)) ?_
         go_wp2
         go_ret2
         have e := HLW.out
         subst e
         exact ⟨rfl, HB.out⟩
    ·
     cases h
   ·
    cases h

end Go.Proofs.YtnibkkfjgmfpnaaDoor.Q
