-- Printed by a program of this session (wip/tools/seatprint.py) that runs over the kit's print.
import Derived.Test.YtfemneoahkglmaaQ0
namespace Go.Proofs.Ytfemneoahkglmaa.Q
open Go.RowKit Go.Proofs.YtfemneoahkglmaaW.PrintWords Go.Proofs.YtfemneoahkglmaaW.PrintLast Go.Proofs.YtfemneoahkglmaaW.PrintMore
attribute [local go_sem] max2_int min2_int max_two min_two max_three min_three max_four min_four   -- for this text's walks alone
set_option linter.unusedVariables false
set_option linter.unusedSimpArgs false

/-! ### impl_Warning_27: function 27 -/
/-- slices.Delete at warnings, of one element. -/
def impl_Warning_27.f (l0 : List S37) (a1 a2 : Int) : Option (List S37) := if 0 ≤ a1 ∧ a2 = a1 + 1 ∧ a1 < (l0.length : Int) then some (l0.eraseIdx a1.toNat) else none
theorem impl_Warning_27.cells (w : World) (g : Nat) (cur : Array Value) (T : TypeId) (o : Nat) (vs : List Value) (h : w.heap[g]? = some (.cells cur T (0, 0))) (hv : o + vs.length ≤ cur.size) :
  ∃ cur', (w.setCells g o vs).heap[g]? = some (.cells cur' T (0, 0)) ∧ cur'.size = cur.size ∧ cur'.toList = cur.toList.take o ++ vs ++ cur.toList.drop (o + vs.length) := by
 induction vs generalizing w cur o with
 | nil => exact ⟨cur, h, rfl, by simp⟩
 | cons v vs ih =>
  have h1 := blk_set h o v
  obtain ⟨c2, e1, e2, e3⟩ := ih (w.setCell ⟨g, o, none⟩ v) (cur.setIfInBounds o v) (o + 1) h1 (by rw [Array.size_setIfInBounds]; simp only [List.length_cons] at hv; omega)
  refine ⟨c2, e1, by rw [e2, Array.size_setIfInBounds], ?_⟩
  rw [e3]
  simp only [List.length_cons] at hv ⊢
  have ho : o < cur.toList.length := by rw [Array.length_toList]; omega
  have ho2 : o < (cur.toList.set o v).length := by rw [List.length_set]; exact ho
  rw [Array.toList_setIfInBounds, List.take_succ_eq_append_getElem ho2, List.take_set_of_le (Nat.le_refl _), List.getElem_set_self, List.drop_set_of_lt (by omega), show o + 1 + vs.length = o + (vs.length + 1) by omega]
  simp
theorem sc_below {B g : Nat} {a : World} (hg : B ≤ g) : ∀ (vs : List Value) (o : Nat) (w : World), Below B a w → Below B a (w.setCells g o vs)
 | [], _, _, h => h
 | v :: r, o, w, h => sc_below hg r (o + 1) _ (h.setCell (p := ⟨g, o, none⟩) hg v)
theorem sc_other {k g : Nat} (hk : k ≠ g) : ∀ (vs : List Value) (o : Nat) (w : World), (w.setCells g o vs).heap[k]? = w.heap[k]?
 | [], _, _ => rfl
 | v :: r, o, w => (sc_other hk r (o + 1) _).trans (Below.heap_setCell w ⟨g, o, none⟩ v k hk)
theorem sc_size {g : Nat} : ∀ (vs : List Value) (o : Nat) (w : World), (w.setCells g o vs).heap.size = w.heap.size
 | [], _, _ => rfl
 | v :: r, o, w => (sc_size r (o + 1) _).trans (by simp [World.setCell])
theorem run_clear_one (W : World) (b o c : Nat) (ty : TypeId) (hc : ∀ j, j < 6 → (W.cell? ⟨b, o + j, none⟩).isSome = true) (hf : ∀ j, j < 6 → W.frozen? ⟨b, o + j, none⟩ = false) :
  (Builtin.clear_ #[22] ty #[.slice (some ⟨b, o, none⟩) 1 c]).run Try.prog W = .ok (.tuple #[]) (W.setCells b o (List.replicate 6 (.int .i64 0))) := by
 have hst := run_storeCells_cells (P := Try.prog) b o (List.replicate 6 (.int .i64 0)) 0 W (by intro j hj; exact hc j (by simpa using hj)) (by intro j hj; exact hf j (by simpa using hj)) (by intro v hv'; rw [List.eq_of_mem_replicate hv']; rfl)
 simp only [Nat.add_zero] at hst
 have hzc : (Builtin.zeroCells (Value.agg #[.int .i64 0, .int .i64 0, .int .i64 0, .int .i64 0, .int .i64 0, .int .i64 0]).cells 1).toList = List.replicate 6 (.int .i64 0) := by
  simp only [Value.cells, Builtin.zeroCells, Array.toList_map, Array.toList_range]
  rfl
 generalize (List.replicate 6 (Value.int .i64 0)) = Z at hst hzc ⊢
 simp [Builtin.clear_, run_underlying Try.underlying22, Try.zeroValue37, hzc, hst]
theorem reps_erase {α : Type} {R : α → List Value → Prop} {ps : List α} {cs : List Value} (h : Reps R 6 ps cs) (i : Nat) (hi : i < ps.length) : Reps R 6 (ps.eraseIdx i) (cs.take (i * 6) ++ cs.drop ((i + 1) * 6)) := by
 have hl := h.1
 have hln : (ps.eraseIdx i).length = ps.length - 1 := by rw [List.length_eraseIdx, if_pos hi]
 refine ⟨by rw [hln, List.length_append, List.length_take, List.length_drop, hl]; omega, fun j p hj => ?_⟩
 rw [List.getElem?_eraseIdx] at hj
 by_cases hji : j < i
 ·
  rw [if_pos hji] at hj
  have e : ((cs.take (i * 6) ++ cs.drop ((i + 1) * 6)).drop (j * 6)).take 6 = (cs.drop (j * 6)).take 6 := by
   refine List.ext_getElem? fun t => ?_
   rw [List.getElem?_take, List.getElem?_take]
   by_cases ht : t < 6
   ·
    rw [if_pos ht, if_pos ht, List.getElem?_drop, List.getElem?_drop, List.getElem?_append_left (by rw [List.length_take]; omega), List.getElem?_take_of_lt (by omega)]
   ·
    rw [if_neg ht, if_neg ht]
  rw [e]
  exact h.2 j p hj
 ·
  rw [if_neg hji] at hj
  have e : ((cs.take (i * 6) ++ cs.drop ((i + 1) * 6)).drop (j * 6)).take 6 = (cs.drop ((j + 1) * 6)).take 6 := by
   refine List.ext_getElem? fun t => ?_
   rw [List.getElem?_take, List.getElem?_take]
   by_cases ht : t < 6
   ·
    rw [if_pos ht, if_pos ht, List.getElem?_drop, List.getElem?_drop, List.getElem?_append_right (by rw [List.length_take]; omega), List.getElem?_drop, List.length_take]
    congr 1
    omega
   ·
    rw [if_neg ht, if_neg ht]
  rw [e]
  exact h.2 (j + 1) p hj
theorem impl_Warning_27.seen (cur cur1 cur2 : Array Value) (inner news : List Value) (n cap i : Nat) (hi : i < n) (hn : n ≤ cap) (hcs : cur.size = cap * 6) (hcs1 : cur1.size = cur.size) (hnl : news.length = (n - (i + 1)) * 6) (htk : cur.toList.take (n * 6) = inner) (hcl1 : cur1.toList = cur.toList.take (i * 6) ++ news ++ cur.toList.drop (i * 6 + news.length)) (hm : i + (n - (i + 1)) = n - 1)
  (hcl2 : cur2.toList = cur1.toList.take ((i + (n - (i + 1))) * 6) ++ List.replicate 6 (.int .i64 0) ++ cur1.toList.drop ((i + (n - (i + 1))) * 6 + (List.replicate 6 (.int .i64 0) : List Value).length)) (hnews : news = inner.drop ((i + 1) * 6)) :
  cur2.toList.take ((n - 1) * 6) = inner.take (i * 6) ++ inner.drop ((i + 1) * 6) := by
 have hL : cur.toList.length = cap * 6 := by rw [Array.length_toList]; exact hcs
 have hL1 : cur1.toList.length = cap * 6 := by rw [Array.length_toList, hcs1]; exact hcs
 have hl1 : (cur.toList.take (i * 6)).length = i * 6 := by rw [List.length_take, hL]; omega
 have hl2 : (cur.toList.take (i * 6) ++ news).length = (n - 1) * 6 := by rw [List.length_append, hl1, hnl]; omega
 rw [hm] at hcl2
 rw [hcl2, List.append_assoc, List.take_append_of_le_length (by rw [List.length_take, hL1]; omega), List.take_take, Nat.min_self, hcl1, List.take_append_of_le_length (by rw [hl2]; exact Nat.le_refl _), List.take_of_length_le (by rw [hl2]; exact Nat.le_refl _), hnews]
 congr 1
 rw [← htk, List.take_take]
 congr 1
 omega
theorem reps_one {w : World} {b : Nat} {ok : Nat → Prop} {xs : List S37} {cs : List Value} (h : Reps (k37.M w b ok) k37.sz xs cs) : ∀ u ∈ cs, u.oneCell' = true := by
 intro u hu
 obtain ⟨t, ht, rfl⟩ := List.getElem_of_mem hu
 have hl : cs.length = xs.length * 6 := h.1
 have hx := h.2 (t / 6) xs[t / 6] (List.getElem?_eq_getElem (by omega))
 refine k37.K_one (k37.K_of_M hx) _ ?_
 change cs[t] ∈ (cs.drop (t / 6 * 6)).take 6
 rw [List.mem_iff_getElem?]
 refine ⟨t % 6, ?_⟩
 rw [List.getElem?_take_of_lt (by omega), List.getElem?_drop, show t / 6 * 6 + t % 6 = t by omega, List.getElem?_eq_getElem ht]
set_option maxHeartbeats 4000000 in
set_option maxRecDepth 1000000 in
theorem impl_Warning_27.calls (P0_ : Nat → Prop) (u9000_ : Value) (l0 : List S37) (a1 a2 : Int) (r : List S37) (w0 w : World) (hB : Below w0.heap.size w0 w) (ho0 : Kd.R k37 37 w w0.heap.size P0_ u9000_ l0) (h : impl_Warning_27.f l0 a1 a2 = some r) :
  Calls Try.prog 27 #[u9000_, .int .i64 a1, .int .i64 a2] w fun e w' => ∃ v0_ : Value, e = .returned (v0_) ∧ Kd.R k37 37 w' w0.heap.size (fun k_ => (P0_ k_ ∨ w.heap.size ≤ k_)) v0_ r ∧ Below w0.heap.size w0 w' ∧ Kept w w' (fun k_ => P0_ k_) := by
 have hu := Try.underlying37
 unfold impl_Warning_27.f at h
 by_cases hc : 0 ≤ a1 ∧ a2 = a1 + 1 ∧ a1 < (l0.length : Int)
 ·
  rw [if_pos hc] at h
  obtain rfl := Option.some.inj h
  clear h
  obtain ⟨h0, rfl, h1⟩ := hc
  obtain ⟨i, rfl⟩ : ∃ i : Nat, a1 = (i : Int) := ⟨a1.toNat, by omega⟩
  have hi : i < l0.length := by omega
  rw [Int.toNat_natCast]
  obtain ⟨hok, inner, hown, hrep⟩ := ho0
  obtain ⟨hlen, hor⟩ := hown
  rcases hor with ⟨rfl, hn⟩ | ⟨g, cap, cur, rfl, hg, hh, hncap, hcap, hcs, htk⟩
  ·
   omega
  ·
   have hP : P0_ g := hok g rfl
   change cur.size = cap * 6 at hcs
   change inner.length = l0.length * 6 at hlen
   change cur.toList.take (l0.length * 6) = inner at htk
   obtain ⟨i0, hi0, hz0, hz1, hz2⟩ := info_parts info37
   have hlt := blk_lt hh
   have c0 : ∀ t, w.cell? ⟨g, t, none⟩ = cur[t]? := fun t => blk_cell hh t
   have f0 : ∀ t, w.frozen? ⟨g, t, none⟩ = false := fun t => blk_frozen hh t
   obtain ⟨news, hnews⟩ : ∃ news, news = inner.drop ((i + 1) * 6) := ⟨_, rfl⟩
   have hnl : news.length = (l0.length - (i + 1)) * 6 := by rw [hnews, List.length_drop, hlen, Nat.sub_mul]
   have hget : ∀ t, t < (l0.length - (i + 1)) * 6 → news[t]? = cur[(i + 1) * 6 + t]? := by
    intro t ht
    rw [hnews, ← htk, List.getElem?_drop, List.getElem?_take_of_lt (by rw [Nat.sub_mul] at ht; omega), Array.getElem?_toList]
   obtain ⟨A, hA, hsrc⟩ : ∃ A : Addr, (if cap = i + 1 then some (⟨g, 0, none⟩ : Addr) else some ⟨g, (i + 1) * 6, none⟩) = some A ∧ Hid (∀ t u, news[t]? = some u → w.drew.cell? (A.add t) = some u) := by
    by_cases h : cap = i + 1
    ·
     refine ⟨⟨g, 0, none⟩, by simp [h], fun t u hu => ?_⟩
     have h0 : news.length = 0 := by rw [hnl]; omega
     rw [List.length_eq_zero_iff.1 h0] at hu
     simp at hu
    ·
     refine ⟨⟨g, (i + 1) * 6, none⟩, by simp [h], fun t u hu => ?_⟩
     have ht : t < (l0.length - (i + 1)) * 6 := by
      have := (List.getElem?_eq_some_iff.1 hu).1
      rwa [hnl] at this
     rw [Addr.add_lit]
     exact (c0 _).trans ((hget t ht).symm.trans hu)
   have s1 : Hid (news.length = (l0.length - (i + 1)) * 6) := hnl
   have s2 : Hid (∀ u ∈ news, u.oneCell' = true) := by
    intro u hu
    rw [hnews] at hu
    exact reps_one hrep u (List.mem_of_mem_drop hu)
   have hfit : i * 6 + news.length ≤ cur.size := by rw [hnl, hcs, Nat.sub_mul]; omega
   have s3 : Hid (∀ t, t < news.length → (w.drew.cell? ⟨g, 0 + i * 6 + t, none⟩).isSome = true ∧ w.drew.frozen? ⟨g, 0 + i * 6 + t, none⟩ = false) := by
    intro t ht
    rw [Nat.zero_add]
    exact ⟨by show (w.cell? _).isSome = true; rw [c0, Array.getElem?_eq_getElem (by omega)]; rfl, f0 _⟩
   obtain ⟨W1, hW1⟩ : ∃ W1, W1 = w.drew.setCells g (0 + i * 6) news := ⟨_, rfl⟩
   obtain ⟨cur1, hh1, hcs1, hcl1⟩ := impl_Warning_27.cells w.drew g cur 37 (0 + i * 6) news hh (by rw [Nat.zero_add]; exact hfit)
   rw [← hW1] at hh1
   rw [Nat.zero_add] at hcl1
   have hm : i + (l0.length - (i + 1)) = l0.length - 1 := by omega
   have hcl : ∀ ty, (Builtin.clear_ #[22] ty #[.slice (some ⟨g, (i + (l0.length - (i + 1))) * 6, none⟩) (l0.length - (i + (l0.length - (i + 1)))) (cap - (i + (l0.length - (i + 1))))]).run Try.prog W1 = .ok (.tuple #[]) (W1.setCells g ((i + (l0.length - (i + 1))) * 6) (List.replicate 6 (.int .i64 0))) := by
    intro ty
    rw [show l0.length - (i + (l0.length - (i + 1))) = 1 by omega]
    refine run_clear_one W1 g _ _ ty (fun j hj => ?_) (fun j hj => blk_frozen hh1 _)
    rw [blk_cell hh1, Array.getElem?_eq_getElem (by rw [hcs1, hcs]; omega)]
    rfl
   obtain ⟨cur2, hh2, hcs2, hcl2⟩ := impl_Warning_27.cells W1 g cur1 37 ((i + (l0.length - (i + 1))) * 6) (List.replicate 6 (.int .i64 0)) hh1 (by rw [hcs1, hcs, List.length_replicate]; omega)
   have E2 := Aside0.mk (show ∃ cur2, (W1.setCells g ((i + (l0.length - (i + 1))) * 6) (List.replicate 6 (.int .i64 0))).heap[g]? = some (.cells cur2 37 (0, 0)) ∧ cur2.size = cap * 6 ∧ cur2.toList.take ((l0.length - 1) * 6) = inner.take (i * 6) ++ inner.drop ((i + 1) * 6) from by
    exact ⟨cur2, hh2, by rw [hcs2, hcs1, hcs], impl_Warning_27.seen cur cur1 cur2 inner news l0.length cap i hi hncap hcs hcs1 hnl htk hcl1 hm hcl2 hnews⟩)
   have SO := Aside0.mk (show ∀ k, k ≠ g → (W1.setCells g ((i + (l0.length - (i + 1))) * 6) (List.replicate 6 (.int .i64 0))).heap[k]? = w.heap[k]? from fun k hk => (sc_other hk _ _ W1).trans (by rw [hW1]; exact sc_other hk _ _ _))
   have BL := Aside0.mk (show Below w0.heap.size w0 (W1.setCells g ((i + (l0.length - (i + 1))) * 6) (List.replicate 6 (.int .i64 0))) from sc_below hg _ _ _ (by rw [hW1]; exact sc_below hg _ _ _ (below_drew hB)))
   have SZ := Aside0.mk (show (W1.setCells g ((i + (l0.length - (i + 1))) * 6) (List.replicate 6 (.int .i64 0))).heap.size = w.heap.size from (sc_size _ _ _).trans (by rw [hW1]; exact sc_size _ _ _))
   have HRP := Aside0.mk hrep
   clear hh2 hcs2 hcl2 hm
   have hW : Hid (W1 = w.drew.setCells g (0 + i * 6) news) := hW1
   have C0 := Aside0.mk c0
   have F0 := Aside0.mk f0
   have NL := Aside0.mk hnl
   have CS := Aside0.mk hcs
   have HI := Aside0.mk hi
   have hic : i ≤ cap := by omega
   have hjc : i + 1 ≤ cap := by omega
   have hjn : i + 1 ≤ l0.length := hi
   have hz1a : (0 : Int) ≤ (i : Int) + 1 := by omega
   have hz1b : (i : Int) + 1 ≤ (l0.length : Int) := by omega
   have hnm : cap ≤ 9223372036854775807 := by simpa [maxLen] using hcap
   clear c0 f0 hnl hcs hcs1 hrep htk hlen h0 h1 hok hh hlt hget hW1 hh1 hcl1 hfit hnews
   have mixed : Try.prog.follows .mixedOrders = true := by kernel_rfl
   go_enter Try.func27, Try.ntmps27
   go_wp2_with fail
   go_region_law_o (refine step_append_room rfl (.tmp 22) (.tmp 25) 22 rfl 37 i0 6 Try.underlying22 hi0 hz1 g 0 i cap (by simp [Act.eval, Act.put]) A (l0.length - (i + 1)) (cap - (i + 1)) news (by simp [Act.eval, Act.put]) s1.out hsrc.out s2.out (by omega) s3.out ?_; rw [← hW.out])
   go_wp2
   go_ret
   refine ⟨_, rfl, ?_, ?_, ?_⟩
   ·
    obtain ⟨cur2, hh2, hcs2, hcl2⟩ := E2.out
    refine ⟨fun k hk => ?_, inner.take (i * 6) ++ inner.drop ((i + 1) * 6), ⟨?_, .inr ⟨g, cap, cur2, ?_, hg, hh2, ?_, hcap, ?_, ?_⟩⟩, ?_⟩
    ·
     have : g = k := by simpa [Value.ownBlock] using hk
     subst this
     exact .inl hP
    ·
     exact (reps_erase HRP.out i HI.out).1
    ·
     rw [List.length_eraseIdx, if_pos HI.out, show i + (l0.length - (i + 1)) = l0.length - 1 by omega]
     rfl
    ·
     rw [List.length_eraseIdx, if_pos HI.out]; omega
    ·
     exact hcs2
    ·
     rw [List.length_eraseIdx, if_pos HI.out]; exact hcl2
    ·
     exact (reps_erase HRP.out i HI.out).imp_ (fun p c hp => Kd.M_step (k37.M_mono (fun k hk => ⟨.inl hk.1, hk.2⟩) hp) (fun k hk _ => SO.out k (fun e => hk.2 (by rw [e]; rfl))))
   ·
    exact BL.out
   ·
    exact ⟨Nat.le_of_eq SZ.out.symm, fun k hk hn => SO.out k (fun e => hn (by rw [e]; exact hP))⟩
 ·
  rw [if_neg hc] at h
  cases h

end Go.Proofs.Ytfemneoahkglmaa.Q
