/- Numbers joined as text. -/
import Derived.Test.YtkoimngbmhlojaaDoorQf42
import Derived.Test.YtkoimngbmhlojaaDoorLaNum
set_option linter.unusedVariables false
set_option linter.unusedSimpArgs false
namespace Go.Proofs.YtkoimngbmhlojaaDoor.Q
open Go.RowKit Go.Proofs.YtkoimngbmhlojaaDoorW.PrintWords Go.Proofs.YtkoimngbmhlojaaDoor.Gen
theorem joinS_n2 (x y s : ByteArray) : joinS [x, y] s = ((x ++ s) ++ y) := by
  apply ba_ext
  show Lib.join [x.data.toList, y.data.toList] s.data.toList = _
  rw [Lib.join_cons]
  simp only [ba_app, Lib.joinTail, List.map_cons, List.map_nil, List.flatten_cons, List.flatten_nil, List.append_nil, List.append_assoc]
theorem join_n2 (x y s : ByteArray) (hx : x.size ≤ 1000) (hy : y.size ≤ 1000) (hs : s.size ≤ 1000) : strings_Join.f [x, y] s = some ((x ++ s) ++ y) := by
  unfold strings_Join.f
  have e : (Lib.join (([x, y] : List ByteArray).map (·.data.toList)) s.data.toList).length = x.size + s.size + y.size := by
    have q : (joinS [x, y] s).size = x.size + s.size + y.size := by rw [joinS_n2]; simp only [ba_size_app]
    exact q
  rw [if_pos ⟨(show 2 ≤ 140737488355328 by decide), by rw [e]; omega⟩, joinS_n2]
theorem ji2 (a b : Int) (ta tb : ByteArray) (ha : strconv_Itoa.f a = some ta) (hb : strconv_Itoa.f b = some tb) (sep r : ByteArray) (hj : strings_Join.f [ta, tb] sep = some r) (k : Nat) :
    impl_joinInts.l0 (k + 1 + 1 + 1) sep [(⟨#[]⟩ : ByteArray), (⟨#[]⟩ : ByteArray)] [a, b] 2 0 = some r := by
  rw [impl_joinInts.l0, if_pos (by decide), if_pos (by decide), if_pos (by simp), show rd [a, b] 0 = a from rfl, ha, Option.bind_some, if_pos (by simp), show wrap64 (0 + 1) = 1 from by decide +kernel]
  show impl_joinInts.l0 (k + 1 + 1) sep [ta, (⟨#[]⟩ : ByteArray)] [a, b] 2 1 = some r
  rw [impl_joinInts.l0, if_pos (by decide), if_pos (by decide), if_pos (by simp), show rd [a, b] 1 = b from rfl, hb, Option.bind_some, if_pos (by simp), show wrap64 (1 + 1) = 2 from by decide +kernel]
  show impl_joinInts.l0 (k + 1) sep [ta, tb] [a, b] 2 2 = some r
  rw [impl_joinInts.l0, if_neg (by decide), hj, Option.bind_some]
theorem ev_joinInts2 (a b : Nat) (ha : a ≤ 100000) (hb : b ≤ 100000) (sep : ByteArray) (hs : sep.size ≤ 1000) : Ev (fun k => impl_joinInts.f k [(a : Int), (b : Int)] sep) ((decN a ++ sep) ++ decN b) := by
  have qa := decN_size a (by omega)
  have qb := decN_size b (by omega)
  refine ⟨3, fun k hk => ?_⟩
  obtain ⟨q, rfl⟩ : ∃ q, k = q + 1 + 1 + 1 := ⟨k - 3, by omega⟩
  show impl_joinInts.f (q + 1 + 1 + 1) [(a : Int), (b : Int)] sep = _
  unfold impl_joinInts.f
  rw [if_pos (by simp), if_pos (by simp)]
  exact ji2 a b (decN a) (decN b) (by rw [itoa_f _ (by omega) (by omega), decS_nat]) (by rw [itoa_f _ (by omega) (by omega), decS_nat]) sep _ (join_n2 (decN a) (decN b) sep (by omega) (by omega) hs) q
theorem joinS_n4 (x y z u s : ByteArray) : joinS [x, y, z, u] s = ((((((x ++ s) ++ y) ++ s) ++ z) ++ s) ++ u) := by
  apply ba_ext
  show Lib.join [x.data.toList, y.data.toList, z.data.toList, u.data.toList] s.data.toList = _
  rw [Lib.join_cons]
  simp only [ba_app, Lib.joinTail, List.map_cons, List.map_nil, List.flatten_cons, List.flatten_nil, List.append_nil, List.append_assoc]
theorem join_n4 (x y z u s : ByteArray) (hx : x.size ≤ 1000) (hy : y.size ≤ 1000) (hz : z.size ≤ 1000) (hu : u.size ≤ 1000) (hs : s.size ≤ 1000) : strings_Join.f [x, y, z, u] s = some ((((((x ++ s) ++ y) ++ s) ++ z) ++ s) ++ u) := by
  unfold strings_Join.f
  have e : (Lib.join (([x, y, z, u] : List ByteArray).map (·.data.toList)) s.data.toList).length = x.size + s.size + y.size + s.size + z.size + s.size + u.size := by
    have q : (joinS [x, y, z, u] s).size = x.size + s.size + y.size + s.size + z.size + s.size + u.size := by rw [joinS_n4]; simp only [ba_size_app]
    exact q
  rw [if_pos ⟨(show 4 ≤ 140737488355328 by decide), by rw [e]; omega⟩, joinS_n4]
theorem ji4 (a b c d : Int) (ta tb tc td : ByteArray) (ha : strconv_Itoa.f a = some ta) (hb : strconv_Itoa.f b = some tb) (hc : strconv_Itoa.f c = some tc) (hd : strconv_Itoa.f d = some td) (sep r : ByteArray) (hj : strings_Join.f [ta, tb, tc, td] sep = some r) (k : Nat) :
    impl_joinInts.l0 (k + 1 + 1 + 1 + 1 + 1) sep [(⟨#[]⟩ : ByteArray), (⟨#[]⟩ : ByteArray), (⟨#[]⟩ : ByteArray), (⟨#[]⟩ : ByteArray)] [a, b, c, d] 4 0 = some r := by
  rw [impl_joinInts.l0, if_pos (by decide), if_pos (by decide), if_pos (by simp), show rd [a, b, c, d] 0 = a from rfl, ha, Option.bind_some, if_pos (by simp), show wrap64 (0 + 1) = 1 from by decide +kernel]
  show impl_joinInts.l0 (k + 1 + 1 + 1 + 1) sep [ta, (⟨#[]⟩ : ByteArray), (⟨#[]⟩ : ByteArray), (⟨#[]⟩ : ByteArray)] [a, b, c, d] 4 1 = some r
  rw [impl_joinInts.l0, if_pos (by decide), if_pos (by decide), if_pos (by simp), show rd [a, b, c, d] 1 = b from rfl, hb, Option.bind_some, if_pos (by simp), show wrap64 (1 + 1) = 2 from by decide +kernel]
  show impl_joinInts.l0 (k + 1 + 1 + 1) sep [ta, tb, (⟨#[]⟩ : ByteArray), (⟨#[]⟩ : ByteArray)] [a, b, c, d] 4 2 = some r
  rw [impl_joinInts.l0, if_pos (by decide), if_pos (by decide), if_pos (by simp), show rd [a, b, c, d] 2 = c from rfl, hc, Option.bind_some, if_pos (by simp), show wrap64 (2 + 1) = 3 from by decide +kernel]
  show impl_joinInts.l0 (k + 1 + 1) sep [ta, tb, tc, (⟨#[]⟩ : ByteArray)] [a, b, c, d] 4 3 = some r
  rw [impl_joinInts.l0, if_pos (by decide), if_pos (by decide), if_pos (by simp), show rd [a, b, c, d] 3 = d from rfl, hd, Option.bind_some, if_pos (by simp), show wrap64 (3 + 1) = 4 from by decide +kernel]
  show impl_joinInts.l0 (k + 1) sep [ta, tb, tc, td] [a, b, c, d] 4 4 = some r
  rw [impl_joinInts.l0, if_neg (by decide), hj, Option.bind_some]
theorem ev_joinInts4 (a b c d : Nat) (ha : a ≤ 100000) (hb : b ≤ 100000) (hc : c ≤ 100000) (hd : d ≤ 100000) (sep : ByteArray) (hs : sep.size ≤ 1000) : Ev (fun k => impl_joinInts.f k [(a : Int), (b : Int), (c : Int), (d : Int)] sep) ((((((decN a ++ sep) ++ decN b) ++ sep) ++ decN c) ++ sep) ++ decN d) := by
  have qa := decN_size a (by omega)
  have qb := decN_size b (by omega)
  have qc := decN_size c (by omega)
  have qd := decN_size d (by omega)
  refine ⟨5, fun k hk => ?_⟩
  obtain ⟨q, rfl⟩ : ∃ q, k = q + 1 + 1 + 1 + 1 + 1 := ⟨k - 5, by omega⟩
  show impl_joinInts.f (q + 1 + 1 + 1 + 1 + 1) [(a : Int), (b : Int), (c : Int), (d : Int)] sep = _
  unfold impl_joinInts.f
  rw [if_pos (by simp), if_pos (by simp)]
  exact ji4 a b c d (decN a) (decN b) (decN c) (decN d) (by rw [itoa_f _ (by omega) (by omega), decS_nat]) (by rw [itoa_f _ (by omega) (by omega), decS_nat]) (by rw [itoa_f _ (by omega) (by omega), decS_nat]) (by rw [itoa_f _ (by omega) (by omega), decS_nat]) sep _ (join_n4 (decN a) (decN b) (decN c) (decN d) sep (by omega) (by omega) (by omega) (by omega) hs) q
end Go.Proofs.YtkoimngbmhlojaaDoor.Q
