/- A warning in words: both programs write the same. -/
import Derived.Test.YtnibkkfjgmfpnaaDoorQf28
import Derived.Test.YtnibkkfjgmfpnaaDoorQf30
import Derived.Test.YtnibkkfjgmfpnaaDoorLaHour
import Derived.Test.YtnibkkfjgmfpnaaDoorLaGood
set_option linter.unusedVariables false
set_option linter.unusedSimpArgs false
namespace Go.Proofs.YtnibkkfjgmfpnaaDoor.Q
open Go.RowKit Go.Proofs.YtnibkkfjgmfpnaaDoorW.PrintWords Go.Proofs.YtnibkkfjgmfpnaaDoor.Gen
theorem szW0 : (⟨#[32, 119, 97, 114, 110, 105, 110, 103, 32, 111, 102, 32]⟩ : ByteArray).size = 12 := rfl
theorem szW1 : (⟨#[32, 102, 111, 114, 32, 97, 114, 101, 97, 32]⟩ : ByteArray).size = 10 := rfl
theorem szW2 : (⟨#[32, 102, 114, 111, 109, 32]⟩ : ByteArray).size = 6 := rfl
theorem szW3 : (⟨#[32, 117, 110, 116, 105, 108, 32]⟩ : ByteArray).size = 7 := rfl
theorem szW4 : (⟨#[32, 40, 110, 111, 46, 32]⟩ : ByteArray).size = 6 := rfl
theorem szW5 : (⟨#[41, 46]⟩ : ByteArray).size = 2 := rfl
def LV : List ByteArray := [(⟨#[]⟩ : ByteArray), (⟨#[89, 101, 108, 108, 111, 119]⟩ : ByteArray), (⟨#[79, 114, 97, 110, 103, 101]⟩ : ByteArray), (⟨#[82, 101, 100]⟩ : ByteArray)]
def TV : List ByteArray := [(⟨#[]⟩ : ByteArray), (⟨#[119, 105, 110, 100]⟩ : ByteArray), (⟨#[114, 97, 105, 110]⟩ : ByteArray), (⟨#[115, 110, 111, 119]⟩ : ByteArray), (⟨#[104, 101, 97, 116]⟩ : ByteArray), (⟨#[115, 116, 111, 114, 109]⟩ : ByteArray)]
theorem rdLV (c : Int) (h : 1 ≤ c) (h2 : c ≤ 3) : rdOf ByteArray.empty LV c = wordS levelT c := by
  have : c = 1 ∨ c = 2 ∨ c = 3 := by omega
  rcases this with rfl | rfl | rfl <;> rfl
theorem rdTV (c : Int) (h : 1 ≤ c) (h2 : c ≤ 5) : rdOf ByteArray.empty TV c = wordS topicT c := by
  have : c = 1 ∨ c = 2 ∨ c = 3 ∨ c = 4 ∨ c = 5 := by omega
  rcases this with rfl | rfl | rfl | rfl | rfl <;> rfl
def catS (L O t1 t2 t3 t4 : ByteArray) : ByteArray := (((((((((((L ++ (⟨#[32, 119, 97, 114, 110, 105, 110, 103, 32, 111, 102, 32]⟩ : ByteArray)) ++ O) ++ (⟨#[32, 102, 111, 114, 32, 97, 114, 101, 97, 32]⟩ : ByteArray)) ++ t1) ++ (⟨#[32, 102, 114, 111, 109, 32]⟩ : ByteArray)) ++ t2) ++ (⟨#[32, 117, 110, 116, 105, 108, 32]⟩ : ByteArray)) ++ t3) ++ (⟨#[32, 40, 110, 111, 46, 32]⟩ : ByteArray)) ++ t4) ++ (⟨#[41, 46]⟩ : ByteArray))
def warnR (a b c d e f : Int) : ByteArray := catS (wordS levelT c) (wordS topicT b) (decN d.toNat) (hourS e.toNat) (hourS f.toNat) (decN a.toNat)
theorem implText_f (a b c d e f : Int) (o : okB a b c d e f = true) : impl_warningText.f a b c d e f = some (warnR a b c d e f) := by
  have hb := of_decide_eq_true o
  obtain ⟨na, rfl⟩ : ∃ n : Nat, a = (n : Int) := ⟨a.toNat, by omega⟩
  obtain ⟨nd, rfl⟩ : ∃ n : Nat, d = (n : Int) := ⟨d.toNat, by omega⟩
  obtain ⟨ne, rfl⟩ : ∃ n : Nat, e = (n : Int) := ⟨e.toNat, by omega⟩
  obtain ⟨nf, rfl⟩ : ∃ n : Nat, f = (n : Int) := ⟨f.toNat, by omega⟩
  have h1 := decN_size nd (by omega)
  have h2 := hourS_size ne (by omega)
  have h3 := hourS_size nf (by omega)
  have h4 := decN_size na (by omega)
  unfold impl_warningText.f warnR
  rw [if_pos (by omega), itoa_f _ (by omega) (by omega), itoa_f _ (by omega) (by omega), implHour_f ne (by omega), implHour_f nf (by omega), decS_nat, decS_nat, Option.bind_some, Option.bind_some, Option.bind_some, Option.bind_some, if_pos (by omega)]
  rfl
theorem ev_specText (a b c d e f : Int) (o : okB a b c d e f = true) : Ev (fun k => spec_l16Text.f k a b c d e f) (warnR a b c d e f) := by
  have hb := of_decide_eq_true o
  obtain ⟨na, rfl⟩ : ∃ n : Nat, a = (n : Int) := ⟨a.toNat, by omega⟩
  obtain ⟨nd, rfl⟩ : ∃ n : Nat, d = (n : Int) := ⟨d.toNat, by omega⟩
  obtain ⟨ne, rfl⟩ : ∃ n : Nat, e = (n : Int) := ⟨e.toNat, by omega⟩
  obtain ⟨nf, rfl⟩ : ∃ n : Nat, f = (n : Int) := ⟨f.toNat, by omega⟩
  have h1 := decN_size nd (by omega)
  have h2 := hourS_size ne (by omega)
  have h3 := hourS_size nf (by omega)
  have h4 := decN_size na (by omega)
  have hL := wordL_size c
  have hO := wordO_size b
  have l4 : (LV.length : Int) = 4 := rfl
  have l6 : (TV.length : Int) = 6 := rfl
  unfold spec_l16Text.f
  refine Ev.bind (f := fun k t => _) (Ev.eq_now fun k => (show spec_l16Levels.f = some LV from rfl)) ?_
  rw [rdLV c (by omega) (by omega)]
  refine Ev.congr (fun k => if_pos (by omega)) (Ev.congr (fun k => if_pos (by omega)) (Ev.congr (fun k => if_pos (by omega)) ?_))
  refine Ev.bind (f := fun k t => _) (Ev.eq_now fun k => (show spec_l16Topics.f = some TV from rfl)) ?_
  rw [rdTV b (by omega) (by omega)]
  refine Ev.congr (fun k => if_pos (by omega)) (Ev.congr (fun k => if_pos (by omega)) (Ev.congr (fun k => if_pos (by simp only [ba_size_app, szW0, szW1, szW2, szW3, szW4, szW5]; omega)) (Ev.congr (fun k => if_pos (by simp only [ba_size_app, szW0, szW1, szW2, szW3, szW4, szW5]; omega)) ?_)))
  refine Ev.bind (f := fun k t => _) (ev_num nd (by omega)) ?_
  refine Ev.congr (fun k => if_pos (by simp only [ba_size_app, szW0, szW1, szW2, szW3, szW4, szW5]; omega)) (Ev.congr (fun k => if_pos (by simp only [ba_size_app, szW0, szW1, szW2, szW3, szW4, szW5]; omega)) ?_)
  refine Ev.bind (f := fun k t => _) (ev_specHour ne (by omega)) ?_
  refine Ev.congr (fun k => if_pos (by simp only [ba_size_app, szW0, szW1, szW2, szW3, szW4, szW5]; omega)) (Ev.congr (fun k => if_pos (by simp only [ba_size_app, szW0, szW1, szW2, szW3, szW4, szW5]; omega)) ?_)
  refine Ev.bind (f := fun k t => _) (ev_specHour nf (by omega)) ?_
  refine Ev.congr (fun k => if_pos (by simp only [ba_size_app, szW0, szW1, szW2, szW3, szW4, szW5]; omega)) (Ev.congr (fun k => if_pos (by simp only [ba_size_app, szW0, szW1, szW2, szW3, szW4, szW5]; omega)) ?_)
  refine Ev.bind (f := fun k t => _) (ev_num na (by omega)) ?_
  refine Ev.congr (fun k => if_pos (by simp only [ba_size_app, szW0, szW1, szW2, szW3, szW4, szW5]; omega)) (Ev.congr (fun k => if_pos (by simp only [ba_size_app, szW0, szW1, szW2, szW3, szW4, szW5]; omega)) ?_)
  exact Ev.now _
end Go.Proofs.YtnibkkfjgmfpnaaDoor.Q
