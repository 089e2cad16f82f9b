import Derived.Test.YtjfcedhjmmnofaaZNumberOwnStmtNumberOwn
import Derived.Test.YtjfcedhjmmnofaaZNumberOwnNumberFacts
namespace Go.Proofs.Ytjfcedhjmmnofaa.Pure
open Go.RowKit Go.Proofs.Ytjfcedhjmmnofaa.Gn Go.Proofs.YtjfcedhjmmnofaaW.PrintWords Go.Proofs.YtjfcedhjmmnofaaW.PrintLast Go.Proofs.Ytjfcedhjmmnofaa.Facts Go.Proofs.Ytjfcedhjmmnofaa.Opens
theorem NumberOwn : Gn.NumberOwn.Pure := by
  intro c a b s _ _ _ _
  refine ⟨1000, ?_⟩
  have hj : bellwetherlaw20_NumberOwn.j0 1000 a b s true c.f0 c.f1 c.f2 c.f3 c.f4 c.f5 c.f6 c.f7 c.f8 c.f9 c.f10 = some true := by
    rw [bellwetherlaw20_NumberOwn.j0, if_pos rfl, known20 999 (by omega)]
    rfl
  unfold bellwetherlaw20_NumberOwn.f
  rw [ref_plain_eq _ _ _ _ _ _ _ _ _ _ _ 1000 (by omega), Option.bind_some]
  by_cases hp : ¬ plainE c.f0 c.f1 c.f2 c.f3 c.f4 c.f5 c.f6 c.f7 c.f8 c.f9 c.f10 = 0
  · rw [if_neg hp]; exact hj
  have hp := Decidable.not_not.1 hp
  rw [if_pos hp]
  by_cases h1 : (s.size : Int) > 60
  · rw [if_pos h1]; exact hj
  rw [if_neg h1]
  by_cases h2 : a < -100000
  · rw [if_pos h2]; exact hj
  rw [if_neg h2]
  by_cases h3 : a > 100000
  · rw [if_pos h3]; exact hj
  rw [if_neg h3]
  by_cases h4 : b < -100
  · rw [if_pos h4]; exact hj
  rw [if_neg h4]
  by_cases h5 : b > 100
  · rw [decide_eq_true h5]; exact hj
  have h := plain_iff.1 hp
  have hm := h.m
  have hn := h.n
  have bm : -100 * 250 ≤ b * c.f8 ∧ b * c.f8 ≤ 100 * 250 := by
    by_cases hb : 0 ≤ b
    · have := mul_bd (x := b) (y := c.f8) (a := 100) (b := 250) ⟨hb, by omega⟩ ⟨by omega, by omega⟩
      omega
    · have := mul_bd (x := -b) (y := c.f8) (a := 100) (b := 250) ⟨by omega, by omega⟩ ⟨by omega, by omega⟩
      rw [Int.neg_mul] at this
      omega
  have hj1 : bellwetherlaw20_NumberOwn.j1 999 a b s false c.f0 c.f1 c.f2 c.f3 c.f4 c.f5 c.f6 c.f7 c.f8 c.f9 c.f10 = some true := by
    rw [bellwetherlaw20_NumberOwn.j1, if_neg (by decide), w64 (a := b * c.f8) (by omega), w64 (by omega), next_eq _ _ _ _ _ _ _ _ _ _ _ _ _ 998 (by omega), Option.bind_some, if_pos hp, next_eq _ _ _ _ _ _ _ _ _ _ _ _ _ 998 (by omega), Option.bind_some, if_pos hp]
    unfold nextN nextV
    have e : (a + b * c.f8) % c.f8 = a % c.f8 := Int.add_mul_emod_self_right ..
    rw [if_pos no_bytes, if_pos no_bytes, e, if_pos rfl, members_eq _ _ _ _ _ _ _ _ _ _ _ _ _ 998 (by omega), Option.bind_some, if_pos hp]
    have es : ((membersV c.f0 s s).size : Int) = c.f0 := by
      unfold membersV
      split <;> rw [digV_size] <;> omega
    rw [if_pos es, known20 998 (by omega)]
    rfl
  rw [decide_eq_false h5, bellwetherlaw20_NumberOwn.j0, if_neg (by decide)]
  by_cases hs : s.toList = []
  · rw [if_pos hs]; exact hj1
  rw [if_neg hs, next_eq _ _ _ _ _ _ _ _ _ _ _ _ _ 999 (by omega), Option.bind_some, next_eq _ _ _ _ _ _ _ _ _ _ _ _ _ 999 (by omega), Option.bind_some, if_pos hp, if_pos hp]
  unfold nextN
  rw [if_neg hs, if_neg hs, if_pos rfl, members_eq _ _ _ _ _ _ _ _ _ _ _ _ _ 999 (by omega), Option.bind_some, members_eq _ _ _ _ _ _ _ _ _ _ _ _ _ 999 (by omega), Option.bind_some, if_pos hp, if_pos hp]
  unfold membersV
  rw [if_neg hs, if_neg hs, bne_self_eq_false]
  exact hj1
end Go.Proofs.Ytjfcedhjmmnofaa.Pure
