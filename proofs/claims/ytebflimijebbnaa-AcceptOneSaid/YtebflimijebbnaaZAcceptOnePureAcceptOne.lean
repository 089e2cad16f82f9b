import Derived.Test.YtebflimijebbnaaZAcceptOneStmtAcceptOne
import Derived.Test.YtebflimijebbnaaZAcceptOneAllFacts
namespace Go.Proofs.Ytebflimijebbnaa.Pure
open Go.RowKit Go.Proofs.Ytebflimijebbnaa.Gn Go.Proofs.YtebflimijebbnaaW.PrintWords Go.Proofs.YtebflimijebbnaaW.PrintLast Go.Proofs.Ytebflimijebbnaa.Facts Go.Proofs.Ytebflimijebbnaa.Opens
open FactsM (hasB markV cl)
def cntP (l : List S32) : Nat → Nat → Int
  | 0, _ => 0
  | d + 1, j => (if (PK l j).f3 = 0 then 0 else 1) + cntP l d (j + 1)
theorem cntP_bd (l : List S32) : ∀ d j, 0 ≤ cntP l d j ∧ cntP l d j ≤ d
  | 0, _ => by simp [cntP]
  | d + 1, j => by
    have := cntP_bd l d (j + 1)
    unfold cntP
    split <;> omega
theorem win_one {c : S24} (h7 : 1 ≤ c.f7) (hg : c.f7 > 2 * guardV c.f2 c.f4 c.f5 c.f6 c.f7 c.f10.length) {e i j : Int} (hi : lowV c.f2 c.f4 c.f5 c.f6 c.f7 c.f10 i ≤ e ∧ e ≤ highV c.f2 c.f4 c.f5 c.f6 c.f7 c.f10 i) (hj : lowV c.f2 c.f4 c.f5 c.f6 c.f7 c.f10 j ≤ e ∧ e ≤ highV c.f2 c.f4 c.f5 c.f6 c.f7 c.f10 j) : ¬ i < j := by
  intro hlt
  have : i * c.f7 + c.f7 ≤ j * c.f7 := by
    have := Int.mul_le_mul_of_nonneg_right (show i + 1 ≤ j by omega) (show 0 ≤ c.f7 by omega)
    rw [Int.add_mul, Int.one_mul] at this
    exact this
  have a := hi.2
  have b := hj.1
  unfold highV middleV at a
  unfold lowV middleV at b
  omega
/-- What holds while messages come in, one after another. -/
def Inv (c : S24) (m : S30) (got : List S35) : Prop := got = [] ∨ (got.length = 1 ∧ m.f8 ≥ 2 ∧ ∃ i : Int, 0 ≤ i ∧ i < c.f10.length ∧ inWinB c m i = true ∧ hasB m.f11 i = true)
theorem go_inv (c : S24) (hp : PlC c) (hR : c.f7 > 2 * guardV c.f2 c.f4 c.f5 c.f6 c.f7 c.f10.length) (l : List S32) : ∀ (d j : Nat) (m : S30) (got : List S35) (n : Int), Inv c m got →
    (allGo c l d j m got n).2.2.1.length ≤ 1 ∧ ((allGo c l d j m got n).2.2.1.length : Int) + (allGo c l d j m got n).2.2.2 = got.length + n + cntP l d j ∧ ((allGo c l d j m got n).2.2.1 = [] ∨ m.f8 ≥ 2)
  | 0, j, m, got, n, h => by
    refine ⟨?_, by simp [allGo, cntP], ?_⟩
    · rcases h with h | h
      · simp [allGo, h]
      · simp [allGo, h.1]
    · rcases h with h | h
      · exact .inl h
      · exact .inr h.2.1
  | d + 1, j, m, got, n, h => by
    rw [allGo, cntP]
    by_cases e0 : (PK l j).f3 = 0
    · rw [if_pos e0, if_pos e0]
      obtain ⟨a, b, e⟩ := go_inv c hp hR l d (j + 1) m got n h
      exact ⟨a, by omega, e⟩
    · rw [if_neg e0, if_neg e0]
      by_cases e1 : (takeV c m (j : Int) (PK l j)).2.2.2.2.2.2 = 0
      · rw [if_pos e1]
        have hc : chkV c m (j : Int) (PK l j) = 0 := by
          unfold takeV at e1
          by_cases hc : chkV c m (j : Int) (PK l j) = 0
          · exact hc
          · rw [if_neg hc] at e1
            exact absurd e1 hc
        have ht : takeV c m (j : Int) (PK l j) = (markV m.f11 (cl c.f10.length) [(PK l j).f3 - 1], markV m.f10 (cl c.f0) [(j : Int)], (j : Int), (PK l j).f3 - 1, (PK l j).f4, (PK l j).f5, 0) := by unfold takeV; rw [if_pos hc]
        obtain ⟨_, g1, g2, g3, g4, g5, g6, g7, g8⟩ := chk_0 hc
        have hl := hp.len
        have hs := hp.s
        have hi : 0 ≤ (PK l j).f3 - 1 ∧ (PK l j).f3 - 1 < (c.f10.length : Int) := ⟨by omega, by omega⟩
        have hwin : ∀ i : Int, 0 ≤ i → i < (c.f10.length : Int) → inWinB c m i = true → lowV c.f2 c.f4 c.f5 c.f6 c.f7 c.f10 i ≤ (m.f0 - m.f1) % 65536 ∧ (m.f0 - m.f1) % 65536 ≤ highV c.f2 c.f4 c.f5 c.f6 c.f7 c.f10 i := by
          intro i i0 i1 hb
          have hw : wiC c i = (lowV c.f2 c.f4 c.f5 c.f6 c.f7 c.f10 i, highV c.f2 c.f4 c.f5 c.f6 c.f7 c.f10 i) := by
            show windowV _ _ _ _ _ _ _ _ _ _ _ _ = _
            unfold windowV
            rw [if_pos ⟨plain_iff.2 hp, i0, i1⟩]
          have hin := of_decide_eq_true hb
          rw [hw] at hin
          exact hin
        have hgot : got = [] := by
          rcases h with h | ⟨_, _, i, i0, i1, i2, i3⟩
          · exact h
          · have x := hwin i i0 i1 i2
            have y := hwin _ hi.1 hi.2 g5
            have a := win_one hs.1 hR x y
            have b := win_one hs.1 hR y x
            have : i = (PK l j).f3 - 1 := by omega
            rw [this, g8] at i3
            exact absurd i3 (by decide)
        have hmark : hasB (memT m (takeV c m (j : Int) (PK l j))).f11 ((PK l j).f3 - 1) = true := by
          rw [ht]
          exact mark_at _ _ _ hi.1 hi.2 (by omega)
        obtain ⟨a, b, e⟩ := go_inv c hp hR l d (j + 1) (memT m (takeV c m (j : Int) (PK l j))) (got ++ [delT (takeV c m (j : Int) (PK l j))]) n (.inr ⟨by simp [hgot], g3, (PK l j).f3 - 1, hi.1, hi.2, g5, hmark⟩)
        refine ⟨a, ?_, .inr g3⟩
        rw [b]
        simp
        omega
      · rw [if_neg e1]
        obtain ⟨a, b, e⟩ := go_inv c hp hR l d (j + 1) m got (n + 1) h
        exact ⟨a, by omega, e⟩
theorem AcceptOne : Gn.AcceptOne.Pure := by
  intro c m l _ _ _
  refine ⟨2000, ?_⟩
  have hj : bellwetherlaw24_AcceptOne.j0 2000 l true c.f0 c.f1 c.f2 c.f3 c.f4 c.f5 c.f6 c.f7 c.f8 c.f9 c.f10 m.f0 m.f1 m.f2 m.f3 m.f4 m.f5 m.f6 m.f7 m.f8 m.f9 m.f10 m.f11 m.f12 m.f13 m.f14 m.f15 m.f16 m.f17 m.f18.f0 m.f18.f1 m.f18.f2 m.f18.f3 m.f18.f4 m.f18.f5 = some true := by
    rw [bellwetherlaw24_AcceptOne.j0, if_pos rfl, known24 1999 (by omega)]
    rfl
  unfold bellwetherlaw24_AcceptOne.f
  rw [ref_right_eq _ _ _ _ _ _ _ _ _ _ _ 2000 (by omega), Option.bind_some]
  by_cases hr : rightE c.f0 c.f1 c.f2 c.f3 c.f4 c.f5 c.f6 c.f7 c.f8 c.f9 c.f10 = 0
  · rw [if_pos hr]
    by_cases h1 : (m.f11.size : Int) > 100
    · rw [if_pos h1]
      exact hj
    rw [if_neg h1]
    by_cases h2 : (m.f10.size : Int) > 100
    · rw [if_pos h2]
      exact hj
    rw [if_neg h2]
    by_cases h3 : (l.length : Int) > 20
    · rw [decide_eq_true h3]
      exact hj
    rw [decide_eq_false h3, bellwetherlaw24_AcceptOne.j0, if_neg (show ¬ (false = true) by decide)]
    have hP : PlC c ∧ RightP c.f2 c.f3 c.f4 c.f5 c.f6 c.f7 c.f10.length := by
      unfold rightE at hr
      by_cases hp : plainE c.f0 c.f1 c.f2 c.f3 c.f4 c.f5 c.f6 c.f7 c.f8 c.f9 c.f10 = 0
      · rw [if_pos hp] at hr
        by_cases hq : RightP c.f2 c.f3 c.f4 c.f5 c.f6 c.f7 c.f10.length
        · exact ⟨plain_iff.1 hp, hq⟩
        · rw [if_neg hq] at hr
          omega
      · rw [if_neg hp] at hr
        exact absurd hr hp
    have hl0 : ∀ (d k j : Nat) (x : Int), j + d = l.length → d + 1500 ≤ k → 0 ≤ x → x + d ≤ 1000 → x + cntP l d j = cntP l l.length 0 → bellwetherlaw24_AcceptOne.l0 k l x (j : Int) c.f0 c.f1 c.f2 c.f3 c.f4 c.f5 c.f6 c.f7 c.f8 c.f9 c.f10 m.f0 m.f1 m.f2 m.f3 m.f4 m.f5 m.f6 m.f7 m.f8 m.f9 m.f10 m.f11 m.f12 m.f13 m.f14 m.f15 m.f16 m.f17 m.f18.f0 m.f18.f1 m.f18.f2 m.f18.f3 m.f18.f4 m.f18.f5 = some true := by
      intro d
      induction d with
      | zero =>
        intro k j x hjd hk hx0 hx hc
        obtain ⟨k, rfl, hk'⟩ := peel (m := 1499) (by omega)
        have hv : allV c m l = allGo c l l.length 0 m [] 0 := by unfold allV; rw [if_pos (plain_iff.2 hP.1)]
        obtain ⟨a, b, e⟩ := go_inv c hP.1 hP.2.1 l l.length 0 m [] 0 (.inl rfl)
        rw [← hv] at a b e
        rw [bellwetherlaw24_AcceptOne.l0, if_neg (by omega), acc_all_eq _ _ _ (by omega) k (by omega), Option.bind_some, if_pos (by omega)]
        have hb := cntP_bd l l.length 0
        simp only [List.length_nil] at b
        simp only [cntP] at hc
        rw [if_pos (by rw [w64 (by omega)]; omega)]
        by_cases h0 : ((allV c m l).2.2.1.length : Int) = 0
        · rw [if_pos h0, known24 k (by omega)]
          rfl
        · rw [if_neg h0]
          rcases e with e | e
          · rw [e] at h0
            exact absurd rfl h0
          · rw [rgsync_eq, Option.bind_some, if_pos (decide_eq_true e), known24 k (by omega)]
            rfl
      | succ d ih =>
        intro k j x hjd hk hx0 hx hc
        obtain ⟨k, rfl, hk'⟩ := peel (m := d + 1500) (by omega)
        rw [cntP] at hc
        rw [bellwetherlaw24_AcceptOne.l0, if_pos (by omega), if_pos (by omega), w64_step (by omega)]
        by_cases e0 : (PK l j).f3 = 0
        · rw [if_pos e0] at hc ⊢
          exact ih k (j + 1) x (by omega) (by omega) hx0 (by omega) (by omega)
        · rw [if_neg e0] at hc ⊢
          rw [w64 (by omega)]
          exact ih k (j + 1) (x + 1) (by omega) (by omega) (by omega) (by omega) (by omega)
    exact hl0 l.length 1999 0 0 (by omega) (by omega) (by omega) (by omega) (by omega)
  · rw [if_neg hr]
    exact hj
end Go.Proofs.Ytebflimijebbnaa.Pure
