import Derived.Test.YtebflimijebbnaaZAcceptAllGn0
import Derived.Test.YtebflimijebbnaaZAcceptAllGn4
import Derived.Test.YtebflimijebbnaaZAcceptAllGn12
import Derived.Test.YtebflimijebbnaaZAcceptAllGn16
import Derived.Test.YtebflimijebbnaaZAcceptAllGn19
import Derived.Test.YtebflimijebbnaaZAcceptAllGn23
import Derived.Test.YtebflimijebbnaaZAcceptAllGn29
import Derived.Test.YtebflimijebbnaaZAcceptAllGn33
import Derived.Test.YtebflimijebbnaaZAcceptAllRingFacts0
import Derived.Test.YtebflimijebbnaaZAcceptAllConfFacts
import Derived.Test.YtebflimijebbnaaZAcceptAllBoundFacts
import Derived.Test.YtebflimijebbnaaZAcceptAllBoundRef
import Derived.Test.YtebflimijebbnaaZAcceptAllGateMarks
namespace Go.Proofs.Ytebflimijebbnaa.Facts
open Go.RowKit Go.Proofs.Ytebflimijebbnaa.Gn Go.Proofs.YtebflimijebbnaaW.PrintWords Go.Proofs.YtebflimijebbnaaW.PrintLast
open FactsM (hasB markV cl)
set_option linter.unusedVariables false
theorem gsync_eq (m : S30) : gate_Sync.f m.f0 m.f1 m.f2 m.f3 m.f4 m.f5 m.f6 m.f7 m.f8 m.f9 m.f10 m.f11 m.f12 m.f13 m.f14 m.f15 m.f16 m.f17 m.f18.f0 m.f18.f1 m.f18.f2 m.f18.f3 m.f18.f4 m.f18.f5 = some (decide (m.f8 ≥ 2)) := rfl
theorem rgsync_eq (m : S30) : r23_Sync.f m.f0 m.f1 m.f2 m.f3 m.f4 m.f5 m.f6 m.f7 m.f8 m.f9 m.f10 m.f11 m.f12 m.f13 m.f14 m.f15 m.f16 m.f17 m.f18.f0 m.f18.f1 m.f18.f2 m.f18.f3 m.f18.f4 m.f18.f5 = some (decide (m.f8 ≥ 2)) := rfl
abbrev plC (c : S24) : Int := plainE c.f0 c.f1 c.f2 c.f3 c.f4 c.f5 c.f6 c.f7 c.f8 c.f9 c.f10
abbrev PlC (c : S24) : Prop := Plain c.f0 c.f1 c.f2 c.f3 c.f4 c.f5 c.f6 c.f7 c.f8 c.f9 c.f10
abbrev owC (c : S24) (i : Int) : Int := ownerV c.f0 c.f1 c.f2 c.f3 c.f4 c.f5 c.f6 c.f7 c.f8 c.f9 c.f10 i
abbrev wiC (c : S24) (i : Int) : Int × Int := windowV c.f0 c.f1 c.f2 c.f3 c.f4 c.f5 c.f6 c.f7 c.f8 c.f9 c.f10 i
def inWinB (c : S24) (m : S30) (i : Int) : Bool := decide ((wiC c i).1 ≤ (m.f0 - m.f1) % 65536 ∧ (m.f0 - m.f1) % 65536 ≤ (wiC c i).2)
def chkV (c : S24) (m : S30) (from_ : Int) (p : S32) : Int :=
  if plC c = 0 then (if p.f3 < 1 ∨ p.f3 > (c.f10.length : Int) then 11 else if m.f8 ≥ 2 then (if owC c (p.f3 - 1) = from_ then (if inWinB c m (p.f3 - 1) = true then (if p.f4 = m.f7 then (if (p.f5.size : Int) > 16 then 15 else if hasB m.f11 (p.f3 - 1) = true then 13 else 0) else 16) else 10) else 12) else 14) else plC c
theorem inWin_eq (c : S24) (m : S30) (i : Int) (k : Nat) (hk : 9 ≤ k) : accept_inWindow.f k c.f0 c.f1 c.f2 c.f3 c.f4 c.f5 c.f6 c.f7 c.f8 c.f9 c.f10 m.f0 m.f1 m.f2 m.f3 m.f4 m.f5 m.f6 m.f7 m.f8 m.f9 m.f10 m.f11 m.f12 m.f13 m.f14 m.f15 m.f16 m.f17 m.f18.f0 m.f18.f1 m.f18.f2 m.f18.f3 m.f18.f4 m.f18.f5 i = some (inWinB c m i) := by
  unfold accept_inWindow.f inWinB
  rw [window_eq _ _ _ _ _ _ _ _ _ _ _ i k hk, Option.bind_some, elapsed_eq, Option.bind_some]
  by_cases h : (wiC c i).1 ≤ (m.f0 - m.f1) % 65536
  · rw [if_pos h]
    refine congrArg some (decide_eq_decide.2 ⟨fun h' => ⟨h, h'⟩, fun h' => h'.2⟩)
  · rw [if_neg h, decide_eq_false (fun h' => h h'.1)]
theorem marked_eq (s : ByteArray) (i : Int) (hi : 0 ≤ i) : accept_marked.f s i = some (hasB s i) := by
  unfold accept_marked.f hasB
  by_cases h1 : i < (s.size : Int)
  · rw [if_pos h1, if_pos hi, decide_eq_true h1, decide_eq_true hi]; rfl
  · rw [if_neg h1, decide_eq_false h1, decide_eq_true hi]; rfl
theorem check_eq (c : S24) (m : S30) (n : Int) (p : S32) (k : Nat) (hk : 9 ≤ k) : accept_Check.f k c.f0 c.f1 c.f2 c.f3 c.f4 c.f5 c.f6 c.f7 c.f8 c.f9 c.f10 m.f0 m.f1 m.f2 m.f3 m.f4 m.f5 m.f6 m.f7 m.f8 m.f9 m.f10 m.f11 m.f12 m.f13 m.f14 m.f15 m.f16 m.f17 m.f18.f0 m.f18.f1 m.f18.f2 m.f18.f3 m.f18.f4 m.f18.f5 n p.f0 p.f1 p.f2 p.f3 p.f4 p.f5 = some (chkV c m n p) := by
  unfold accept_Check.f chkV
  rw [plain_eq k (by omega), Option.bind_some]
  by_cases hp : plC c = 0
  · rw [if_pos hp, if_pos hp]
    have h := plain_iff.1 hp
    have hl := h.len
    by_cases h1 : p.f3 < 1
    · rw [if_pos h1, if_pos (.inl h1)]
    rw [if_neg h1]
    by_cases h2 : p.f3 > (c.f10.length : Int)
    · rw [if_pos h2, if_pos (.inr h2)]
    rw [if_neg h2, if_neg (show ¬ (p.f3 < 1 ∨ p.f3 > (c.f10.length : Int)) by omega), gsync_eq, Option.bind_some, w64 (by omega)]
    by_cases h3 : m.f8 ≥ 2
    · rw [if_pos (decide_eq_true h3), if_pos h3, owner_eq _ _ _ _ _ _ _ _ _ _ _ _ k hk, Option.bind_some]
      by_cases h4 : owC c (p.f3 - 1) = n
      · rw [if_pos h4, if_pos h4, inWin_eq _ _ _ k hk, Option.bind_some]
        by_cases h5 : inWinB c m (p.f3 - 1) = true
        · rw [if_pos h5, if_pos h5]
          by_cases h6 : p.f4 = m.f7
          · rw [if_pos h6, if_pos h6]
            by_cases h7 : (p.f5.size : Int) > 16
            · rw [if_pos h7, if_pos h7]
            · rw [if_neg h7, if_neg h7, marked_eq _ _ (by omega), Option.bind_some]
              split <;> rfl
          · rw [if_neg h6, if_neg h6]
        · rw [if_neg h5, if_neg h5]
      · rw [if_neg h4, if_neg h4]
    · rw [if_neg (by simpa using h3), if_neg h3]
  · rw [if_neg hp, if_neg hp]
theorem rcheck_eq (c : S24) (m : S30) (n : Int) (p : S32) (k : Nat) (hk : 800 ≤ k) : r24_Check.f k c.f0 c.f1 c.f2 c.f3 c.f4 c.f5 c.f6 c.f7 c.f8 c.f9 c.f10 m.f0 m.f1 m.f2 m.f3 m.f4 m.f5 m.f6 m.f7 m.f8 m.f9 m.f10 m.f11 m.f12 m.f13 m.f14 m.f15 m.f16 m.f17 m.f18.f0 m.f18.f1 m.f18.f2 m.f18.f3 m.f18.f4 m.f18.f5 n p.f0 p.f1 p.f2 p.f3 p.f4 p.f5 = some (chkV c m n p) := by
  unfold r24_Check.f chkV
  rw [ref_plain_eq _ _ _ _ _ _ _ _ _ _ _ k (by omega), Option.bind_some]
  obtain ⟨k, rfl, hk1⟩ := peel (m := 799) hk
  by_cases hp : plC c = 0
  · rw [if_pos hp, if_pos hp]
    have h := plain_iff.1 hp
    have hl := h.len
    by_cases h1 : p.f3 < 1
    · rw [if_pos h1, if_pos (.inl h1), r24_Check.j0, if_pos rfl]
    rw [if_neg h1]
    by_cases h2 : p.f3 > (c.f10.length : Int)
    · rw [if_pos (.inr h2), decide_eq_true h2, r24_Check.j0, if_pos rfl]
    rw [if_neg (show ¬ (p.f3 < 1 ∨ p.f3 > (c.f10.length : Int)) by omega), decide_eq_false h2, r24_Check.j0, if_neg (by decide), rgsync_eq, Option.bind_some, w64 (by omega)]
    by_cases h3 : m.f8 ≥ 2
    · rw [if_pos (decide_eq_true h3), if_pos h3, rowner_eq _ _ _ _ _ _ _ _ _ _ _ _ k (by omega), Option.bind_some]
      by_cases h4 : owC c (p.f3 - 1) = n
      · rw [if_pos h4, if_pos h4, rwindow_eq _ _ _ _ _ _ _ _ _ _ _ _ k (by omega), Option.bind_some, relapsed_eq, Option.bind_some]
        obtain ⟨k, rfl, hk2⟩ := peel (m := 798) hk1
        have hj : ∀ b : Bool, r24_Check.j1 (k + 1) b m.f0 m.f1 m.f2 m.f3 m.f4 m.f5 m.f6 m.f7 m.f8 m.f9 m.f10 m.f11 m.f12 m.f13 m.f14 m.f15 m.f16 m.f17 m.f18.f0 m.f18.f1 m.f18.f2 m.f18.f3 m.f18.f4 m.f18.f5 p.f0 p.f1 p.f2 p.f3 p.f4 p.f5 = some (if b = true then 10 else if p.f4 = m.f7 then (if (p.f5.size : Int) > 16 then 15 else if hasB m.f11 (p.f3 - 1) = true then 13 else 0) else 16) := by
          intro b
          rw [r24_Check.j1]
          cases b
          · rw [if_neg (show ¬ (false = true) by decide), if_neg (show ¬ (false = true) by decide)]
            by_cases h6 : p.f4 = m.f7
            · rw [if_pos h6, if_pos h6]
              by_cases h7 : (p.f5.size : Int) > 16
              · rw [if_pos h7, if_pos h7]
              · rw [if_neg h7, if_neg h7, w64 (by omega), FactsM.has23_eq, Option.bind_some]
                split <;> rfl
            · rw [if_neg h6, if_neg h6]
          · rw [if_pos rfl, if_pos rfl]
        by_cases h5 : inWinB c m (p.f3 - 1) = true
        · obtain ⟨a, b⟩ := of_decide_eq_true h5
          rw [if_neg (show ¬ (m.f0 - m.f1) % 65536 < (wiC c (p.f3 - 1)).1 by omega), if_pos h5, decide_eq_false (show ¬ (m.f0 - m.f1) % 65536 > (wiC c (p.f3 - 1)).2 by omega), hj, if_neg (by decide)]
        · rw [if_neg h5]
          by_cases h6 : (m.f0 - m.f1) % 65536 < (wiC c (p.f3 - 1)).1
          · rw [if_pos h6, hj, if_pos rfl]
          · rw [if_neg h6, decide_eq_true (show (m.f0 - m.f1) % 65536 > (wiC c (p.f3 - 1)).2 by
              refine Int.not_le.1 fun h' => h5 (decide_eq_true ⟨by omega, h'⟩)), hj, if_pos rfl]
      · rw [if_neg h4, if_neg h4]
    · rw [if_neg (by simpa using h3), if_neg h3]
  · rw [if_neg hp, if_neg hp]
    rfl
abbrev TT := ByteArray × ByteArray × Int × Int × Int × ByteArray × Int
def takeV (c : S24) (m : S30) (n : Int) (p : S32) : TT :=
  if chkV c m n p = 0 then (markV m.f11 (cl c.f10.length) [p.f3 - 1], markV m.f10 (cl c.f0) [n], n, p.f3 - 1, p.f4, p.f5, 0) else ((⟨#[]⟩ : ByteArray), (⟨#[]⟩ : ByteArray), 0, 0, 0, (⟨#[]⟩ : ByteArray), chkV c m n p)
theorem chk_0 {c : S24} {m : S30} {n : Int} {p : S32} (h : chkV c m n p = 0) : PlC c ∧ 1 ≤ p.f3 ∧ p.f3 ≤ c.f10.length ∧ m.f8 ≥ 2 ∧ owC c (p.f3 - 1) = n ∧ inWinB c m (p.f3 - 1) = true ∧ p.f4 = m.f7 ∧ (p.f5.size : Int) ≤ 16 ∧ hasB m.f11 (p.f3 - 1) = false := by
  unfold chkV at h
  by_cases hp : plC c = 0
  · rw [if_pos hp] at h
    by_cases h1 : p.f3 < 1 ∨ p.f3 > (c.f10.length : Int)
    · rw [if_pos h1] at h; omega
    rw [if_neg h1] at h
    by_cases h3 : m.f8 ≥ 2
    · rw [if_pos h3] at h
      by_cases h4 : owC c (p.f3 - 1) = n
      · rw [if_pos h4] at h
        by_cases h5 : inWinB c m (p.f3 - 1) = true
        · rw [if_pos h5] at h
          by_cases h6 : p.f4 = m.f7
          · rw [if_pos h6] at h
            by_cases h7 : (p.f5.size : Int) > 16
            · rw [if_pos h7] at h; omega
            rw [if_neg h7] at h
            by_cases h8 : hasB m.f11 (p.f3 - 1) = true
            · rw [if_pos h8] at h; omega
            · exact ⟨plain_iff.1 hp, by omega, by omega, h3, h4, h5, h6, by omega, by simpa using h8⟩
          · rw [if_neg h6] at h; omega
        · rw [if_neg h5] at h; omega
      · rw [if_neg h4] at h; omega
    · rw [if_neg h3] at h; omega
  · rw [if_neg hp] at h
    exact absurd h hp
theorem take_eq (c : S24) (m : S30) (n : Int) (p : S32) (k : Nat) (hk : 80 ≤ k) : accept_Take.f k c.f0 c.f1 c.f2 c.f3 c.f4 c.f5 c.f6 c.f7 c.f8 c.f9 c.f10 m.f0 m.f1 m.f2 m.f3 m.f4 m.f5 m.f6 m.f7 m.f8 m.f9 m.f10 m.f11 m.f12 m.f13 m.f14 m.f15 m.f16 m.f17 m.f18.f0 m.f18.f1 m.f18.f2 m.f18.f3 m.f18.f4 m.f18.f5 n p.f0 p.f1 p.f2 p.f3 p.f4 p.f5 = some (takeV c m n p) := by
  unfold accept_Take.f takeV
  rw [check_eq _ _ _ _ k (by omega), Option.bind_some]
  by_cases h : chkV c m n p = 0
  · obtain ⟨hp, h1, h2, _⟩ := chk_0 h
    have hl := hp.len
    rw [if_pos h, if_pos h, w64 (by omega), FactsM.gmark_eq _ _ _ (by simp) k (by simp; omega), Option.bind_some, FactsM.gmark_eq _ _ _ (by simp) k (by simp; omega), Option.bind_some]
  · rw [if_neg h, if_neg h]
theorem rtake_eq (c : S24) (m : S30) (n : Int) (p : S32) (k : Nat) (hk : 800 ≤ k) : r24_Take.f k c.f0 c.f1 c.f2 c.f3 c.f4 c.f5 c.f6 c.f7 c.f8 c.f9 c.f10 m.f0 m.f1 m.f2 m.f3 m.f4 m.f5 m.f6 m.f7 m.f8 m.f9 m.f10 m.f11 m.f12 m.f13 m.f14 m.f15 m.f16 m.f17 m.f18.f0 m.f18.f1 m.f18.f2 m.f18.f3 m.f18.f4 m.f18.f5 n p.f0 p.f1 p.f2 p.f3 p.f4 p.f5 = some (takeV c m n p) := by
  unfold r24_Take.f takeV
  rw [rcheck_eq _ _ _ _ k (by omega), Option.bind_some]
  by_cases h : chkV c m n p = 0
  · obtain ⟨hp, h1, h2, _⟩ := chk_0 h
    have hl := hp.len
    rw [if_pos h, if_pos h, w64 (by omega), FactsM.rmark_eq _ _ _ (by simp) k (by simp; omega), Option.bind_some, FactsM.rmark_eq _ _ _ (by simp) k (by simp; omega), Option.bind_some]
  · rw [if_neg h, if_neg h]
theorem known24 (k : Nat) (hk : 300 ≤ k) : l24_known.f k = some true := leo_up l24_known.mono hk (by decide +kernel)
end Go.Proofs.Ytebflimijebbnaa.Facts
