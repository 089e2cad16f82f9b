import Derived.Test.YtebflimijebbnaaZAcceptOneAcceptFacts
import Derived.Test.YtebflimijebbnaaZAcceptOneGn0
import Derived.Test.YtebflimijebbnaaZAcceptOneGn17
import Derived.Test.YtebflimijebbnaaZAcceptOneGn18
import Derived.Test.YtebflimijebbnaaZAcceptOneGn2
import Derived.Test.YtebflimijebbnaaZAcceptOneGn21
import Derived.Test.YtebflimijebbnaaZAcceptOneGn23
import Derived.Test.YtebflimijebbnaaZAcceptOneGn24
namespace Go.Proofs.Ytebflimijebbnaa.Facts
open Go.RowKit Go.Proofs.Ytebflimijebbnaa.Gn Go.Proofs.YtebflimijebbnaaW.PrintWords Go.Proofs.YtebflimijebbnaaW.PrintLast
open FactsM (hasB markV cl)
set_option linter.unusedVariables false
abbrev PK (l : List S32) (j : Nat) : S32 := rd_T32 l (j : Int)
def delT (t : TT) : S35 := ⟨t.2.2.1, t.2.2.2.1, t.2.2.2.2.1, t.2.2.2.2.2.1⟩
def memT (m : S30) (t : TT) : S30 := { m with f11 := t.1, f10 := t.2.1 }
abbrev AR := ByteArray × ByteArray × (List S35) × Int
def allGo (c : S24) (l : List S32) : Nat → Nat → S30 → List S35 → Int → AR
  | 0, _, m, got, n => (m.f11, m.f10, got, n)
  | d + 1, j, m, got, n => if (PK l j).f3 = 0 then allGo c l d (j + 1) m got n else if (takeV c m (j : Int) (PK l j)).2.2.2.2.2.2 = 0 then allGo c l d (j + 1) (memT m (takeV c m (j : Int) (PK l j))) (got ++ [delT (takeV c m (j : Int) (PK l j))]) n else allGo c l d (j + 1) m got (n + 1)
theorem all_l0 (c : S24) (l : List S32) (hl : l.length ≤ 1000) : ∀ (d k j : Nat) (m : S30) (got : List S35) (n : Int), j + d = l.length → d + 81 ≤ k → got.length + d ≤ 1000 → 0 ≤ n → n + d ≤ 1000 → accept_All.l0 k got n l (l.length : Int) (j : Int) c.f0 c.f1 c.f2 c.f3 c.f4 c.f5 c.f6 c.f7 c.f8 c.f9 c.f10 m.f0 m.f1 m.f2 m.f3 m.f4 m.f5 m.f6 m.f7 m.f8 m.f9 m.f10 m.f11 m.f12 m.f13 m.f14 m.f15 m.f16 m.f17 m.f18.f0 m.f18.f1 m.f18.f2 m.f18.f3 m.f18.f4 m.f18.f5 = some (allGo c l d j m got n)
  | 0, k, j, m, got, n, h, hk, hg, h0, hn => by
    obtain ⟨k, rfl, _⟩ := peel (m := 0) (by omega : 0 + 1 ≤ k)
    rw [accept_All.l0, if_neg (by omega)]
    rfl
  | d + 1, k, j, m, got, n, h, hk, hg, h0, hn => by
    obtain ⟨k, rfl, hk'⟩ := peel (m := d + 81) (by omega)
    rw [accept_All.l0, if_pos (by omega), if_pos (by omega), if_pos (by omega), w64_step (by omega), allGo]
    by_cases e0 : (PK l j).f3 = 0
    · rw [if_pos e0, if_pos e0]
      exact all_l0 c l hl d k (j + 1) m got n (by omega) (by omega) (by omega) h0 (by omega)
    · rw [if_neg e0, if_neg e0, take_eq c m (j : Int) (PK l j) k (by omega), Option.bind_some]
      by_cases e1 : (takeV c m (j : Int) (PK l j)).2.2.2.2.2.2 = 0
      · rw [if_pos e1, if_pos e1, if_pos (by omega)]
        exact all_l0 c l hl d k (j + 1) (memT m (takeV c m (j : Int) (PK l j))) (got ++ [delT (takeV c m (j : Int) (PK l j))]) n (by omega) (by omega) (by simp; omega) h0 (by omega)
      · rw [if_neg e1, if_neg e1, w64 (by omega)]
        exact all_l0 c l hl d k (j + 1) m got (n + 1) (by omega) (by omega) (by omega) (by omega) (by omega)
def allV (c : S24) (m : S30) (l : List S32) : AR := if plC c = 0 then allGo c l l.length 0 m [] 0 else ((⟨#[]⟩ : ByteArray), (⟨#[]⟩ : ByteArray), [], 0)
theorem acc_all_eq (c : S24) (m : S30) (l : List S32) (hl : l.length ≤ 1000) (k : Nat) (hk : l.length + 81 ≤ k) : accept_All.f k c.f0 c.f1 c.f2 c.f3 c.f4 c.f5 c.f6 c.f7 c.f8 c.f9 c.f10 m.f0 m.f1 m.f2 m.f3 m.f4 m.f5 m.f6 m.f7 m.f8 m.f9 m.f10 m.f11 m.f12 m.f13 m.f14 m.f15 m.f16 m.f17 m.f18.f0 m.f18.f1 m.f18.f2 m.f18.f3 m.f18.f4 m.f18.f5 l = some (allV c m l) := by
  unfold accept_All.f allV
  rw [plain_eq k (by omega), Option.bind_some]
  by_cases hp : plC c = 0
  · rw [if_pos hp, if_pos hp]
    exact all_l0 c l hl l.length k 0 m [] 0 (by omega) hk (by simpa using hl) (by omega) (by omega)
  · rw [if_neg hp, if_neg hp]
theorem mark_has (s : ByteArray) (n : Nat) (l : List Int) (i : Nat) : hasB (markV s n l) (i : Int) = (decide (i < n) && (hasB s (i : Int) || l.contains (i : Int))) := by
  by_cases h : i < n
  · rw [FactsM.hasB_in (by rw [FactsM.markV_size]; omega), decide_eq_true h, Bool.true_and]
    have e : bt (markV s n l) (i : Int) = FactsM.markI s l i := by
      unfold bt
      have hs : (i : Int).toNat < (markV s n l).size := by rw [FactsM.markV_size]; simpa using h
      rw [dif_pos hs]
      have : (markV s n l)[(i : Int).toNat]'hs = UInt8.ofNat (FactsM.markI s l i).toNat := by
        show ((((List.range n).map (FactsM.markI s l)).map fun (n : Int) => UInt8.ofNat n.toNat).toArray)[i]'_ = _
        simp
      rw [this]
      unfold FactsM.markI
      split <;> rfl
    rw [e]
    unfold FactsM.markI
    cases (hasB s (i : Int) || l.contains (i : Int)) <;> rfl
  · rw [FactsM.hasB_out (by rw [FactsM.markV_size]; omega), decide_eq_false h]
    rfl
theorem mark_at (s : ByteArray) (a i : Int) (h : 0 ≤ i) (h1 : i < a) (h2 : a ≤ 64) : hasB (markV s (cl a) [i]) i = true := by
  obtain ⟨j, rfl⟩ : ∃ j : Nat, i = j := ⟨i.toNat, by omega⟩
  rw [mark_has]
  have := FactsM.cl_id (a := a) (by omega) h2
  simp
  omega
end Go.Proofs.Ytebflimijebbnaa.Facts
