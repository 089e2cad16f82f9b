import Derived.Test.YtebflimijebbnaaZAcceptAllAcceptFacts
import Derived.Test.YtebflimijebbnaaZAcceptAllGn0
import Derived.Test.YtebflimijebbnaaZAcceptAllGn17
import Derived.Test.YtebflimijebbnaaZAcceptAllGn1
import Derived.Test.YtebflimijebbnaaZAcceptAllGn35
namespace Go.Proofs.Ytebflimijebbnaa.Facts
open Go.RowKit Go.Proofs.Ytebflimijebbnaa.Gn Go.Proofs.YtebflimijebbnaaW.PrintWords Go.Proofs.YtebflimijebbnaaW.PrintLast
open FactsM (hasB markV cl)
set_option linter.unusedVariables false
abbrev PK (l : List S32) (j : Nat) : S32 := rd_T32 l (j : Int)
def delT (t : TT) : S35 := ⟨t.2.2.1, t.2.2.2.1, t.2.2.2.2.1, t.2.2.2.2.2.1⟩
def memT (m : S30) (t : TT) : S30 := { m with f11 := t.1, f10 := t.2.1 }
abbrev AR := ByteArray × ByteArray × (List S35) × Int
def allGo (c : S24) (l : List S32) : Nat → Nat → S30 → List S35 → Int → AR
  | 0, _, m, got, n => (m.f11, m.f10, got, n)
  | d + 1, j, m, got, n => if (PK l j).f3 = 0 then allGo c l d (j + 1) m got n else if (takeV c m (j : Int) (PK l j)).2.2.2.2.2.2 = 0 then allGo c l d (j + 1) (memT m (takeV c m (j : Int) (PK l j))) (got ++ [delT (takeV c m (j : Int) (PK l j))]) n else allGo c l d (j + 1) m got (n + 1)
theorem all_l0 (c : S24) (l : List S32) (hl : l.length ≤ 1000) : ∀ (d k j : Nat) (m : S30) (got : List S35) (n : Int), j + d = l.length → d + 81 ≤ k → got.length + d ≤ 1000 → 0 ≤ n → n + d ≤ 1000 → accept_All.l0 k got n l (l.length : Int) (j : Int) c.f0 c.f1 c.f2 c.f3 c.f4 c.f5 c.f6 c.f7 c.f8 c.f9 c.f10 m.f0 m.f1 m.f2 m.f3 m.f4 m.f5 m.f6 m.f7 m.f8 m.f9 m.f10 m.f11 m.f12 m.f13 m.f14 m.f15 m.f16 m.f17 m.f18.f0 m.f18.f1 m.f18.f2 m.f18.f3 m.f18.f4 m.f18.f5 = some (allGo c l d j m got n)
  | 0, k, j, m, got, n, h, hk, hg, h0, hn => by
    obtain ⟨k, rfl, _⟩ := peel (m := 0) (by omega : 0 + 1 ≤ k)
    rw [accept_All.l0, if_neg (by omega)]
    rfl
  | d + 1, k, j, m, got, n, h, hk, hg, h0, hn => by
    obtain ⟨k, rfl, hk'⟩ := peel (m := d + 81) (by omega)
    rw [accept_All.l0, if_pos (by omega), if_pos (by omega), if_pos (by omega), w64_step (by omega), allGo]
    by_cases e0 : (PK l j).f3 = 0
    · rw [if_pos e0, if_pos e0]
      exact all_l0 c l hl d k (j + 1) m got n (by omega) (by omega) (by omega) h0 (by omega)
    · rw [if_neg e0, if_neg e0, take_eq c m (j : Int) (PK l j) k (by omega), Option.bind_some]
      by_cases e1 : (takeV c m (j : Int) (PK l j)).2.2.2.2.2.2 = 0
      · rw [if_pos e1, if_pos e1, if_pos (by omega)]
        exact all_l0 c l hl d k (j + 1) (memT m (takeV c m (j : Int) (PK l j))) (got ++ [delT (takeV c m (j : Int) (PK l j))]) n (by omega) (by omega) (by simp; omega) h0 (by omega)
      · rw [if_neg e1, if_neg e1, w64 (by omega)]
        exact all_l0 c l hl d k (j + 1) m got (n + 1) (by omega) (by omega) (by omega) (by omega) (by omega)
theorem rall_l0 (c : S24) (l : List S32) (hl : l.length ≤ 1000) : ∀ (d k j : Nat) (m : S30) (got : List S35) (n : Int), j + d = l.length → d + 801 ≤ k → got.length + d ≤ 1000 → 0 ≤ n → n + d ≤ 1000 → r24_All.l0 k l got n (j : Int) c.f0 c.f1 c.f2 c.f3 c.f4 c.f5 c.f6 c.f7 c.f8 c.f9 c.f10 m.f0 m.f1 m.f2 m.f3 m.f4 m.f5 m.f6 m.f7 m.f8 m.f9 m.f10 m.f11 m.f12 m.f13 m.f14 m.f15 m.f16 m.f17 m.f18.f0 m.f18.f1 m.f18.f2 m.f18.f3 m.f18.f4 m.f18.f5 = some (allGo c l d j m got n)
  | 0, k, j, m, got, n, h, hk, hg, h0, hn => by
    obtain ⟨k, rfl, _⟩ := peel (m := 0) (by omega : 0 + 1 ≤ k)
    rw [r24_All.l0, if_neg (by omega)]
    rfl
  | d + 1, k, j, m, got, n, h, hk, hg, h0, hn => by
    obtain ⟨k, rfl, hk'⟩ := peel (m := d + 801) (by omega)
    rw [r24_All.l0, if_pos (by omega), if_pos (by omega), w64_step (by omega), allGo]
    by_cases e0 : (PK l j).f3 = 0
    · rw [if_pos e0, if_pos e0]
      exact rall_l0 c l hl d k (j + 1) m got n (by omega) (by omega) (by omega) h0 (by omega)
    · rw [if_neg e0, if_neg e0, rtake_eq c m (j : Int) (PK l j) k (by omega), Option.bind_some]
      by_cases e1 : (takeV c m (j : Int) (PK l j)).2.2.2.2.2.2 = 0
      · rw [if_pos e1, if_pos e1, if_pos (by omega)]
        exact rall_l0 c l hl d k (j + 1) (memT m (takeV c m (j : Int) (PK l j))) (got ++ [delT (takeV c m (j : Int) (PK l j))]) n (by omega) (by omega) (by simp; omega) h0 (by omega)
      · rw [if_neg e1, if_neg e1, w64 (by omega)]
        exact rall_l0 c l hl d k (j + 1) m got (n + 1) (by omega) (by omega) (by omega) (by omega) (by omega)
def allV (c : S24) (m : S30) (l : List S32) : AR := if plC c = 0 then allGo c l l.length 0 m [] 0 else ((⟨#[]⟩ : ByteArray), (⟨#[]⟩ : ByteArray), [], 0)
theorem acc_all_eq (c : S24) (m : S30) (l : List S32) (hl : l.length ≤ 1000) (k : Nat) (hk : l.length + 81 ≤ k) : accept_All.f k c.f0 c.f1 c.f2 c.f3 c.f4 c.f5 c.f6 c.f7 c.f8 c.f9 c.f10 m.f0 m.f1 m.f2 m.f3 m.f4 m.f5 m.f6 m.f7 m.f8 m.f9 m.f10 m.f11 m.f12 m.f13 m.f14 m.f15 m.f16 m.f17 m.f18.f0 m.f18.f1 m.f18.f2 m.f18.f3 m.f18.f4 m.f18.f5 l = some (allV c m l) := by
  unfold accept_All.f allV
  rw [plain_eq k (by omega), Option.bind_some]
  by_cases hp : plC c = 0
  · rw [if_pos hp, if_pos hp]
    exact all_l0 c l hl l.length k 0 m [] 0 (by omega) hk (by simpa using hl) (by omega) (by omega)
  · rw [if_neg hp, if_neg hp]
theorem acc_rall_eq (c : S24) (m : S30) (l : List S32) (hl : l.length ≤ 1000) (k : Nat) (hk : l.length + 801 ≤ k) : r24_All.f k c.f0 c.f1 c.f2 c.f3 c.f4 c.f5 c.f6 c.f7 c.f8 c.f9 c.f10 m.f0 m.f1 m.f2 m.f3 m.f4 m.f5 m.f6 m.f7 m.f8 m.f9 m.f10 m.f11 m.f12 m.f13 m.f14 m.f15 m.f16 m.f17 m.f18.f0 m.f18.f1 m.f18.f2 m.f18.f3 m.f18.f4 m.f18.f5 l = some (allV c m l) := by
  unfold r24_All.f allV
  rw [ref_plain_eq _ _ _ _ _ _ _ _ _ _ _ k (by omega), Option.bind_some]
  by_cases hp : plC c = 0
  · rw [if_pos hp, if_pos hp]
    exact rall_l0 c l hl l.length k 0 m [] 0 (by omega) hk (by simpa using hl) (by omega) (by omega)
  · rw [if_neg hp, if_neg hp]
theorem same_l0 (l : List S35) (hl : l.length ≤ 1000) : ∀ (d k j : Nat), j + d = l.length → d + 1 ≤ k → r24_Same.l0 k l l (j : Int) = some true
  | 0, k, j, h, hk => by
    obtain ⟨k, rfl, _⟩ := peel hk
    rw [r24_Same.l0, if_neg (by omega)]
  | d + 1, k, j, h, hk => by
    obtain ⟨k, rfl, hk'⟩ := peel hk
    rw [r24_Same.l0, if_pos (by omega), if_pos (by omega), if_pos (by omega), if_neg (by simp), w64_step (by omega)]
    exact same_l0 l hl d k (j + 1) (by omega) hk'
theorem same_eq (l : List S35) (hl : l.length ≤ 1000) (k : Nat) (hk : l.length + 1 ≤ k) : r24_Same.f k l l = some true := by
  unfold r24_Same.f
  rw [if_pos rfl]
  exact same_l0 l hl l.length k 0 (by omega) hk
theorem allGo_len (c : S24) (l : List S32) : ∀ (d j : Nat) (m : S30) (got : List S35) (n : Int), (allGo c l d j m got n).2.2.1.length ≤ got.length + d
  | 0, j, m, got, n => by simp [allGo]
  | d + 1, j, m, got, n => by
    rw [allGo]
    split
    · have := allGo_len c l d (j + 1) m got n; omega
    · split
      · have := allGo_len c l d (j + 1) (memT m (takeV c m (j : Int) (PK l j))) (got ++ [delT (takeV c m (j : Int) (PK l j))]) n
        simp at this
        omega
      · have := allGo_len c l d (j + 1) m got (n + 1); omega
theorem allV_len (c : S24) (m : S30) (l : List S32) : (allV c m l).2.2.1.length ≤ l.length := by
  unfold allV
  split
  · have := allGo_len c l l.length 0 m [] 0
    simpa using this
  · simp
end Go.Proofs.Ytebflimijebbnaa.Facts
