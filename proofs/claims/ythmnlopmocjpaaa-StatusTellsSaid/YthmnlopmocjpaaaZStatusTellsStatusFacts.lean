import Derived.Test.YthmnlopmocjpaaaZStatusTellsGn0
import Derived.Test.YthmnlopmocjpaaaZStatusTellsGn4
import Derived.Test.YthmnlopmocjpaaaZStatusTellsGn9
import Derived.Test.YthmnlopmocjpaaaZStatusTellsGn10
import Derived.Test.YthmnlopmocjpaaaZStatusTellsGn11
import Derived.Test.YthmnlopmocjpaaaZStatusTellsGn15
import Derived.Test.YthmnlopmocjpaaaZStatusTellsGn16
import Derived.Test.YthmnlopmocjpaaaZStatusTellsGn17
import Derived.Test.YthmnlopmocjpaaaZStatusTellsGn20
import Derived.Test.YthmnlopmocjpaaaZStatusTellsGn26
import Derived.Test.YthmnlopmocjpaaaZStatusTellsGn31
import Derived.Test.YthmnlopmocjpaaaZStatusTellsGn32
import Derived.Test.YthmnlopmocjpaaaZStatusTellsRingFacts0
import Derived.Test.YthmnlopmocjpaaaZStatusTellsConfFacts
import Derived.Test.YthmnlopmocjpaaaZStatusTellsBoundFacts
import Derived.Test.YthmnlopmocjpaaaZStatusTellsSchedFacts
import Derived.Test.YthmnlopmocjpaaaZStatusTellsSlotRing
import Derived.Test.YthmnlopmocjpaaaZStatusTellsGateMarks
namespace Go.Proofs.Ythmnlopmocjpaaa.Facts
open Go.RowKit Go.Proofs.Ythmnlopmocjpaaa.Gn Go.Proofs.YthmnlopmocjpaaaW.PrintWords Go.Proofs.YthmnlopmocjpaaaW.PrintLast
open FactsM (markV cl gmark_eq rmark_eq)
set_option linter.unusedVariables false
theorem ssync_eq (m : S30) : gate_Sync.f m.f0 m.f1 m.f2 m.f3 m.f4 m.f5 m.f6 m.f7 m.f8 m.f9 m.f10 m.f11 m.f12 m.f13 m.f14 m.f15 m.f16 m.f17 m.f18.f0 m.f18.f1 m.f18.f2 m.f18.f3 m.f18.f4 m.f18.f5 = some (decide (m.f8 ≥ 2)) := rfl
theorem srsync_eq (m : S30) : r23_Sync.f m.f0 m.f1 m.f2 m.f3 m.f4 m.f5 m.f6 m.f7 m.f8 m.f9 m.f10 m.f11 m.f12 m.f13 m.f14 m.f15 m.f16 m.f17 m.f18.f0 m.f18.f1 m.f18.f2 m.f18.f3 m.f18.f4 m.f18.f5 = some (decide (m.f8 ≥ 2)) := rfl
def slotS (c : S24) (m : S30) : Int := if plainE c.f0 c.f1 c.f2 c.f3 c.f4 c.f5 c.f6 c.f7 c.f8 c.f9 c.f10 = 0 then (if m.f8 ≥ 2 then nowV c.f0 c.f1 c.f2 c.f3 c.f4 c.f5 c.f6 c.f7 c.f8 c.f9 c.f10 ((m.f0 - m.f1) % 65536) else -1) else -1
theorem sslot_eq (c : S24) (m : S30) (k : Nat) (hk : 9 ≤ k) : status_Slot.f k c.f0 c.f1 c.f2 c.f3 c.f4 c.f5 c.f6 c.f7 c.f8 c.f9 c.f10 m.f0 m.f1 m.f2 m.f3 m.f4 m.f5 m.f6 m.f7 m.f8 m.f9 m.f10 m.f11 m.f12 m.f13 m.f14 m.f15 m.f16 m.f17 m.f18.f0 m.f18.f1 m.f18.f2 m.f18.f3 m.f18.f4 m.f18.f5 = some (slotS c m) := by
  unfold status_Slot.f slotS
  rw [plain_eq k (by omega), Option.bind_some, ssync_eq, Option.bind_some]
  by_cases hp : plainE c.f0 c.f1 c.f2 c.f3 c.f4 c.f5 c.f6 c.f7 c.f8 c.f9 c.f10 = 0
  · rw [if_pos hp, if_pos hp]
    by_cases h : m.f8 ≥ 2
    · rw [if_pos (decide_eq_true h), if_pos h, now_eq _ _ _ _ _ _ _ _ _ _ _ _ _ k hk]
      rfl
    · rw [if_neg (by simpa using h), if_neg h]
  · rw [if_neg hp, if_neg hp]
theorem srslot_eq (c : S24) (m : S30) (k : Nat) (hk : 740 ≤ k) : r27_Slot.f k c.f0 c.f1 c.f2 c.f3 c.f4 c.f5 c.f6 c.f7 c.f8 c.f9 c.f10 m.f0 m.f1 m.f2 m.f3 m.f4 m.f5 m.f6 m.f7 m.f8 m.f9 m.f10 m.f11 m.f12 m.f13 m.f14 m.f15 m.f16 m.f17 m.f18.f0 m.f18.f1 m.f18.f2 m.f18.f3 m.f18.f4 m.f18.f5 = some (slotS c m) := by
  unfold r27_Slot.f slotS
  rw [ref_plain_eq _ _ _ _ _ _ _ _ _ _ _ k (by omega), Option.bind_some, srsync_eq, Option.bind_some]
  by_cases hp : plainE c.f0 c.f1 c.f2 c.f3 c.f4 c.f5 c.f6 c.f7 c.f8 c.f9 c.f10 = 0
  · rw [if_pos hp, if_pos hp]
    by_cases h : m.f8 ≥ 2
    · rw [if_pos (decide_eq_true h), if_pos h, rnow_eq _ _ _ _ _ _ _ _ _ _ _ _ _ k hk]
      rfl
    · rw [if_neg (by simpa using h), if_neg h]
  · rw [if_neg hp, if_neg hp]
def wordS (m : S30) : ByteArray := if m.f8 ≥ 2 then ⟨#[115, 121, 110, 99]⟩ else if m.f8 = 1 then ⟨#[110, 101, 97, 114]⟩ else ⟨#[108, 111, 115, 116]⟩
theorem sword_eq (m : S30) : status_Word.f m.f0 m.f1 m.f2 m.f3 m.f4 m.f5 m.f6 m.f7 m.f8 m.f9 m.f10 m.f11 m.f12 m.f13 m.f14 m.f15 m.f16 m.f17 m.f18.f0 m.f18.f1 m.f18.f2 m.f18.f3 m.f18.f4 m.f18.f5 = some (wordS m) := by
  unfold status_Word.f wordS
  rw [ssync_eq, Option.bind_some]
  by_cases h : m.f8 ≥ 2
  · rw [if_pos (decide_eq_true h), if_pos h]
  · rw [if_neg (by simpa using h), if_neg h]
    split <;> rfl
theorem srword_eq (m : S30) : r27_Word.f m.f0 m.f1 m.f2 m.f3 m.f4 m.f5 m.f6 m.f7 m.f8 m.f9 m.f10 m.f11 m.f12 m.f13 m.f14 m.f15 m.f16 m.f17 m.f18.f0 m.f18.f1 m.f18.f2 m.f18.f3 m.f18.f4 m.f18.f5 = some (wordS m) := by
  unfold r27_Word.f wordS
  rw [srsync_eq, Option.bind_some]
  by_cases h : m.f8 ≥ 2
  · rw [if_pos (decide_eq_true h), if_pos h]
  · rw [if_neg (by simpa using h), if_neg h]
    split <;> rfl
abbrev RS := Bool × Bool × Int × Int × ByteArray × Int × List S50
def repS (c : S24) (m : S30) (p : Bool) (s : Int) (l : List S50) : RS :=
  if plainE c.f0 c.f1 c.f2 c.f3 c.f4 c.f5 c.f6 c.f7 c.f8 c.f9 c.f10 = 0 then (p, decide (m.f8 ≥ 2), m.f7, slotS c m, markV m.f9 (cl c.f0) [], s, l) else (false, false, 0, -1, (⟨#[]⟩ : ByteArray), 0, [])
theorem report_eq (c : S24) (m : S30) (p : Bool) (s : Int) (l : List S50) (hl : l.length ≤ 1000) (k : Nat) (hk : 80 ≤ k) : status_Report.f k c.f0 c.f1 c.f2 c.f3 c.f4 c.f5 c.f6 c.f7 c.f8 c.f9 c.f10 m.f0 m.f1 m.f2 m.f3 m.f4 m.f5 m.f6 m.f7 m.f8 m.f9 m.f10 m.f11 m.f12 m.f13 m.f14 m.f15 m.f16 m.f17 m.f18.f0 m.f18.f1 m.f18.f2 m.f18.f3 m.f18.f4 m.f18.f5 p s l = some (repS c m p s l) := by
  unfold status_Report.f repS
  rw [plain_eq k (by omega), Option.bind_some]
  by_cases hp : plainE c.f0 c.f1 c.f2 c.f3 c.f4 c.f5 c.f6 c.f7 c.f8 c.f9 c.f10 = 0
  · rw [if_pos hp, if_pos hp, ssync_eq, Option.bind_some, sslot_eq c m k (by omega), Option.bind_some]
    unfold roster_Mark.f
    rw [gmark_eq _ _ _ (by simp) k (by simp; omega), Option.bind_some, Option.bind_some, if_pos (by omega), if_pos (by omega), if_pos (by rw [List.length_replicate]; omega)]
  · rw [if_neg hp, if_neg hp]
theorem rreport_eq (c : S24) (m : S30) (p : Bool) (s : Int) (l : List S50) (k : Nat) (hk : 800 ≤ k) : r27_Report.f k c.f0 c.f1 c.f2 c.f3 c.f4 c.f5 c.f6 c.f7 c.f8 c.f9 c.f10 m.f0 m.f1 m.f2 m.f3 m.f4 m.f5 m.f6 m.f7 m.f8 m.f9 m.f10 m.f11 m.f12 m.f13 m.f14 m.f15 m.f16 m.f17 m.f18.f0 m.f18.f1 m.f18.f2 m.f18.f3 m.f18.f4 m.f18.f5 p s l = some (repS c m p s l) := by
  unfold r27_Report.f repS
  rw [ref_plain_eq _ _ _ _ _ _ _ _ _ _ _ k (by omega), Option.bind_some]
  by_cases hp : plainE c.f0 c.f1 c.f2 c.f3 c.f4 c.f5 c.f6 c.f7 c.f8 c.f9 c.f10 = 0
  · rw [if_pos hp, if_pos hp, srsync_eq, Option.bind_some, srslot_eq c m k (by omega), Option.bind_some]
    unfold r25_Mark.f
    rw [rmark_eq _ _ _ (by simp) k (by simp; omega), Option.bind_some, Option.bind_some]
  · rw [if_neg hp, if_neg hp]
theorem ssame_l0 (l : List S50) (hl : l.length ≤ 1000) : ∀ (d k j : Nat), j + d = l.length → d + 1 ≤ k → r24_Same.l0 k l l (j : Int) = some true
  | 0, k, j, h, hk => by
    obtain ⟨k, rfl, _⟩ := peel hk
    rw [r24_Same.l0, if_neg (by omega)]
  | d + 1, k, j, h, hk => by
    obtain ⟨k, rfl, hk'⟩ := peel hk
    rw [r24_Same.l0, if_pos (by omega), if_pos (by omega), if_pos (by omega), if_neg (by simp), w64_step (by omega)]
    exact ssame_l0 l hl d k (j + 1) (by omega) hk'
theorem same27 (r : RS) (hl : r.2.2.2.2.2.2.length ≤ 1000) (k : Nat) (hk : 1001 ≤ k) : r27_Same.f k r.1 r.2.1 r.2.2.1 r.2.2.2.1 r.2.2.2.2.1 r.2.2.2.2.2.1 r.2.2.2.2.2.2 r.1 r.2.1 r.2.2.1 r.2.2.2.1 r.2.2.2.2.1 r.2.2.2.2.2.1 r.2.2.2.2.2.2 = some true := by
  unfold r27_Same.f r24_Same.f
  rw [if_pos (by simp), if_pos (by simp), if_pos rfl, if_pos rfl, if_pos rfl, if_pos rfl, if_pos rfl, show (0 : Int) = ((0 : Nat) : Int) from rfl, ssame_l0 r.2.2.2.2.2.2 hl r.2.2.2.2.2.2.length k 0 (by omega) (by omega)]
  rfl
theorem repS_len (c : S24) (m : S30) (p : Bool) (s : Int) (l : List S50) : (repS c m p s l).2.2.2.2.2.2.length ≤ l.length := by
  unfold repS
  split
  · exact Nat.le_refl _
  · exact Nat.zero_le _
theorem known27 (k : Nat) (hk : 300 ≤ k) : l27_known.f k = some true := leo_up l27_known.mono hk (by decide +kernel)
end Go.Proofs.Ythmnlopmocjpaaa.Facts
