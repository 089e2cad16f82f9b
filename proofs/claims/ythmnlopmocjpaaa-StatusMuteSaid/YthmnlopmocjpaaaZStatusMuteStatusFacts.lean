import Derived.Test.YthmnlopmocjpaaaZStatusMuteGn0
import Derived.Test.YthmnlopmocjpaaaZStatusMuteGn4
import Derived.Test.YthmnlopmocjpaaaZStatusMuteGn9
import Derived.Test.YthmnlopmocjpaaaZStatusMuteGn10
import Derived.Test.YthmnlopmocjpaaaZStatusMuteGn11
import Derived.Test.YthmnlopmocjpaaaZStatusMuteGn15
import Derived.Test.YthmnlopmocjpaaaZStatusMuteGn16
import Derived.Test.YthmnlopmocjpaaaZStatusMuteGn17
import Derived.Test.YthmnlopmocjpaaaZStatusMuteGn2
import Derived.Test.YthmnlopmocjpaaaZStatusMuteRingFacts0
import Derived.Test.YthmnlopmocjpaaaZStatusMuteCommon
import Derived.Test.YthmnlopmocjpaaaZStatusMuteConfFacts
import Derived.Test.YthmnlopmocjpaaaZStatusMuteBoundFacts
import Derived.Test.YthmnlopmocjpaaaZStatusMuteSchedFacts
import Derived.Test.YthmnlopmocjpaaaZStatusMuteSlotRing
import Derived.Test.YthmnlopmocjpaaaZStatusMuteSlotFacts
import Derived.Test.YthmnlopmocjpaaaZStatusMuteGateMarks
namespace Go.Proofs.Ythmnlopmocjpaaa.Facts
open Go.RowKit Go.Proofs.Ythmnlopmocjpaaa.Gn Go.Proofs.YthmnlopmocjpaaaW.PrintWords Go.Proofs.YthmnlopmocjpaaaW.PrintLast
open FactsM (markV cl gmark_eq)
set_option linter.unusedVariables false
theorem ssync_eq (m : S30) : gate_Sync.f m.f0 m.f1 m.f2 m.f3 m.f4 m.f5 m.f6 m.f7 m.f8 m.f9 m.f10 m.f11 m.f12 m.f13 m.f14 m.f15 m.f16 m.f17 m.f18.f0 m.f18.f1 m.f18.f2 m.f18.f3 m.f18.f4 m.f18.f5 = some (decide (m.f8 ≥ 2)) := rfl
def slotS (c : S24) (m : S30) : Int := if plainE c.f0 c.f1 c.f2 c.f3 c.f4 c.f5 c.f6 c.f7 c.f8 c.f9 c.f10 = 0 then (if m.f8 ≥ 2 then nowV c.f0 c.f1 c.f2 c.f3 c.f4 c.f5 c.f6 c.f7 c.f8 c.f9 c.f10 ((m.f0 - m.f1) % 65536) else -1) else -1
theorem sslot_eq (c : S24) (m : S30) (k : Nat) (hk : 9 ≤ k) : status_Slot.f k c.f0 c.f1 c.f2 c.f3 c.f4 c.f5 c.f6 c.f7 c.f8 c.f9 c.f10 m.f0 m.f1 m.f2 m.f3 m.f4 m.f5 m.f6 m.f7 m.f8 m.f9 m.f10 m.f11 m.f12 m.f13 m.f14 m.f15 m.f16 m.f17 m.f18.f0 m.f18.f1 m.f18.f2 m.f18.f3 m.f18.f4 m.f18.f5 = some (slotS c m) := by
  unfold status_Slot.f slotS
  rw [plain_eq k (by omega), Option.bind_some, ssync_eq, Option.bind_some]
  by_cases hp : plainE c.f0 c.f1 c.f2 c.f3 c.f4 c.f5 c.f6 c.f7 c.f8 c.f9 c.f10 = 0
  · rw [if_pos hp, if_pos hp]
    by_cases h : m.f8 ≥ 2
    · rw [if_pos (decide_eq_true h), if_pos h, now_eq _ _ _ _ _ _ _ _ _ _ _ _ _ k hk]
      rfl
    · rw [if_neg (by simpa using h), if_neg h]
  · rw [if_neg hp, if_neg hp]
def wordS (m : S30) : ByteArray := if m.f8 ≥ 2 then ⟨#[115, 121, 110, 99]⟩ else if m.f8 = 1 then ⟨#[110, 101, 97, 114]⟩ else ⟨#[108, 111, 115, 116]⟩
theorem sword_eq (m : S30) : status_Word.f m.f0 m.f1 m.f2 m.f3 m.f4 m.f5 m.f6 m.f7 m.f8 m.f9 m.f10 m.f11 m.f12 m.f13 m.f14 m.f15 m.f16 m.f17 m.f18.f0 m.f18.f1 m.f18.f2 m.f18.f3 m.f18.f4 m.f18.f5 = some (wordS m) := by
  unfold status_Word.f wordS
  rw [ssync_eq, Option.bind_some]
  by_cases h : m.f8 ≥ 2
  · rw [if_pos (decide_eq_true h), if_pos h]
  · rw [if_neg (by simpa using h), if_neg h]
    split <;> rfl
theorem word_sync (m : S30) : (wordS m).toList = ([115, 121, 110, 99] : List UInt8) ↔ m.f8 ≥ 2 := by
  unfold wordS
  by_cases h : m.f8 ≥ 2
  · rw [if_pos h]
    exact ⟨fun _ => h, fun _ => by decide +kernel⟩
  · rw [if_neg h]
    by_cases h1 : m.f8 = 1
    · rw [if_pos h1]
      exact ⟨fun e => absurd e (by decide +kernel), fun e => absurd e h⟩
    · rw [if_neg h1]
      exact ⟨fun e => absurd e (by decide +kernel), fun e => absurd e h⟩
abbrev RS := Bool × Bool × Int × Int × ByteArray × Int × List S50
def repS (c : S24) (m : S30) (p : Bool) (s : Int) (l : List S50) : RS :=
  if plainE c.f0 c.f1 c.f2 c.f3 c.f4 c.f5 c.f6 c.f7 c.f8 c.f9 c.f10 = 0 then (p, decide (m.f8 ≥ 2), m.f7, slotS c m, markV m.f9 (cl c.f0) [], s, l) else (false, false, 0, -1, (⟨#[]⟩ : ByteArray), 0, [])
theorem report_eq (c : S24) (m : S30) (p : Bool) (s : Int) (l : List S50) (hl : l.length ≤ 1000) (k : Nat) (hk : 80 ≤ k) : status_Report.f k c.f0 c.f1 c.f2 c.f3 c.f4 c.f5 c.f6 c.f7 c.f8 c.f9 c.f10 m.f0 m.f1 m.f2 m.f3 m.f4 m.f5 m.f6 m.f7 m.f8 m.f9 m.f10 m.f11 m.f12 m.f13 m.f14 m.f15 m.f16 m.f17 m.f18.f0 m.f18.f1 m.f18.f2 m.f18.f3 m.f18.f4 m.f18.f5 p s l = some (repS c m p s l) := by
  unfold status_Report.f repS
  rw [plain_eq k (by omega), Option.bind_some]
  by_cases hp : plainE c.f0 c.f1 c.f2 c.f3 c.f4 c.f5 c.f6 c.f7 c.f8 c.f9 c.f10 = 0
  · rw [if_pos hp, if_pos hp, ssync_eq, Option.bind_some, sslot_eq c m k (by omega), Option.bind_some]
    unfold roster_Mark.f
    rw [gmark_eq _ _ _ (by simp) k (by simp; omega), Option.bind_some, Option.bind_some, if_pos (by omega), if_pos (by omega), if_pos (by rw [List.length_replicate]; omega)]
  · rw [if_neg hp, if_neg hp]
theorem repS_slot (c : S24) (m : S30) (p : Bool) (s : Int) (l : List S50) : (repS c m p s l).2.2.2.1 = slotS c m := by
  unfold repS slotS
  split
  · rfl
  · rfl
theorem known27 (k : Nat) (hk : 300 ≤ k) : l27_known.f k = some true := leo_up l27_known.mono hk (by decide +kernel)
end Go.Proofs.Ythmnlopmocjpaaa.Facts
