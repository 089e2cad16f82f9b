import Derived.Test.YtdcknaoamjlaiaaZGateSendsGn21
import Derived.Test.YtdcknaoamjlaiaaZGateSendsGn33
import Derived.Test.YtdcknaoamjlaiaaZGateSendsGn35
import Derived.Test.YtdcknaoamjlaiaaZGateSendsGn0
import Derived.Test.YtdcknaoamjlaiaaZGateSendsRingFacts0
import Derived.Test.YtdcknaoamjlaiaaZGateSendsGn52
import Derived.Test.YtdcknaoamjlaiaaZGateSendsGn58
import Derived.Test.YtdcknaoamjlaiaaZGateSendsConfFacts
import Derived.Test.YtdcknaoamjlaiaaZGateSendsBoundFacts
import Derived.Test.YtdcknaoamjlaiaaZGateSendsGn3
import Derived.Test.YtdcknaoamjlaiaaZGateSendsGn25
import Derived.Test.YtdcknaoamjlaiaaZGateSendsGn39
import Derived.Test.YtdcknaoamjlaiaaZGateSendsGn40
import Derived.Test.YtdcknaoamjlaiaaZGateSendsDueFacts
namespace Go.Proofs.Ytdcknaoamjlaiaa.Facts
open Go.RowKit Go.Proofs.Ytdcknaoamjlaiaa.Gn Go.Proofs.YtdcknaoamjlaiaaW.PrintWords Go.Proofs.YtdcknaoamjlaiaaW.PrintLast
theorem tmod_emod (a : Int) : (if Int.tmod a 65536 < 0 then wrap64 (Int.tmod a 65536 + 65536) else Int.tmod a 65536) = a % 65536 := by
  have h := Int.tmod_eq_emod (a := a) (b := 65536)
  unfold wrap64
  split <;> split at h <;> omega
theorem mod_wrap (a : Int) : num_Mod.f a 65536 = some (a % 65536) := by
  unfold num_Mod.f
  rw [if_neg (by decide), if_neg (by decide), ← tmod_emod a]
  split <;> rfl
theorem put_put (a : Int) : ring_put.f a = some (a % 65536) := by simp [ring_put.f, mod_wrap]
theorem diff_eq (a b : Int) : ring_Diff.f a b = some ((a - b) % 65536) := by
  simp only [ring_Diff.f, ring_clock_from.f, put_put, Option.bind_some]
  rw [w64 (by omega)]
  congr 1
  omega
theorem ref_mod_wrap (a : Int) : bellwetherref01_Mod.f a 65536 = some (a % 65536) := by
  unfold bellwetherref01_Mod.f
  rw [if_neg (by decide), if_neg (by decide), ← tmod_emod a]
  split <;> rfl
theorem ref_put_eq (a : Int) : bellwetherref05_Put.f a = some (a % 65536) := by simp [bellwetherref05_Put.f, ref_mod_wrap]
theorem ref_diff_eq (a b : Int) : bellwetherref05_Diff.f a b = some ((a - b) % 65536) := by
  simp only [bellwetherref05_Diff.f, ref_put_eq, Option.bind_some]
  rw [w64 (by omega)]
  congr 1
  omega
theorem elapsed_eq (a b : Int) : slot_Elapsed.f a b = some ((a - b) % 65536) := by
  unfold slot_Elapsed.f
  rw [diff_eq]
  rfl
theorem relapsed_eq (a b : Int) : bellwetherref22_Elapsed.f a b = some ((a - b) % 65536) := by
  unfold bellwetherref22_Elapsed.f
  rw [ref_diff_eq]
  rfl
end Go.Proofs.Ytdcknaoamjlaiaa.Facts
namespace Go.Proofs.Ytdcknaoamjlaiaa.Facts
open Go.RowKit Go.Proofs.Ytdcknaoamjlaiaa.Gn Go.Proofs.YtdcknaoamjlaiaaW.PrintWords Go.Proofs.YtdcknaoamjlaiaaW.PrintLast
set_option linter.unusedVariables false
def openV (c : S24) (m : S44) (n : Int) : Int := if m.f8 ≥ 2 then (if plainE c.f0 c.f1 c.f2 c.f3 c.f4 c.f5 c.f6 c.f7 c.f8 c.f9 c.f10 = 0 then dueR c.f0 c.f1 c.f2 c.f3 c.f4 c.f5 c.f6 c.f7 c.f8 c.f9 c.f10 n ((m.f0 - m.f1) % 65536) m.f12 else -1) else -1
theorem sync_eq (m : S44) : gate_Sync.f m.f0 m.f1 m.f2 m.f3 m.f4 m.f5 m.f6 m.f7 m.f8 m.f9 m.f10 m.f11 m.f12 m.f13 m.f14 m.f15 m.f16 m.f17 m.f18.f0 m.f18.f1 m.f18.f2 m.f18.f3 m.f18.f4 m.f18.f5 = some (decide (m.f8 ≥ 2)) := rfl
theorem rsync_eq (m : S44) : bellwetherref23_Sync.f m.f0 m.f1 m.f2 m.f3 m.f4 m.f5 m.f6 m.f7 m.f8 m.f9 m.f10 m.f11 m.f12 m.f13 m.f14 m.f15 m.f16 m.f17 m.f18.f0 m.f18.f1 m.f18.f2 m.f18.f3 m.f18.f4 m.f18.f5 = some (decide (m.f8 ≥ 2)) := rfl
theorem gopen_eq (c : S24) (m : S44) (n : Int) (k : Nat) (hk : 9 ≤ k) : gate_Open.f k c.f0 c.f1 c.f2 c.f3 c.f4 c.f5 c.f6 c.f7 c.f8 c.f9 c.f10 m.f0 m.f1 m.f2 m.f3 m.f4 m.f5 m.f6 m.f7 m.f8 m.f9 m.f10 m.f11 m.f12 m.f13 m.f14 m.f15 m.f16 m.f17 m.f18.f0 m.f18.f1 m.f18.f2 m.f18.f3 m.f18.f4 m.f18.f5 n = some (openV c m n) := by
  unfold gate_Open.f openV
  rw [sync_eq, Option.bind_some]
  by_cases h : m.f8 ≥ 2
  · rw [if_pos (decide_eq_true h), if_pos h, plain_eq k (by omega), Option.bind_some]
    obtain ⟨k, rfl, _⟩ := peel (m := 8) hk
    rw [gate_Open.j0]
    by_cases hp : plainE c.f0 c.f1 c.f2 c.f3 c.f4 c.f5 c.f6 c.f7 c.f8 c.f9 c.f10 = 0
    · rw [if_pos hp, if_neg (by rw [hp]; decide), elapsed_eq, Option.bind_some, due_eq _ _ _ _ _ _ _ _ _ _ _ _ _ _ k (by omega), Option.bind_some]
    · rw [if_neg hp, if_pos (bne_iff_ne.2 hp)]
  · rw [if_neg (by rw [decide_eq_false h]; decide), if_neg h]
    obtain ⟨k, rfl, _⟩ := peel (m := 8) hk
    rw [gate_Open.j0, if_pos rfl]
theorem ropen_eq (c : S24) (m : S44) (n : Int) (k : Nat) (hk : 801 ≤ k) : bellwetherref23_Open.f k c.f0 c.f1 c.f2 c.f3 c.f4 c.f5 c.f6 c.f7 c.f8 c.f9 c.f10 m.f0 m.f1 m.f2 m.f3 m.f4 m.f5 m.f6 m.f7 m.f8 m.f9 m.f10 m.f11 m.f12 m.f13 m.f14 m.f15 m.f16 m.f17 m.f18.f0 m.f18.f1 m.f18.f2 m.f18.f3 m.f18.f4 m.f18.f5 n = some (openV c m n) := by
  unfold bellwetherref23_Open.f openV
  rw [rsync_eq, Option.bind_some]
  by_cases h : m.f8 ≥ 2
  · rw [if_pos (decide_eq_true h), if_pos h, ref_plain_eq _ _ _ _ _ _ _ _ _ _ _ k (by omega), Option.bind_some]
    obtain ⟨k, rfl, _⟩ := peel (m := 800) hk
    rw [bellwetherref23_Open.j0]
    by_cases hp : plainE c.f0 c.f1 c.f2 c.f3 c.f4 c.f5 c.f6 c.f7 c.f8 c.f9 c.f10 = 0
    · rw [if_pos hp, if_neg (by rw [hp]; decide), relapsed_eq, Option.bind_some, rdue_eq _ _ _ _ _ _ _ _ _ _ _ _ _ _ k (by omega), Option.bind_some]
    · rw [if_neg hp, if_pos (bne_iff_ne.2 hp)]
  · rw [if_neg (by rw [decide_eq_false h]; decide), if_neg h]
    obtain ⟨k, rfl, _⟩ := peel (m := 800) hk
    rw [bellwetherref23_Open.j0, if_pos rfl]
end Go.Proofs.Ytdcknaoamjlaiaa.Facts
