import Derived.Test.YthdoghhmooodjaaZPremiseLastGn0
import Derived.Test.YthdoghhmooodjaaZPremiseLastGn10
import Derived.Test.YthdoghhmooodjaaZPremiseLastScriptRead
namespace Go.Proofs.Ythdoghhmooodjaa.Facts
open Go.RowKit Go.Proofs.Ythdoghhmooodjaa.Gn Go.Proofs.YthdoghhmooodjaaW.PrintWords Go.Proofs.YthdoghhmooodjaaW.PrintLast
set_option linter.unusedVariables false
set_option linter.unusedSimpArgs false
theorem right_zero {s : SC} (h : rightV s = 0) : rightE s.f0.f0 s.f0.f1 s.f0.f2 s.f0.f3 s.f0.f4 s.f0.f5 s.f0.f6 s.f0.f7 s.f0.f8 s.f0.f9 s.f0.f10 = 0 ∧ fltV s.f0.f0 s.f1 s.f1.length 0 = true ∧ lateV s = false ∧ ticksV s.f0.f0 s.f3 = 0 := by
  unfold rightV at h
  split at h
  · rename_i h0
    split at h
    · rename_i h1
      split at h
      · omega
      · rename_i h2
        exact ⟨h0, h1, Bool.eq_false_iff.2 h2, h⟩
    · omega
  · rename_i h0
    exact absurd h h0
theorem right_plain {c0 c1 c2 c3 c4 c5 c6 c7 c8 c9 : Int} {l : List Int} (h : rightE c0 c1 c2 c3 c4 c5 c6 c7 c8 c9 l = 0) : plainE c0 c1 c2 c3 c4 c5 c6 c7 c8 c9 l = 0 := by
  unfold rightE at h
  split at h
  · assumption
  · rename_i h0
    first | exact absurd h h0 | omega
end Go.Proofs.Ythdoghhmooodjaa.Facts
