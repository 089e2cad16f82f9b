import Derived.Test.YtdcknaoamjlaiaaZRosterMarksRosterFacts
import Derived.Test.YtdcknaoamjlaiaaZRosterMarksGn2
import Derived.Test.YtdcknaoamjlaiaaZRosterMarksGn3
import Derived.Test.YtdcknaoamjlaiaaZRosterMarksGn4
import Derived.Test.YtdcknaoamjlaiaaZRosterMarksGn5
import Derived.Test.YtdcknaoamjlaiaaZRosterMarksGn0
namespace Go.Proofs.Ytdcknaoamjlaiaa.Facts
open Go.RowKit Go.Proofs.Ytdcknaoamjlaiaa.Gn Go.Proofs.YtdcknaoamjlaiaaW.PrintWords Go.Proofs.YtdcknaoamjlaiaaW.PrintLast
section
variable (c0 c1 c2 c3 c4 c5 c6 c7 c8 c9 : Int) (c10 : List Int)
theorem blank_eq (k : Nat) (hk : 70 ≤ k) : roster_Blank.f k c0 c1 c2 c3 c4 c5 c6 c7 c8 c9 c10 = some (markV ⟨#[]⟩ (cl c0) []) := by
  unfold roster_Blank.f
  rw [gmark_eq _ _ _ (by simp) k (by simpa using hk)]
  rfl
theorem mark_eq (s : ByteArray) (l : List Int) (hl : l.length ≤ 1000) (k : Nat) (hk : l.length + 70 ≤ k) : roster_Mark.f k c0 c1 c2 c3 c4 c5 c6 c7 c8 c9 c10 s l = some (markV s (cl c0) l) := by
  unfold roster_Mark.f
  rw [gmark_eq _ _ _ hl k hk]
  rfl
theorem rblank_eq (k : Nat) (hk : 70 ≤ k) : bellwetherref25_Blank.f k c0 c1 c2 c3 c4 c5 c6 c7 c8 c9 c10 = some (markV ⟨#[]⟩ (cl c0) []) := by
  unfold bellwetherref25_Blank.f
  rw [rmark_eq _ _ _ (by simp) k (by simpa using hk)]
  rfl
theorem rrmark_eq (s : ByteArray) (l : List Int) (hl : l.length ≤ 1000) (k : Nat) (hk : l.length + 70 ≤ k) : bellwetherref25_Mark.f k c0 c1 c2 c3 c4 c5 c6 c7 c8 c9 c10 s l = some (markV s (cl c0) l) := by
  unfold bellwetherref25_Mark.f
  rw [rmark_eq _ _ _ hl k hk]
  rfl
theorem both_eq (s t : ByteArray) (k : Nat) (hk : 140 ≤ k) : roster_Both.f k c0 c1 c2 c3 c4 c5 c6 c7 c8 c9 c10 s t = some (markV ⟨#[]⟩ (cl c0) (whr (fun i => hasB s i && hasB t i) (cl c0 : Int))) := by
  have := cl_le c0
  have hl := whr_len (fun i => hasB s i && hasB t i) (cl c0)
  unfold roster_Both.f
  rw [blank_eq _ _ _ _ _ _ _ _ _ _ _ k (by omega), Option.bind_some, markV_size, if_pos (by omega), mark_eq _ _ _ _ _ _ _ _ _ _ _ _ _ (by omega) k (by omega)]
theorem rboth_l0 (s t : ByteArray) : ∀ (d k j : Nat), j + d = cl c0 → d + 140 ≤ k → bellwetherref25_Both.l0 k s t (whr (fun i => hasB s i && hasB t i) (j : Int)) (j : Int) c0 c1 c2 c3 c4 c5 c6 c7 c8 c9 c10 = some (markV ⟨#[]⟩ (cl c0) (whr (fun i => hasB s i && hasB t i) (cl c0 : Int)))
  | 0, k, j, h, hk => by
    obtain ⟨k, rfl, hk'⟩ := peel (m := 139) (by omega)
    have hc := cl_le c0
    have hl := whr_len (fun i => hasB s i && hasB t i) (cl c0)
    rw [bellwetherref25_Both.l0, rclamp_eq, Option.bind_some, if_neg (by omega), show j = cl c0 from by omega, rmark_eq _ _ _ (by omega) k (by omega)]
    rfl
  | d + 1, k, j, h, hk => by
    obtain ⟨k, rfl, hk'⟩ := peel (m := d + 140) (by omega)
    have hc := cl_le c0
    have ih := rboth_l0 s t d k (j + 1) (by omega) hk'
    have hl := whr_len (fun i => hasB s i && hasB t i) j
    rw [whr_succ] at ih
    rw [bellwetherref25_Both.l0, rclamp_eq, Option.bind_some, if_pos (by omega), has25_eq, Option.bind_some, has25_eq, w64_step (by omega), if_pos (show (whr (fun i => hasB s i && hasB t i) (j : Int)).length < 17592186044416 by omega)]
    cases e : hasB s (j : Int) with
    | false =>
      rw [e] at ih
      simpa using ih
    | true =>
      rw [e] at ih
      cases e2 : hasB t (j : Int) with
      | false =>
        rw [e2] at ih
        simpa using ih
      | true =>
        rw [e2] at ih
        simpa using ih
theorem rboth_eq (s t : ByteArray) (k : Nat) (hk : 210 ≤ k) : bellwetherref25_Both.f k c0 c1 c2 c3 c4 c5 c6 c7 c8 c9 c10 s t = some (markV ⟨#[]⟩ (cl c0) (whr (fun i => hasB s i && hasB t i) (cl c0 : Int))) := by
  have := cl_le c0
  exact rboth_l0 c0 c1 c2 c3 c4 c5 c6 c7 c8 c9 c10 s t (cl c0) k 0 (by omega) (by omega)
end
theorem leo_up {f : Nat → Option Bool} (h : ∀ k, LeO (f k) (f (k + 1))) {m k : Nat} (hk : m ≤ k) {b : Bool} (hm : f m = some b) : f k = some b := by
  obtain ⟨d, rfl⟩ : ∃ d, k = m + d := ⟨k - m, by omega⟩
  induction d with
  | zero => exact hm
  | succ d ih => exact h _ _ (ih (by omega))
end Go.Proofs.Ytdcknaoamjlaiaa.Facts
