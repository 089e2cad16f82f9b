/- PremiseAfter holds for every input, without any condition: the law answers true, and each argument reads afterwards as it read before. -/
import Derived.Test.YthdoghhmooodjaaRows
import Derived.Test.YthdoghhmooodjaaZPremiseAfterStmtPremiseAfter
import Derived.Test.YthdoghhmooodjaaZPremiseAfterPurePremiseAfter
import Derived.WalkKit
import Derived.ProofKit
import Derived.OpenShut
import Derived.ShutString
import Derived.ChangeOld
import Derived.Below
import Derived.SizedLaws
namespace Go.Proofs.Ythdoghhmooodjaa.premiseAfter
open Go.ChangeShapes Go.WideShapes Go.ChangeAt Go.RowKit Go.Proofs.Ythdoghhmooodjaa.Opens
set_option linter.unusedVariables false
set_option linter.unusedSimpArgs false
theorem own : ownKnob Try.prog.godebug = none := by kernel_rfl
theorem laidOut : laidOutB Try.prog = true := by kernel_rfl
set_option maxRecDepth 100000 in
theorem lifted (os : Os) (started : os.Started) (H : Type) (enc : TypeId × Value → H) :
    ReturnsInHanded {} Try.checked os 9 .any (Rows.premiseAfterSpec.pre6 enc Try.prog Try.f9 Rows.premiseAfterRow.domain false) (Rows.premiseAfterSpec.post enc Try.prog Try.f9 false true false false) := by
  refine returnsInHanded_of_change_sized (C := Try.checked) own started (by kernel_rfl) Try.func9
    (ChangeSpec.witness6 (enc := enc) (C := Try.checked) false ⟨#[], #[.agg #[.int .i64 0, .int .i64 0, .int .i64 0, .int .i64 0, .int .i64 0, .int .i64 0, .int .i64 0, .int .i64 0, .int .i64 0, .int .i64 0, .slice none 0 0, .slice none 0 0, .slice none 0 0, .slice none 0 0], .string ByteArray.empty], []⟩ 8 (by kernel_rfl) (by kernel_rfl) (by kernel_rfl) (by kernel_rfl)) ?_
  intro W base args ds gs before hval0 hW hcnd hsz0 _
  have hsz : (DataW.weightsEach Try.prog (Try.f9.params.toList ++ Rows.premiseAfterSpec.plain.varTypes Try.prog) (ds ++ gs)).all (· ≤ reachBytes) = true := hsz0
  have hval : ∀ (j : Nat) t v, Try.f9.params[j]? = some t → args[j]? = some v → Value.okWide Try.prog W .any base t v := hval0
  have hW' := hW
  obtain ⟨p, q, hA0, hV, rfl, hfz, hnd⟩ := hW
  have hA : DataW.TrodAll enc Try.prog W 0 (fun _ => true) true Try.f9.params.toList args.toList ds p := hA0
  rw [Try.params9] at hA hval hsz
  obtain ⟨v0, vs0, d0, ds0, p0, q0, hargs, rfl, rfl, h0, r0⟩ := trodAll_cons hA
  obtain ⟨v1, vs1, d1, ds1, p1, q1, rfl, rfl, rfl, h1, r1⟩ := trodAll_cons r0
  obtain ⟨rfl, rfl, rfl⟩ := trodAll_nil r1
  obtain rfl : args = #[v0, v1] := by cases args; simp_all
  obtain ⟨rfl, rfl⟩ := trodVars_none hV
  obtain ⟨x0, K0, w0⟩ := opened Gn.opens28 h0 hsz (j := 0) rfl rfl
  obtain ⟨cs0, rfl⟩ := okWide_agg Try.underlying28 (hval 0 28 v0 rfl rfl)
  obtain ⟨A0_10, c0_10, A0_11, c0_11, A0_12, c0_12, A0_13, c0_13, e0, l0_10, g0_10, l0_11, g0_11, l0_12, g0_12, l0_13, g0_13⟩ := Gn.k28_open K0
  have e0_ := arr_of e0
  subst e0_
  clear e0
  obtain ⟨x1, K1, w1⟩ := opened (opens_str Try.underlying9 (by kernel_rfl)) h1 hsz (j := 1) rfl rfl
  obtain ⟨b1, rfl⟩ := okWide_string Try.underlying9 (hval 1 9 v1 rfl rfl)
  have e1 := one_of K1
  cases e1
  have pure_ := Pure.PremiseAfter x0 x1 w0 w1
  obtain ⟨k, pure_⟩ := pure_
  clear hA0 hval0 hsz0 hsz
  refine (Gn.l34_PremiseAfter.calls k _ _ _ _ _ _ _ _ _ _ _ _ _ _ _ _ _ _ _ _ _ _ _ true W g0_10 l0_10 g0_11 l0_11 g0_12 l0_12 g0_13 l0_13 pure_).mono fun e W' ⟨he, bel0⟩ => ?_
  have bel : Below W.heap.size W W' := bel0
  subst he
  exact ⟨_, rfl, _, _, _, [], _, [], hW', trodAll_mk1 (shut_bool Try.underlying4 _), (trodAll_cons_mk (Below.trod laidOut (by kernel_rfl) (of_decide_eq_true (by kernel_rfl)) h0 bel (trod_block h0)) (trodAll_cons_mk (Below.trod laidOut (by kernel_rfl) (of_decide_eq_true (by kernel_rfl)) h1 bel (trod_block h1)) trodAll_mk0)), rfl, bel.frame _, fun h => by cases h⟩
theorem over : Rows.premiseAfterRow.holds Try.pinned (OpenSpec.ofChange Rows.premiseAfterSpec) :=
  OpenClaim.holds_of_wide 9 Try.f9 rfl rfl rfl rfl rfl rfl rfl ⟨rfl, rfl, rfl, rfl, rfl⟩ rfl rfl rfl rfl rfl (by kernel_rfl) Try.func9 (by kernel_rfl)
    (of_decide_eq_true (by kernel_rfl)) (by unfold Func.isWrapper; first | (rw [if_pos (by decide +kernel)]; kernel_rfl) | (rw [if_neg (by decide +kernel)]; exact ⟨rfl, rfl⟩))
    (fun os started H enc _ => lifted os started H enc)
theorem proved : Rows.PremiseAfterSaid := over
#print axioms proved
end Go.Proofs.Ythdoghhmooodjaa.premiseAfter
namespace Go.Proofs.Ythdoghhmooodjaa
/-- The row, under a short name, for the claim. -/
theorem premiseAfter_holds : Rows.PremiseAfterSaid := premiseAfter.proved
end Go.Proofs.Ythdoghhmooodjaa
