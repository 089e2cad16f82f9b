/- RoundMachine holds for every input, without any condition: the law answers true, and each argument reads afterwards as it read before. -/
import Derived.Test.YtdnccjlfongdeaaRows
import Derived.Test.YtdnccjlfongdeaaZRoundMachineStmtRoundMachine
import Derived.Test.YtdnccjlfongdeaaZRoundMachinePureRoundMachine
import Derived.WalkKit
import Derived.ProofKit
import Derived.OpenShut
import Derived.ShutString
import Derived.ChangeOld
import Derived.Below
import Derived.SizedLaws
namespace Go.Proofs.Ytdnccjlfongdeaa.roundMachine
open Go.ChangeShapes Go.WideShapes Go.ChangeAt Go.RowKit Go.Proofs.Ytdnccjlfongdeaa.Opens
set_option linter.unusedVariables false
set_option linter.unusedSimpArgs false
theorem own : ownKnob Try.prog.godebug = none := by kernel_rfl
theorem laidOut : laidOutB Try.prog = true := by kernel_rfl
set_option maxRecDepth 100000 in
theorem lifted (os : Os) (started : os.Started) (H : Type) (enc : TypeId × Value → H) :
    ReturnsInHanded {} Try.checked os 5 .any (Rows.roundMachineSpec.pre6 enc Try.prog Try.f5 Rows.roundMachineRow.domain false) (Rows.roundMachineSpec.post enc Try.prog Try.f5 false true false false) := by
  refine returnsInHanded_of_change_sized (C := Try.checked) own started (by kernel_rfl) Try.func5
    (ChangeSpec.witness6 (enc := enc) (C := Try.checked) false ⟨#[], #[.agg #[.int .i64 0, .int .i64 0, .int .i64 0, .int .i64 0, .int .i64 0, .int .i64 0, .int .i64 0, .int .i64 0, .int .i64 0, .int .i64 0, .slice none 0 0, .slice none 0 0, .int .i64 0, .string ByteArray.empty], .slice none 0 0, .slice none 0 0], []⟩ 8 (by kernel_rfl) (by kernel_rfl) (by kernel_rfl) (by kernel_rfl)) ?_
  intro W base args ds gs before hval0 hW hcnd hsz0 _
  have hsz : (DataW.weightsEach Try.prog (Try.f5.params.toList ++ Rows.roundMachineSpec.plain.varTypes Try.prog) (ds ++ gs)).all (· ≤ reachBytes) = true := hsz0
  have hval : ∀ (j : Nat) t v, Try.f5.params[j]? = some t → args[j]? = some v → Value.okWide Try.prog W .any base t v := hval0
  have hW' := hW
  obtain ⟨p, q, hA0, hV, rfl, hfz, hnd⟩ := hW
  have hA : DataW.TrodAll enc Try.prog W 0 (fun _ => true) true Try.f5.params.toList args.toList ds p := hA0
  rw [Try.params5] at hA hval hsz
  obtain ⟨v0, vs0, d0, ds0, p0, q0, hargs, rfl, rfl, h0, r0⟩ := trodAll_cons hA
  obtain ⟨v1, vs1, d1, ds1, p1, q1, rfl, rfl, rfl, h1, r1⟩ := trodAll_cons r0
  obtain ⟨v2, vs2, d2, ds2, p2, q2, rfl, rfl, rfl, h2, r2⟩ := trodAll_cons r1
  obtain ⟨rfl, rfl, rfl⟩ := trodAll_nil r2
  obtain rfl : args = #[v0, v1, v2] := by cases args; simp_all
  obtain ⟨rfl, rfl⟩ := trodVars_none hV
  obtain ⟨x0, K0, w0⟩ := opened Gn.opens26 h0 hsz (j := 0) rfl rfl
  obtain ⟨cs0, rfl⟩ := okWide_agg Try.underlying26 (hval 0 26 v0 rfl rfl)
  obtain ⟨A0_10, c0_10, A0_11, c0_11, e0, l0_10, g0_10, l0_11, g0_11⟩ := Gn.k26_open K0
  have e0_ := arr_of e0
  subst e0_
  clear e0
  obtain ⟨x1, K1, w1⟩ := opened (opens_slice Try.underlying27 (by kernel_rfl) (by kernel_rfl) (opens_str Try.underlying9 (by kernel_rfl))) h1 hsz (j := 1) rfl rfl
  obtain ⟨a1, n1, m1, rfl⟩ := okWide_slice Try.underlying27 (hval 1 27 v1 rfl rfl)
  obtain ⟨A1, c1, e1, l1, g1⟩ := K1
  obtain ⟨rfl, rfl, rfl⟩ := slice_of e1
  obtain ⟨x2, K2, w2⟩ := opened (opens_slice Try.underlying28 (by kernel_rfl) (by kernel_rfl) (opens_slice Try.underlying42 (by kernel_rfl) (by kernel_rfl) Gn.opens45)) h2 hsz (j := 2) rfl rfl
  obtain ⟨a2, n2, m2, rfl⟩ := okWide_slice Try.underlying28 (hval 2 28 v2 rfl rfl)
  obtain ⟨A2, c2, e2, l2, g2⟩ := K2
  obtain ⟨rfl, rfl, rfl⟩ := slice_of e2
  have pure_ := Pure.RoundMachine x0 x1 x2 w0 w1 w2
  obtain ⟨k, pure_⟩ := pure_
  clear hA0 hval0 hsz0 hsz
  refine (Gn.l38_RoundMachine.calls k _ _ _ _ _ _ _ _ _ _ _ _ _ _ _ _ _ _ _ _ _ _ _ _ true W g0_10 l0_10 g0_11 l0_11 g1 l1 g2 l2 pure_).mono fun e W' ⟨he, bel0⟩ => ?_
  have bel : Below W.heap.size W W' := bel0
  subst he
  exact ⟨_, rfl, _, _, _, [], _, [], hW', trodAll_mk1 (shut_bool Try.underlying4 _), (trodAll_cons_mk (Below.trod laidOut (by kernel_rfl) (of_decide_eq_true (by kernel_rfl)) h0 bel (trod_block h0)) (trodAll_cons_mk (Below.trod laidOut (by kernel_rfl) (of_decide_eq_true (by kernel_rfl)) h1 bel (trod_block h1)) (trodAll_cons_mk (Below.trod laidOut (by kernel_rfl) (of_decide_eq_true (by kernel_rfl)) h2 bel (trod_block h2)) trodAll_mk0))), rfl, bel.frame _, fun h => by cases h⟩
theorem over : Rows.roundMachineRow.holds Try.pinned (OpenSpec.ofChange Rows.roundMachineSpec) :=
  OpenClaim.holds_of_wide 5 Try.f5 rfl rfl rfl rfl rfl rfl rfl ⟨rfl, rfl, rfl, rfl, rfl⟩ rfl rfl rfl rfl rfl (by kernel_rfl) Try.func5 (by kernel_rfl)
    (of_decide_eq_true (by kernel_rfl)) (by unfold Func.isWrapper; first | (rw [if_pos (by decide +kernel)]; kernel_rfl) | (rw [if_neg (by decide +kernel)]; exact ⟨rfl, rfl⟩))
    (fun os started H enc _ => lifted os started H enc)
theorem proved : Rows.RoundMachineSaid := over
#print axioms proved
end Go.Proofs.Ytdnccjlfongdeaa.roundMachine
namespace Go.Proofs.Ytdnccjlfongdeaa
/-- The row, under a short name, for the claim. -/
theorem roundMachine_holds : Rows.RoundMachineSaid := roundMachine.proved
end Go.Proofs.Ytdnccjlfongdeaa
