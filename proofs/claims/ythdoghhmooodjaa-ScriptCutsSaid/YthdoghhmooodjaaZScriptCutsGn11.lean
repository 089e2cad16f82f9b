import Derived.Test.YthdoghhmooodjaaZScriptCutsGn1
import Derived.Test.YthdoghhmooodjaaZScriptCutsGn0
import Derived.Test.YthdoghhmooodjaaZScriptCutsGn10
import Derived.Shelf.Abstract
namespace Go.Proofs.Ythdoghhmooodjaa.Gn
open Go.RowKit Go.Proofs.YthdoghhmooodjaaW.PrintWords Go.Proofs.YthdoghhmooodjaaW.PrintLast Go.Proofs.YthdoghhmooodjaaW.PrintMore
attribute [local go_sem] max2_int min2_int max_two min_two max_three min_three max_four min_four   -- for this text's walks alone
set_option linter.unusedVariables false
set_option linter.unusedSimpArgs false
set_option maxHeartbeats 8000000 in
set_option maxRecDepth 100000 in
theorem script_every_send.calls (p : S74 → Bool) (A0 : Option Addr) (c0 : Nat) (l0 : List S74) (g : Nat) (lb : Array Value) (eg : ∀ args w, (callFunc g args).run Try.prog w = .ok (.enter g args) w) (w : World) (hr0 : Kd.C k74 w A0 l0.length l0) (hp : ∀ W, Below w.heap.size w W → ∀ x : S74, Calls Try.prog g (#[.agg #[.int .i64 x.f0, .int .i64 x.f1, .int .i64 x.f2, .string x.f3]] ++ lb) W fun e W' => e = .returned (.bool (p x)) ∧ Below W.heap.size W W') :
  Calls Try.prog 69 #[.slice A0 l0.length c0, .func (.func g) #[] lb] w fun e w' => e = .returned (.bool (l0.all p)) ∧ Below w.heap.size w w' := by
 have hu := Try.underlying74
 have HR0 := am_ hr0
 clear hr0
 have HB := am_ (Below.refl w.heap.size w)
 go_enter Try.func69, Try.ntmps69
 go_wp2
 go_loopg [9] l0.length (fun kq v9 w' => ∃ j : Nat, v9 = .int .i64 (j : Int) ∧ j + kq = l0.length ∧ Aside0 ((l0.take j).all p = true) ∧ Aside0 (Below w.heap.size w w'))
 case atStart => exact ⟨0, rfl, by omega, ⟨by simp⟩, HB⟩
 case round =>
  obtain ⟨j, rfl, hj, HA, HB⟩ := hrel
  cases gk with
  | zero =>
   have c : decide ((j : Int) < (l0.length : Int)) = false := decide_eq_false (by omega)
   have e : l0.all p = true := by have := HA.out; rwa [List.take_of_length_le (by omega)] at this
   go_wp2
   go_ret
   exact ⟨by rw [e]; rfl, HB.out⟩
  | succ k1 =>
   have hlt : j < l0.length := by omega
   have c : decide ((j : Int) < (l0.length : Int)) = true := decide_eq_true (by omega)
   have ew : wrap64 ((j : Int) + 1) = ((j + 1 : Nat) : Int) := by have := Kd.C_max HR0.out; unfold wrap64; omega
   have hq : l0.getD j z74 = rd_T74 l0 (j : Int) := rfl
   obtain ⟨ad402, e402, hx_0, hx_1, hx_2, hx_3⟩ := at_T74 HR0.out (j : Int) (by omega) (by omega)
   cases e402
   rw [Int.toNat_natCast] at hx_0
   replace hx_0 := (HB.out.cell (World.block_lt_of_cell? w _ hx_0)).trans hx_0
   rw [Int.toNat_natCast] at hx_1
   replace hx_1 := (HB.out.cell (World.block_lt_of_cell? w _ hx_1)).trans hx_1
   rw [Int.toNat_natCast] at hx_2
   replace hx_2 := (HB.out.cell (World.block_lt_of_cell? w _ hx_2)).trans hx_2
   rw [Int.toNat_natCast] at hx_3
   replace hx_3 := (HB.out.cell (World.block_lt_of_cell? w _ hx_3)).trans hx_3
   have p402 : (0 ≤ (j : Int)) = True := eq_true (by omega)
   have q402 : ((j : Int) < (l0.length : Int)) = True := eq_true (by omega)
   cases hpx : p (rd_T74 l0 (j : Int)) with
   | false =>
    have hn := noall p l0 z74 j hlt (by rw [hq]; exact hpx)
    clear hlt hq hj
    go_wp2_with (go_at_fn g; refine (hp _ (below_alloc HB.out _) (rd_T74 l0 (j : Int))).mono ?_; rintro e W' ⟨rfl, hb⟩; rw [hpx]; replace HB := am_ (below_step (below_alloc HB.out _) hb); clear hb)
    go_ret
    exact ⟨by rw [hn]; rfl, HB.out⟩
   | true =>
    have hn := tkall p l0 z74 j hlt
    rw [hq, hpx, HA.out] at hn
    clear hlt hq
    go_wp2_with (go_at_fn g; refine (hp _ (below_alloc HB.out _) (rd_T74 l0 (j : Int))).mono ?_; rintro e W' ⟨rfl, hb⟩; rw [hpx]; replace HB := am_ (below_step (below_alloc HB.out _) hb); clear hb)
    go_roundg k1
    case measure => omega
    case rel => exact ⟨j + 1, by first | rfl | rw [ew], by omega, ⟨by rw [hn]; rfl⟩, HB⟩
end Go.Proofs.Ythdoghhmooodjaa.Gn
