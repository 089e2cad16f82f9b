import Derived.Test.YtbedfoeifaegmaaZLogCapsGn0
import Derived.Test.YtbedfoeifaegmaaZLogCapsGn4
namespace Go.Proofs.Ytbedfoeifaegmaa.Gn
open Go.RowKit Go.Proofs.YtbedfoeifaegmaaW.PrintWords Go.Proofs.YtbedfoeifaegmaaW.PrintLast Go.Proofs.YtbedfoeifaegmaaW.PrintMore
attribute [local go_sem] max2_int min2_int max_two min_two max_three min_three max_four min_four   -- for this text's walks alone
set_option linter.unusedVariables false
set_option linter.unusedSimpArgs false
def ring_put.f (a0 : Int) : Option (Int) := (num_Mod.f a0 65536).bind fun t401 => (some t401)
set_option maxHeartbeats 8000000 in
set_option maxRecDepth 100000 in
theorem ring_put.calls (a0 r : Int) (w : World) (h : ring_put.f a0 = some r) :
  Calls Try.prog 46 #[.int .i64 a0] w fun e w' => e = .returned (.int .i64 r) ∧ Drawn0 w w' := by
 have H : ((num_Mod.f a0 65536).bind fun t401 => (some t401)) = some r := h
 clear h
 replace H := Option.bind_eq_some_iff.mp H
 obtain ⟨t401, A20, H⟩ := H
 replace H : (some t401) = some r := H
 have A2 := Aside0.mk A20
 clear A20
 obtain rfl := Option.some.inj H
 go_enter Try.func46, Try.ntmps46
 go_wp2_with (first | ((with_reducible refine gate_callee (f := 60) rfl ?_); refine goesL_ (some 4) rfl rfl Try.func60 (by kernel_rfl) rfl #[.int .i64 a0, .int .i64 65536] rfl (by (try simp only [List.map_toArray, List.map_cons, List.map_nil]); first | done | rfl | (simp only [List.length_drop, List.length_take]; rfl)) ?_; (with_reducible refine (num_Mod.calls a0 65536 t401 _ A2.out).mono ?_); rintro e w' ⟨rfl, ⟨nd, rfl⟩⟩; refine ⟨_, rfl, ?_⟩))
 go_ret
 exact ⟨by first | rfl | (simp; done) | (simp [*]; done), by repeat (first | exact Drawn0.refl _ | apply Drawn0.step)⟩
def ring_clock_from.f (a0 a1 : Int) : Option (Int) := (ring_put.f (wrap64 (a0 - a1))).bind fun t401 => (some t401)
set_option maxHeartbeats 8000000 in
set_option maxRecDepth 100000 in
theorem ring_clock_from.calls (a0 a1 r : Int) (w : World) (h : ring_clock_from.f a0 a1 = some r) :
  Calls Try.prog 62 #[.int .i64 a0, .int .i64 a1] w fun e w' => e = .returned (.int .i64 r) ∧ Drawn0 w w' := by
 have H : ((ring_put.f (wrap64 (a0 - a1))).bind fun t401 => (some t401)) = some r := h
 clear h
 replace H := Option.bind_eq_some_iff.mp H
 obtain ⟨t401, A30, H⟩ := H
 replace H : (some t401) = some r := H
 have A3 := Aside0.mk A30
 clear A30
 obtain rfl := Option.some.inj H
 go_enter Try.func62, Try.ntmps62
 go_wp2_with (first | ((with_reducible refine gate_callee (f := 46) rfl ?_); refine goesL_ (some 8) rfl rfl Try.func46 (by kernel_rfl) rfl #[.int .i64 (wrap64 (a0 - a1))] rfl (by (try simp only [List.map_toArray, List.map_cons, List.map_nil]); first | done | rfl | (simp only [List.length_drop, List.length_take]; rfl)) ?_; (with_reducible refine (ring_put.calls (wrap64 (a0 - a1)) t401 _ A3.out).mono ?_); rintro e w' ⟨rfl, ⟨nd, rfl⟩⟩; refine ⟨_, rfl, ?_⟩))
 go_ret
 exact ⟨by first | rfl | (simp; done) | (simp [*]; done), by repeat (first | exact Drawn0.refl _ | apply Drawn0.step)⟩
set_option maxHeartbeats 2000000 in
theorem ring_join.calls_from (a0 a1 p q r : Int) (w : World) (h0 : ring_put.f a0 = some p) (h1 : ring_put.f a1 = some q) (h : ring_clock_from.f p q = some r) :
  Calls Try.prog 61 #[.func (.func 62) #[] #[], .int .i64 a0, .int .i64 a1] w fun e w' => e = .returned (.int .i64 r) ∧ Drawn0 w w' := by
 have A0 := Aside0.mk h0
 have A1 := Aside0.mk h1
 have A2 := Aside0.mk h
 clear h0 h1 h
 go_enter Try.func61, Try.ntmps61
 go_wp2_with fail
 refine (ring_put.calls a0 p _ A0.out).mono ?_
 rintro e w' ⟨rfl, ⟨n1, rfl⟩⟩
 go_wp2_with fail
 refine (ring_put.calls a1 q _ A1.out).mono ?_
 rintro e w' ⟨rfl, ⟨n2, rfl⟩⟩
 go_wp2_with fail
 refine (ring_clock_from.calls p q r _ A2.out).mono ?_
 rintro e w' ⟨rfl, ⟨n3, rfl⟩⟩
 go_wp2
 go_ret
 exact ⟨rfl, by repeat (first | exact Drawn0.refl _ | apply Drawn0.step)⟩
def ring_Diff.f (a0 a1 : Int) : Option Int := (ring_put.f a0).bind fun p => (ring_put.f a1).bind fun q => ring_clock_from.f p q
def ring_Signed.f (a0 a1 : Int) : Option Int := (ring_Diff.f a0 a1).bind fun d => if 32768 ≤ d then some (wrap64 (d - 65536)) else some d
set_option maxHeartbeats 2000000 in
theorem ring_Signed.calls (a0 a1 r : Int) (w : World) (h : ring_Signed.f a0 a1 = some r) :
  Calls Try.prog 48 #[.int .i64 a0, .int .i64 a1] w fun e w' => e = .returned (.int .i64 r) ∧ Drawn0 w w' := by
 obtain ⟨d, h, hd⟩ := Option.bind_eq_some_iff.mp h
 obtain ⟨p, h0, h⟩ := Option.bind_eq_some_iff.mp h
 obtain ⟨q, h1, h⟩ := Option.bind_eq_some_iff.mp h
 have A0 := Aside0.mk h0
 have A1 := Aside0.mk h1
 have A2 := Aside0.mk h
 clear h0 h1 h
 by_cases c : 32768 ≤ d
 all_goals
  first
  | (rw [if_pos c] at hd; have cb : decide (32768 ≤ d) = true := decide_eq_true c)
  | (rw [if_neg c] at hd; have cb : decide (32768 ≤ d) = false := decide_eq_false c)
  clear c
  obtain rfl := Option.some.inj hd
  clear hd
  go_enter Try.func48, Try.ntmps48
  go_wp2_with fail
  refine (ring_join.calls_from a0 a1 p q d _ A0.out A1.out A2.out).mono ?_
  rintro e w' ⟨rfl, ⟨n1, rfl⟩⟩
  go_wp2
  go_ret
  exact ⟨rfl, by repeat (first | exact Drawn0.refl _ | apply Drawn0.step)⟩
end Go.Proofs.Ytbedfoeifaegmaa.Gn
