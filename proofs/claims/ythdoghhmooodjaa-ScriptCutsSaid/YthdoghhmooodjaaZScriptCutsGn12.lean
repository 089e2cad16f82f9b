import Derived.Test.YthdoghhmooodjaaZScriptCutsGn0
import Derived.Test.YthdoghhmooodjaaZScriptCutsGn1
import Derived.Test.YthdoghhmooodjaaZScriptCutsGn10
import Derived.Test.YthdoghhmooodjaaZScriptCutsGn11
import Derived.Shelf.Abstract
namespace Go.Proofs.Ythdoghhmooodjaa.Gn
open Go.RowKit Go.Proofs.YthdoghhmooodjaaW.PrintWords Go.Proofs.YthdoghhmooodjaaW.PrintLast Go.Proofs.YthdoghhmooodjaaW.PrintMore
attribute [local go_sem] max2_int min2_int max_two min_two max_three min_three max_four min_four   -- for this text's walks alone
set_option linter.unusedVariables false
set_option linter.unusedSimpArgs false
/-- What is asked of each. -/
def script_tick1B (x : S74) : Bool := decide (0 ≤ x.f2) && decide (x.f2 ≤ 65535)
theorem script_tick1.calls (x : S74) (w : World) : Calls Try.prog 67 (#[.agg #[.int .i64 x.f0, .int .i64 x.f1, .int .i64 x.f2, .string x.f3]] ++ #[]) w fun e w' => e = .returned (.bool (script_tick1B x)) ∧ Below w.heap.size w w' := by
 unfold script_tick1B
 have hu := Try.underlying74
 cases h0 : decide (0 ≤ x.f2) with
 | false =>
  go_enter Try.func67, Try.ntmps67
  go_wp2
  go_ret
  exact ⟨by first | rfl | simp, by repeat (first | exact Below.refl _ _ | apply below_alloc)⟩
 | true =>
  go_enter Try.func67, Try.ntmps67
  go_wp2
  go_ret
  exact ⟨by first | rfl | simp, by repeat (first | exact Below.refl _ _ | apply below_alloc)⟩
def script_every_tick1.f (l0 : List S74) (a1 : Unit) : Option Bool := some (l0.all script_tick1B)
theorem script_every_tick1.calls (A0 : Option Addr) (c0 : Nat) (l0 : List S74) (a1 : Unit) (r : Bool) (w : World) (hr0 : Kd.C k74 w A0 l0.length l0) (hc0 : l0.length ≤ c0) (h : script_every_tick1.f l0 a1 = some r) :
  Calls Try.prog 69 #[.slice A0 l0.length c0, .func (.func 67) #[] #[]] w fun e w' => e = .returned (.bool r) ∧ Below w.heap.size w w' := by
 unfold script_every_tick1.f at h
 obtain rfl := Option.some.inj h
 exact script_every_send.calls script_tick1B A0 c0 l0 67 #[] (enters_of Try.func67 (by kernel_rfl) rfl) w hr0 (fun W _ x => script_tick1.calls x W)
/-- What is asked of each. -/
def script_numbers1B (x : Int) : Bool := decide (0 ≤ x) && decide (x ≤ 65535)
theorem script_numbers1.calls (x : Int) (w : World) : Calls Try.prog 98 (#[.int .i64 x] ++ #[]) w fun e w' => e = .returned (.bool (script_numbers1B x)) ∧ Below w.heap.size w w' := by
 unfold script_numbers1B
 cases h0 : decide (0 ≤ x) with
 | false =>
  go_enter Try.func98, Try.ntmps98
  go_wp2
  go_ret
  exact ⟨by first | rfl | simp, by repeat (first | exact Below.refl _ _ | apply below_alloc)⟩
 | true =>
  go_enter Try.func98, Try.ntmps98
  go_wp2
  go_ret
  exact ⟨by first | rfl | simp, by repeat (first | exact Below.refl _ _ | apply below_alloc)⟩
def script_every_numbers1.f (l0 : List Int) (a1 : Unit) : Option Bool := some (l0.all script_numbers1B)
theorem script_every_numbers1.calls (A0 : Option Addr) (c0 : Nat) (l0 : List Int) (a1 : Unit) (r : Bool) (w : World) (hr0 : Kd.C (Kd.int .i64) w A0 l0.length l0) (hc0 : l0.length ≤ c0) (h : script_every_numbers1.f l0 a1 = some r) :
  Calls Try.prog 97 #[.slice A0 l0.length c0, .func (.func 98) #[] #[]] w fun e w' => e = .returned (.bool r) ∧ Below w.heap.size w w' := by
 unfold script_every_numbers1.f at h
 obtain rfl := Option.some.inj h
 exact script_every_int.calls script_numbers1B A0 c0 l0 98 #[] (enters_of Try.func98 (by kernel_rfl) rfl) w hr0 (fun W _ x => script_numbers1.calls x W)
def script_numbers.f (l0 : List Int) (a1 : Int) : Option (Bool) := if (l0.length : Int) ≤ a1 then ((script_every_numbers1.f l0 ()).bind fun t401 => (some t401)) else (some false)
set_option maxHeartbeats 8000000 in
set_option maxRecDepth 100000 in
theorem script_numbers.calls (A0 : Option Addr) (c0 : Nat) (l0 : List Int) (a1 : Int) (r : Bool) (w : World) (hr0 : Kd.C (Kd.int .i64) w A0 l0.length l0) (hc0 : l0.length ≤ c0) (h : script_numbers.f l0 a1 = some r) :
  Calls Try.prog 68 #[.slice A0 l0.length c0, .int .i64 a1] w fun e w' => e = .returned (.bool r) ∧ Below w.heap.size w w' := by
 have HR0 := am_ hr0
 have HC0 := am_ hc0
 clear hr0 hc0
 have HB := am_ (Below.refl w.heap.size w)
 have H := h
 unfold script_numbers.f at H
 clear h
 by_cases c3 : (l0.length : Int) ≤ a1
 ·rw [if_pos c3] at H
  have c3b0 : decide ((l0.length : Int) ≤ a1) = true := decide_eq_true c3
  clear c3
  replace H := Option.bind_eq_some_iff.mp H
  obtain ⟨t401, A40, H⟩ := H
  replace H : (some t401) = some r := H
  have A4 := am_ A40
  clear A40
  obtain rfl := Option.some.inj H
  go_enter Try.func68, Try.ntmps68
  go_wp2_with (first | (go_at_call 97; (with_reducible refine (script_every_numbers1.calls _ _ l0 () _ _ ?side1 HC0.out A4.out).mono ?_); (case side1 => repeat (first | exact HR0.out | (with_reducible refine Kd.C_alloc ?_ _) | (with_reducible refine Kd.C_drewN ?_ _) | (with_reducible refine Kd.C_drew ?_))); rintro e w5 ⟨rfl, hb⟩; replace HB := bst_ HB hb; (try clear hb)))
  go_ret
  exact ⟨by first | rfl | (simp [*] <;> rfl), by repeat (first | (with_reducible first | exact HB.out | apply ba_ | apply bn_ | apply bd_) | exact HB.out)⟩
 ·rw [if_neg c3] at H
  have c3b0 : decide ((l0.length : Int) ≤ a1) = false := decide_eq_false c3
  clear c3
  obtain rfl := Option.some.inj H
  go_enter Try.func68, Try.ntmps68
  go_wp2
  go_ret
  exact ⟨by first | rfl | (simp [*] <;> rfl), by repeat (first | (with_reducible first | exact HB.out | apply ba_ | apply bn_ | apply bd_) | exact HB.out)⟩
def script_full.f (l0_0 l0_1 : List Int) (l0_2 : List (S74)) (l0_3 : List (S48)) (l0_4 : List (S74)) (l0_5 : List (S81)) : Option (Bool) := some (decide ((mx (mx (mx (l0_2.length : Int) (l0_3.length : Int)) (l0_4.length : Int)) (l0_5.length : Int)) > 40))
set_option maxHeartbeats 8000000 in
set_option maxRecDepth 100000 in
theorem script_full.calls (A0_0 : Option Addr) (c0_0 : Nat) (l0_0 : List Int) (A0_1 : Option Addr) (c0_1 : Nat) (l0_1 : List Int) (A0_2 : Option Addr) (c0_2 : Nat) (l0_2 : List (S74)) (A0_3 : Option Addr) (c0_3 : Nat) (l0_3 : List (S48)) (A0_4 : Option Addr) (c0_4 : Nat) (l0_4 : List (S74)) (A0_5 : Option Addr) (c0_5 : Nat) (l0_5 : List (S81)) (r : Bool) (w : World) (hr0_0 : Kd.C (Kd.int .i64) w A0_0 l0_0.length l0_0) (hc0_0 : l0_0.length ≤ c0_0) (hr0_1 : Kd.C (Kd.int .i64) w A0_1 l0_1.length l0_1) (hc0_1 : l0_1.length ≤ c0_1) (hr0_2 : Kd.C k74 w A0_2 l0_2.length l0_2) (hc0_2 : l0_2.length ≤ c0_2) (hr0_3 : Kd.C k48 w A0_3 l0_3.length l0_3) (hc0_3 : l0_3.length ≤ c0_3) (hr0_4 : Kd.C k74 w A0_4 l0_4.length l0_4) (hc0_4 : l0_4.length ≤ c0_4) (hr0_5 : Kd.C k81 w A0_5 l0_5.length l0_5) (hc0_5 : l0_5.length ≤ c0_5) (h : script_full.f l0_0 l0_1 l0_2 l0_3 l0_4 l0_5 = some r) :
  Calls Try.prog 70 #[.agg #[.slice A0_0 l0_0.length c0_0, .slice A0_1 l0_1.length c0_1, .slice A0_2 l0_2.length c0_2, .slice A0_3 l0_3.length c0_3, .slice A0_4 l0_4.length c0_4, .slice A0_5 l0_5.length c0_5]] w fun e w' => e = .returned (.bool r) ∧ Below w.heap.size w w' := by
 have hu44 := Try.underlying44
 have HR0_0 := am_ hr0_0
 have HC0_0 := am_ hc0_0
 clear hr0_0 hc0_0
 have HR0_1 := am_ hr0_1
 have HC0_1 := am_ hc0_1
 clear hr0_1 hc0_1
 have HR0_2 := am_ hr0_2
 have HC0_2 := am_ hc0_2
 clear hr0_2 hc0_2
 have HR0_3 := am_ hr0_3
 have HC0_3 := am_ hc0_3
 clear hr0_3 hc0_3
 have HR0_4 := am_ hr0_4
 have HC0_4 := am_ hc0_4
 clear hr0_4 hc0_4
 have HR0_5 := am_ hr0_5
 have HC0_5 := am_ hc0_5
 clear hr0_5 hc0_5
 have HB := am_ (Below.refl w.heap.size w)
 have H := h
 unfold script_full.f at H
 clear h
 obtain ⟨ji2, hji2⟩ : ∃ j_ : Int, (mx (l0_2.length : Int) (l0_3.length : Int)) = j_ := ⟨_, rfl⟩
 replace H : (some (decide ((mx (mx (ji2) (l0_4.length : Int)) (l0_5.length : Int)) > 40))) = some r := by first | (rw [hji2] at H; exact H) | (simp only [hji2] at H ⊢; exact H)
 (try (have hji2l : 0 ≤ ji2 := by (rw [← hji2]; unfold mx; (repeat' split) <;> omega)))
 (try (have hji2m : 0 ≤ ji2 := by omega))
 have hji2_ : (if (l0_2.length : Int) < (l0_3.length : Int) then (l0_3.length : Int) else (l0_2.length : Int)) = ji2 := hji2
 obtain ⟨ji3, hji3⟩ : ∃ j_ : Int, (mx (ji2) (l0_4.length : Int)) = j_ := ⟨_, rfl⟩
 replace H : (some (decide ((mx (ji3) (l0_5.length : Int)) > 40))) = some r := by first | (rw [hji3] at H; exact H) | (simp only [hji3] at H ⊢; exact H)
 have hji3_ : (if (ji2) < (l0_4.length : Int) then (l0_4.length : Int) else (ji2)) = ji3 := hji3
 obtain ⟨ji4, hji4⟩ : ∃ j_ : Int, (mx (ji3) (l0_5.length : Int)) = j_ := ⟨_, rfl⟩
 replace H : (some (decide ((ji4) > 40))) = some r := by first | (rw [hji4] at H; exact H) | (simp only [hji4] at H ⊢; exact H)
 have hji4_ : (if (ji3) < (l0_5.length : Int) then (l0_5.length : Int) else (ji3)) = ji4 := hji4
 obtain rfl := Option.some.inj H
 go_enter Try.func70, Try.ntmps70
 go_wp2_with (first | ((with_reducible refine gate_dst (N := 1) rfl ?_); refine bxe_ 1 44 #[.slice A0_0 l0_0.length c0_0, .slice A0_1 l0_1.length c0_1, .slice A0_2 l0_2.length c0_2, .slice A0_3 l0_3.length c0_3, .slice A0_4 l0_4.length c0_4, .slice A0_5 l0_5.length c0_5] ?_; intro gb401 hg w5 hbox hb; have BK401 := am_ (hbox); have GW401 := gwk_ HB hg; have GE401 := GW401; replace HB := bst_ HB hb; clear hb hbox hg; have hcz6 := cells_6 BK401.out; have hfz6 := frozen_6 BK401.out))
 all_goals go_ret
 all_goals exact ⟨congrArg (fun b => Ending.returned (Value.bool b)) (decide_eq_decide.2 (by omega)), by repeat (first | (with_reducible first | exact HB.out | apply ba_ | apply bn_ | apply bd_ | refine bs_ ?_ GE401.out) | exact HB.out)⟩
end Go.Proofs.Ythdoghhmooodjaa.Gn
