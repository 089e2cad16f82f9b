import Derived.Test.YthdoghhmooodjaaZPremiseAfterGn1
import Derived.Test.YthdoghhmooodjaaZPremiseAfterGn0
import Derived.Test.YthdoghhmooodjaaZPremiseAfterGn10
import Derived.Shelf.Abstract
namespace Go.Proofs.Ythdoghhmooodjaa.Gn
open Go.RowKit Go.Proofs.YthdoghhmooodjaaW.PrintWords Go.Proofs.YthdoghhmooodjaaW.PrintLast Go.Proofs.YthdoghhmooodjaaW.PrintMore
attribute [local go_sem] max2_int min2_int max_two min_two max_three min_three max_four min_four   -- for this text's walks alone
set_option linter.unusedVariables false
set_option linter.unusedSimpArgs false
set_option maxHeartbeats 8000000 in
set_option maxRecDepth 100000 in
theorem script_every_send.calls (p : S74 → Bool) (A0 : Option Addr) (c0 : Nat) (l0 : List S74) (g : Nat) (lb : Array Value) (eg : ∀ args w, (callFunc g args).run Try.prog w = .ok (.enter g args) w) (w : World) (B5 : Kd.C k74 w A0 l0.length l0) (hp : ∀ W, Below w.heap.size w W → ∀ x : S74, Calls Try.prog g (#[.agg #[.int .i64 x.f0, .int .i64 x.f1, .int .i64 x.f2, .string x.f3]] ++ lb) W fun e W' => e = .returned (.bool (p x)) ∧ Below W.heap.size W W') :
  Calls Try.prog 69 #[.slice A0 l0.length c0, .func (.func g) #[] lb] w fun e w' => e = .returned (.bool (l0.all p)) ∧ Below w.heap.size w w' := by
 have hu := Try.underlying74
 have B6 := am_ B5
 clear B5
 have HB := am_ (Below.refl w.heap.size w)
 go_enter Try.func69, Try.ntmps69
 go_wp2
 go_loopg [9] l0.length (fun kq v9 w' => ∃ j : Nat, v9 = .int .i64 (j : Int) ∧ j + kq = l0.length ∧ Aside0 ((l0.take j).all p = true) ∧ Aside0 (Below w.heap.size w w'))
 case atStart => exact ⟨0, rfl, by omega, ⟨by simp⟩, HB⟩
 case round =>
  obtain ⟨j, rfl, hj, HA, HB⟩ := hrel
  cases gk with
  | zero =>
   have c : decide ((j : Int) < (l0.length : Int)) = false := decide_eq_false (by omega)
   have e : l0.all p = true := by have := HA.out; rwa [List.take_of_length_le (by omega)] at this
   go_wp2
   go_ret
   exact ⟨by rw [e]; rfl, HB.out⟩
  | succ k1 =>
   have hlt : j < l0.length := by omega
   have c : decide ((j : Int) < (l0.length : Int)) = true := decide_eq_true (by omega)
   have ew : wrap64 ((j : Int) + 1) = ((j + 1 : Nat) : Int) := by have := Kd.C_max B6.out; unfold wrap64; omega
   have hq : l0.getD j z74 = rd_T74 l0 (j : Int) := rfl
   obtain ⟨B7, B4, B0, B1, B2, B3⟩ := at_T74 B6.out (j : Int) (by omega) (by omega)
   cases B4
   rw [Int.toNat_natCast] at B0
   replace B0 := (HB.out.cell (World.block_lt_of_cell? w _ B0)).trans B0
   rw [Int.toNat_natCast] at B1
   replace B1 := (HB.out.cell (World.block_lt_of_cell? w _ B1)).trans B1
   rw [Int.toNat_natCast] at B2
   replace B2 := (HB.out.cell (World.block_lt_of_cell? w _ B2)).trans B2
   rw [Int.toNat_natCast] at B3
   replace B3 := (HB.out.cell (World.block_lt_of_cell? w _ B3)).trans B3
   have B8 : (0 ≤ (j : Int)) = True := eq_true (by omega)
   have B9 : ((j : Int) < (l0.length : Int)) = True := eq_true (by omega)
   cases hpx : p (rd_T74 l0 (j : Int)) with
   | false =>
    have hn := noall p l0 z74 j hlt (by rw [hq]; exact hpx)
    clear hlt hq hj
    go_wp2_with (go_at_fn g; refine (hp _ (below_alloc HB.out _) (rd_T74 l0 (j : Int))).mono ?_; rintro e W' ⟨rfl, hb⟩; rw [hpx]; replace HB := am_ (below_step (below_alloc HB.out _) hb); clear hb)
    go_ret
    exact ⟨by rw [hn]; rfl, HB.out⟩
   | true =>
    have hn := tkall p l0 z74 j hlt
    rw [hq, hpx, HA.out] at hn
    clear hlt hq
    go_wp2_with (go_at_fn g; refine (hp _ (below_alloc HB.out _) (rd_T74 l0 (j : Int))).mono ?_; rintro e W' ⟨rfl, hb⟩; rw [hpx]; replace HB := am_ (below_step (below_alloc HB.out _) hb); clear hb)
    go_roundg k1
    case measure => omega
    case rel => exact ⟨j + 1, by first | rfl | rw [ew], by omega, ⟨by rw [hn]; rfl⟩, HB⟩
end Go.Proofs.Ythdoghhmooodjaa.Gn
namespace Go.Proofs.Ythdoghhmooodjaa.Gn
open Go.RowKit Go.Proofs.YthdoghhmooodjaaW.PrintWords Go.Proofs.YthdoghhmooodjaaW.PrintLast Go.Proofs.YthdoghhmooodjaaW.PrintMore
attribute [local go_sem] max2_int min2_int max_two min_two max_three min_three max_four min_four   -- for this text's walks alone
set_option linter.unusedVariables false
set_option linter.unusedSimpArgs false
/-- What is asked of each. -/
def script_tick1B (x : S74) : Bool := decide (0 ≤ x.f2) && decide (x.f2 ≤ 65535)
theorem script_tick1.calls (x : S74) (w : World) : Calls Try.prog 67 (#[.agg #[.int .i64 x.f0, .int .i64 x.f1, .int .i64 x.f2, .string x.f3]] ++ #[]) w fun e w' => e = .returned (.bool (script_tick1B x)) ∧ Below w.heap.size w w' := by
 unfold script_tick1B
 have hu := Try.underlying74
 cases h0 : decide (0 ≤ x.f2) with
 | false =>
  go_enter Try.func67, Try.ntmps67
  go_wp2
  go_ret
  exact ⟨by first | rfl | simp, by repeat (first | exact Below.refl _ _ | apply below_alloc)⟩
 | true =>
  go_enter Try.func67, Try.ntmps67
  go_wp2
  go_ret
  exact ⟨by first | rfl | simp, by repeat (first | exact Below.refl _ _ | apply below_alloc)⟩
def script_every_tick1.f (l0 : List S74) (a1 : Unit) : Option Bool := some (l0.all script_tick1B)
theorem script_every_tick1.calls (A0 : Option Addr) (c0 : Nat) (l0 : List S74) (a1 : Unit) (r : Bool) (w : World) (B0 : Kd.C k74 w A0 l0.length l0) (B1 : l0.length ≤ c0) (h : script_every_tick1.f l0 a1 = some r) :
  Calls Try.prog 69 #[.slice A0 l0.length c0, .func (.func 67) #[] #[]] w fun e w' => e = .returned (.bool r) ∧ Below w.heap.size w w' := by
 unfold script_every_tick1.f at h
 obtain rfl := Option.some.inj h
 exact script_every_send.calls script_tick1B A0 c0 l0 67 #[] (enters_of Try.func67 (by kernel_rfl) rfl) w B0 (fun W _ x => script_tick1.calls x W)
/-- What is asked of each. -/
def script_numbers1B (x : Int) : Bool := decide (0 ≤ x) && decide (x ≤ 65535)
theorem script_numbers1.calls (x : Int) (w : World) : Calls Try.prog 98 (#[.int .i64 x] ++ #[]) w fun e w' => e = .returned (.bool (script_numbers1B x)) ∧ Below w.heap.size w w' := by
 unfold script_numbers1B
 cases h0 : decide (0 ≤ x) with
 | false =>
  go_enter Try.func98, Try.ntmps98
  go_wp2
  go_ret
  exact ⟨by first | rfl | simp, by repeat (first | exact Below.refl _ _ | apply below_alloc)⟩
 | true =>
  go_enter Try.func98, Try.ntmps98
  go_wp2
  go_ret
  exact ⟨by first | rfl | simp, by repeat (first | exact Below.refl _ _ | apply below_alloc)⟩
def script_every_numbers1.f (l0 : List Int) (a1 : Unit) : Option Bool := some (l0.all script_numbers1B)
theorem script_every_numbers1.calls (A0 : Option Addr) (c0 : Nat) (l0 : List Int) (a1 : Unit) (r : Bool) (w : World) (B0 : Kd.C (Kd.int .i64) w A0 l0.length l0) (B1 : l0.length ≤ c0) (h : script_every_numbers1.f l0 a1 = some r) :
  Calls Try.prog 97 #[.slice A0 l0.length c0, .func (.func 98) #[] #[]] w fun e w' => e = .returned (.bool r) ∧ Below w.heap.size w w' := by
 unfold script_every_numbers1.f at h
 obtain rfl := Option.some.inj h
 exact script_every_int.calls script_numbers1B A0 c0 l0 98 #[] (enters_of Try.func98 (by kernel_rfl) rfl) w B0 (fun W _ x => script_numbers1.calls x W)
def script_numbers.f (l0 : List Int) (a1 : Int) : Option (Bool) := if (l0.length : Int) ≤ a1 then ((script_every_numbers1.f l0 ()).bind fun B0 => (some B0)) else (some false)
set_option maxHeartbeats 8000000 in
set_option maxRecDepth 100000 in
theorem script_numbers.calls (A0 : Option Addr) (c0 : Nat) (l0 : List Int) (a1 : Int) (r : Bool) (w : World) (B2 : Kd.C (Kd.int .i64) w A0 l0.length l0) (B3 : l0.length ≤ c0) (h : script_numbers.f l0 a1 = some r) :
  Calls Try.prog 68 #[.slice A0 l0.length c0, .int .i64 a1] w fun e w' => e = .returned (.bool r) ∧ Below w.heap.size w w' := by
 have B5 := am_ B2
 have B6 := am_ B3
 clear B2 B3
 have HB := am_ (Below.refl w.heap.size w)
 have H := h
 unfold script_numbers.f at H
 clear h
 by_cases c3 : (l0.length : Int) ≤ a1
 ·rw [if_pos c3] at H
  have B0 : decide ((l0.length : Int) ≤ a1) = true := decide_eq_true c3
  clear c3
  replace H := Option.bind_eq_some_iff.mp H
  obtain ⟨B1, B4, H⟩ := H
  replace H : (some B1) = some r := H
  have A4 := am_ B4
  clear B4
  obtain rfl := Option.some.inj H
  go_enter Try.func68, Try.ntmps68
  go_wp2_with (first | (go_at_call 97; (with_reducible refine (script_every_numbers1.calls _ _ l0 () _ _ ?side1 B6.out A4.out).mono ?_); (case side1 => repeat (first | exact B5.out | (with_reducible refine Kd.C_alloc ?_ _) | (with_reducible refine Kd.C_drewN ?_ _) | (with_reducible refine Kd.C_drew ?_))); rintro e w5 ⟨rfl, hb⟩; replace HB := bst_ HB hb; (try clear hb)))
  go_ret
  exact ⟨by first | rfl | (simp [*] <;> rfl), by repeat (first | (with_reducible first | exact HB.out | apply ba_ | apply bn_ | apply bd_) | exact HB.out)⟩
 ·rw [if_neg c3] at H
  have B0 : decide ((l0.length : Int) ≤ a1) = false := decide_eq_false c3
  clear c3
  obtain rfl := Option.some.inj H
  go_enter Try.func68, Try.ntmps68
  go_wp2
  go_ret
  exact ⟨by first | rfl | (simp [*] <;> rfl), by repeat (first | (with_reducible first | exact HB.out | apply ba_ | apply bn_ | apply bd_) | exact HB.out)⟩
def script_full.f (B4 B5 : List Int) (B0 : List (S74)) (B1 : List (S48)) (B2 : List (S74)) (B3 : List (S81)) : Option (Bool) := some (decide ((mx (mx (mx (B0.length : Int) (B1.length : Int)) (B2.length : Int)) (B3.length : Int)) > 40))
set_option maxHeartbeats 8000000 in
set_option maxRecDepth 100000 in
theorem script_full.calls (Bj : Option Addr) (Bk : Nat) (B4 : List Int) (Bl : Option Addr) (Bm : Nat) (B5 : List Int) (Bn : Option Addr) (Bo : Nat) (B2 : List (S74)) (Bp : Option Addr) (Bq : Nat) (B3 : List (S48)) (Br : Option Addr) (Bs : Nat) (B1 : List (S74)) (Bt : Option Addr) (Bu : Nat) (B0 : List (S81)) (r : Bool) (w : World) (B6 : Kd.C (Kd.int .i64) w Bj B4.length B4) (B7 : B4.length ≤ Bk) (B8 : Kd.C (Kd.int .i64) w Bl B5.length B5) (B9 : B5.length ≤ Bm) (Ba : Kd.C k74 w Bn B2.length B2) (Bb : B2.length ≤ Bo) (Bc : Kd.C k48 w Bp B3.length B3) (Bd : B3.length ≤ Bq) (Be : Kd.C k74 w Br B1.length B1) (Bf : B1.length ≤ Bs) (Bg : Kd.C k81 w Bt B0.length B0) (Bh : B0.length ≤ Bu) (h : script_full.f B4 B5 B2 B3 B1 B0 = some r) :
  Calls Try.prog 70 #[.agg #[.slice Bj B4.length Bk, .slice Bl B5.length Bm, .slice Bn B2.length Bo, .slice Bp B3.length Bq, .slice Br B1.length Bs, .slice Bt B0.length Bu]] w fun e w' => e = .returned (.bool r) ∧ Below w.heap.size w w' := by
 have Df := Try.underlying44
 have Bx := am_ B6
 have By := am_ B7
 clear B6 B7
 have Bz := am_ B8
 have D0 := am_ B9
 clear B8 B9
 have D1 := am_ Ba
 have D2 := am_ Bb
 clear Ba Bb
 have D3 := am_ Bc
 have D4 := am_ Bd
 clear Bc Bd
 have D5 := am_ Be
 have D6 := am_ Bf
 clear Be Bf
 have D7 := am_ Bg
 have D8 := am_ Bh
 clear Bg Bh
 have HB := am_ (Below.refl w.heap.size w)
 have H := h
 unfold script_full.f at H
 clear h
 obtain ⟨ji2, hji2⟩ : ∃ j_ : Int, (mx (B2.length : Int) (B3.length : Int)) = j_ := ⟨_, rfl⟩
 replace H : (some (decide ((mx (mx (ji2) (B1.length : Int)) (B0.length : Int)) > 40))) = some r := by first | (rw [hji2] at H; exact H) | (simp only [hji2] at H ⊢; exact H)
 (try (have D9 : 0 ≤ ji2 := by (rw [← hji2]; unfold mx; (repeat' split) <;> omega)))
 (try (have Da : 0 ≤ ji2 := by omega))
 have Db : (if (B2.length : Int) < (B3.length : Int) then (B3.length : Int) else (B2.length : Int)) = ji2 := hji2
 obtain ⟨ji3, hji3⟩ : ∃ j_ : Int, (mx (ji2) (B1.length : Int)) = j_ := ⟨_, rfl⟩
 replace H : (some (decide ((mx (ji3) (B0.length : Int)) > 40))) = some r := by first | (rw [hji3] at H; exact H) | (simp only [hji3] at H ⊢; exact H)
 have Dc : (if (ji2) < (B1.length : Int) then (B1.length : Int) else (ji2)) = ji3 := hji3
 obtain ⟨ji4, hji4⟩ : ∃ j_ : Int, (mx (ji3) (B0.length : Int)) = j_ := ⟨_, rfl⟩
 replace H : (some (decide ((ji4) > 40))) = some r := by first | (rw [hji4] at H; exact H) | (simp only [hji4] at H ⊢; exact H)
 have Dd : (if (ji3) < (B0.length : Int) then (B0.length : Int) else (ji3)) = ji4 := hji4
 obtain rfl := Option.some.inj H
 go_enter Try.func70, Try.ntmps70
 go_wp2_with (first | ((with_reducible refine gate_dst (N := 1) rfl ?_); refine bxe_ 1 44 #[.slice Bj B4.length Bk, .slice Bl B5.length Bm, .slice Bn B2.length Bo, .slice Bp B3.length Bq, .slice Br B1.length Bs, .slice Bt B0.length Bu] ?_; intro De hg w5 hbox hb; have Bi := am_ (hbox); have Bv := gwk_ HB hg; have Bw := Bv; replace HB := bst_ HB hb; clear hb hbox hg; have Dg := cells_6 Bi.out; have Dh := frozen_6 Bi.out))
 all_goals go_ret
 all_goals exact ⟨congrArg (fun b => Ending.returned (Value.bool b)) (decide_eq_decide.2 (by omega)), by repeat (first | (with_reducible first | exact HB.out | apply ba_ | apply bn_ | apply bd_ | refine bs_ ?_ Bw.out) | exact HB.out)⟩
end Go.Proofs.Ythdoghhmooodjaa.Gn
namespace Go.Proofs.Ythdoghhmooodjaa.Gn
open Go.RowKit Go.Proofs.YthdoghhmooodjaaW.PrintWords Go.Proofs.YthdoghhmooodjaaW.PrintLast Go.Proofs.YthdoghhmooodjaaW.PrintMore
attribute [local go_sem] max2_int min2_int max_two min_two max_three min_three max_four min_four   -- for this text's walks alone
set_option linter.unusedVariables false
set_option linter.unusedSimpArgs false
set_option maxHeartbeats 8000000 in
set_option maxRecDepth 100000 in
theorem script_every_write.calls (p : S81 → Bool) (A0 : Option Addr) (c0 : Nat) (l0 : List S81) (g : Nat) (lb : Array Value) (eg : ∀ args w, (callFunc g args).run Try.prog w = .ok (.enter g args) w) (w : World) (B3 : Kd.C k81 w A0 l0.length l0) (hp : ∀ W, Below w.heap.size w W → ∀ x : S81, Calls Try.prog g (#[.agg #[.int .i64 x.f0, .string x.f1]] ++ lb) W fun e W' => e = .returned (.bool (p x)) ∧ Below W.heap.size W W') :
  Calls Try.prog 73 #[.slice A0 l0.length c0, .func (.func g) #[] lb] w fun e w' => e = .returned (.bool (l0.all p)) ∧ Below w.heap.size w w' := by
 have hu := Try.underlying81
 have B4 := am_ B3
 clear B3
 have HB := am_ (Below.refl w.heap.size w)
 go_enter Try.func73, Try.ntmps73
 go_wp2
 go_loopg [9] l0.length (fun kq v9 w' => ∃ j : Nat, v9 = .int .i64 (j : Int) ∧ j + kq = l0.length ∧ Aside0 ((l0.take j).all p = true) ∧ Aside0 (Below w.heap.size w w'))
 case atStart => exact ⟨0, rfl, by omega, ⟨by simp⟩, HB⟩
 case round =>
  obtain ⟨j, rfl, hj, HA, HB⟩ := hrel
  cases gk with
  | zero =>
   have c : decide ((j : Int) < (l0.length : Int)) = false := decide_eq_false (by omega)
   have e : l0.all p = true := by have := HA.out; rwa [List.take_of_length_le (by omega)] at this
   go_wp2
   go_ret
   exact ⟨by rw [e]; rfl, HB.out⟩
  | succ k1 =>
   have hlt : j < l0.length := by omega
   have c : decide ((j : Int) < (l0.length : Int)) = true := decide_eq_true (by omega)
   have ew : wrap64 ((j : Int) + 1) = ((j + 1 : Nat) : Int) := by have := Kd.C_max B4.out; unfold wrap64; omega
   have hq : l0.getD j z81 = rd_T81 l0 (j : Int) := rfl
   obtain ⟨B5, B2, B0, B1⟩ := at_T81 B4.out (j : Int) (by omega) (by omega)
   cases B2
   rw [Int.toNat_natCast] at B0
   replace B0 := (HB.out.cell (World.block_lt_of_cell? w _ B0)).trans B0
   rw [Int.toNat_natCast] at B1
   replace B1 := (HB.out.cell (World.block_lt_of_cell? w _ B1)).trans B1
   have B6 : (0 ≤ (j : Int)) = True := eq_true (by omega)
   have B7 : ((j : Int) < (l0.length : Int)) = True := eq_true (by omega)
   cases hpx : p (rd_T81 l0 (j : Int)) with
   | false =>
    have hn := noall p l0 z81 j hlt (by rw [hq]; exact hpx)
    clear hlt hq hj
    go_wp2_with (go_at_fn g; refine (hp _ (below_alloc HB.out _) (rd_T81 l0 (j : Int))).mono ?_; rintro e W' ⟨rfl, hb⟩; rw [hpx]; replace HB := am_ (below_step (below_alloc HB.out _) hb); clear hb)
    go_ret
    exact ⟨by rw [hn]; rfl, HB.out⟩
   | true =>
    have hn := tkall p l0 z81 j hlt
    rw [hq, hpx, HA.out] at hn
    clear hlt hq
    go_wp2_with (go_at_fn g; refine (hp _ (below_alloc HB.out _) (rd_T81 l0 (j : Int))).mono ?_; rintro e W' ⟨rfl, hb⟩; rw [hpx]; replace HB := am_ (below_step (below_alloc HB.out _) hb); clear hb)
    go_roundg k1
    case measure => omega
    case rel => exact ⟨j + 1, by first | rfl | rw [ew], by omega, ⟨by rw [hn]; rfl⟩, HB⟩
set_option maxHeartbeats 8000000 in
set_option maxRecDepth 100000 in
theorem script_every_burst.calls (p : S48 → Bool) (A0 : Option Addr) (c0 : Nat) (l0 : List S48) (g : Nat) (lb : Array Value) (eg : ∀ args w, (callFunc g args).run Try.prog w = .ok (.enter g args) w) (w : World) (B3 : Kd.C k48 w A0 l0.length l0) (hp : ∀ W, Below w.heap.size w W → ∀ x : S48, Calls Try.prog g (#[.agg #[.int .i64 x.f0, .string x.f1]] ++ lb) W fun e W' => e = .returned (.bool (p x)) ∧ Below W.heap.size W W') :
  Calls Try.prog 100 #[.slice A0 l0.length c0, .func (.func g) #[] lb] w fun e w' => e = .returned (.bool (l0.all p)) ∧ Below w.heap.size w w' := by
 have hu := Try.underlying48
 have B4 := am_ B3
 clear B3
 have HB := am_ (Below.refl w.heap.size w)
 go_enter Try.func100, Try.ntmps100
 go_wp2
 go_loopg [9] l0.length (fun kq v9 w' => ∃ j : Nat, v9 = .int .i64 (j : Int) ∧ j + kq = l0.length ∧ Aside0 ((l0.take j).all p = true) ∧ Aside0 (Below w.heap.size w w'))
 case atStart => exact ⟨0, rfl, by omega, ⟨by simp⟩, HB⟩
 case round =>
  obtain ⟨j, rfl, hj, HA, HB⟩ := hrel
  cases gk with
  | zero =>
   have c : decide ((j : Int) < (l0.length : Int)) = false := decide_eq_false (by omega)
   have e : l0.all p = true := by have := HA.out; rwa [List.take_of_length_le (by omega)] at this
   go_wp2
   go_ret
   exact ⟨by rw [e]; rfl, HB.out⟩
  | succ k1 =>
   have hlt : j < l0.length := by omega
   have c : decide ((j : Int) < (l0.length : Int)) = true := decide_eq_true (by omega)
   have ew : wrap64 ((j : Int) + 1) = ((j + 1 : Nat) : Int) := by have := Kd.C_max B4.out; unfold wrap64; omega
   have hq : l0.getD j z48 = rd_T48 l0 (j : Int) := rfl
   obtain ⟨B5, B2, B0, B1⟩ := at_T48 B4.out (j : Int) (by omega) (by omega)
   cases B2
   rw [Int.toNat_natCast] at B0
   replace B0 := (HB.out.cell (World.block_lt_of_cell? w _ B0)).trans B0
   rw [Int.toNat_natCast] at B1
   replace B1 := (HB.out.cell (World.block_lt_of_cell? w _ B1)).trans B1
   have B6 : (0 ≤ (j : Int)) = True := eq_true (by omega)
   have B7 : ((j : Int) < (l0.length : Int)) = True := eq_true (by omega)
   cases hpx : p (rd_T48 l0 (j : Int)) with
   | false =>
    have hn := noall p l0 z48 j hlt (by rw [hq]; exact hpx)
    clear hlt hq hj
    go_wp2_with (go_at_fn g; refine (hp _ (below_alloc HB.out _) (rd_T48 l0 (j : Int))).mono ?_; rintro e W' ⟨rfl, hb⟩; rw [hpx]; replace HB := am_ (below_step (below_alloc HB.out _) hb); clear hb)
    go_ret
    exact ⟨by rw [hn]; rfl, HB.out⟩
   | true =>
    have hn := tkall p l0 z48 j hlt
    rw [hq, hpx, HA.out] at hn
    clear hlt hq
    go_wp2_with (go_at_fn g; refine (hp _ (below_alloc HB.out _) (rd_T48 l0 (j : Int))).mono ?_; rintro e W' ⟨rfl, hb⟩; rw [hpx]; replace HB := am_ (below_step (below_alloc HB.out _) hb); clear hb)
    go_roundg k1
    case measure => omega
    case rel => exact ⟨j + 1, by first | rfl | rw [ew], by omega, ⟨by rw [hn]; rfl⟩, HB⟩
end Go.Proofs.Ythdoghhmooodjaa.Gn
