import Derived.Test.YthdoghhmooodjaaZPremiseAfterGn0
import Derived.Test.YthdoghhmooodjaaZPremiseAfterGn1
import Derived.Test.YthdoghhmooodjaaZPremiseAfterGn7
import Derived.Shelf.Abstract
namespace Go.Proofs.Ythdoghhmooodjaa.Gn
open Go.RowKit Go.Proofs.YthdoghhmooodjaaW.PrintWords Go.Proofs.YthdoghhmooodjaaW.PrintLast Go.Proofs.YthdoghhmooodjaaW.PrintMore
attribute [local go_sem] max2_int min2_int max_two min_two max_three min_three max_four min_four   -- for this text's walks alone
set_option linter.unusedVariables false
set_option linter.unusedSimpArgs false
def script_faulty.l0 : Nat → List Int → Int → Int → Int → Int → Int → Int → Int → Int → Int → Int → Int → Int → List Int → List Int → List ByteArray → List (S44) → Option (Bool)
 | 0, _, _, _, _, _, _, _, _, _, _, _, _, _, _, _, _, _ => none
 | k + 1, x6, x7, x8, B1, B2, B3, B4, B5, B6, B7, B8, B9, Ba, Bb, B0, Bc, Bd => if x8 < x7 then (if 0 ≤ x8 then (if x8 < (x6.length : Int) then ((script_is.f k B1 B2 B3 B4 B5 B6 B7 B8 B9 Ba Bb (rd x6 x8)).bind fun Be => (if Be = true then (if x8 ≤ (B0.length : Int) then ((slices_Contains_int_int.f k (B0.take (x8 : Int).toNat) (rd x6 x8)).bind fun Bf => (if Bf = true then (some false) else (script_faulty.l0 k x6 x7 (wrap64 (x8 + 1)) B1 B2 B3 B4 B5 B6 B7 B8 B9 Ba Bb B0 Bc Bd))) else (none)) else (some false))) else (none)) else (none)) else (some true)
def script_faulty.f (k : Nat) (B4 B5 B6 B7 B8 B9 Ba Bb Bc Bd : Int) (B1 B0 : List Int) (B2 : List ByteArray) (B3 : List (S44)) : Option (Bool) := script_faulty.l0 k B0 (B0.length : Int) 0 B4 B5 B6 B7 B8 B9 Ba Bb Bc Bd B1 B0 B2 B3
theorem script_faulty.mono_l : ∀ k, (∀ y0 y1 y2 y3 y4 y5 y6 y7 y8 y9 B0 B1 B2 B3 B4 B5 B6, LeO (script_faulty.l0 k y0 y1 y2 y3 y4 y5 y6 y7 y8 y9 B0 B1 B2 B3 B4 B5 B6) (script_faulty.l0 (k + 1) y0 y1 y2 y3 y4 y5 y6 y7 y8 y9 B0 B1 B2 B3 B4 B5 B6))
 | 0 => fun _ _ _ _ _ _ _ _ _ _ _ _ _ _ _ _ _ r h => by simp [script_faulty.l0] at h
 | k + 1 => by
  have B7 := script_faulty.mono_l k
  ·intro y0 y1 y2 y3 y4 y5 y6 y7 y8 y9 B0 B1 B2 B3 B4 B5 B6
   unfold script_faulty.l0
   repeat' first
   | (with_reducible exact B7 _ _ _ _ _ _ _ _ _ _ _ _ _ _ _ _ _)
   | (with_reducible exact script_is.mono _ _ _ _ _ _ _ _ _ _ _ _ _)
   | (with_reducible exact slices_Contains_int_int.mono _ _ _)
   | (with_reducible exact LeO.refl _)
   | (with_reducible exact LeO.none _)
   | (with_reducible refine LeO.ite ?_ ?_)
   | (with_reducible refine LeO.bind ?_ (fun _ => ?_))
   | exact B7 _ _ _ _ _ _ _ _ _ _ _ _ _ _ _ _ _
   | exact script_is.mono _ _ _ _ _ _ _ _ _ _ _ _ _
   | exact slices_Contains_int_int.mono _ _ _
   | exact LeO.none _
   | refine LeO.ite ?_ ?_
   | refine LeO.bind ?_ (fun _ => ?_)
theorem script_faulty.mono : ∀ a0 a1 a2 a3 a4 a5 a6 a7 a8 a9 B0 B1 B2 B3 k, LeO (script_faulty.f k a0 a1 a2 a3 a4 a5 a6 a7 a8 a9 B0 B1 B2 B3) (script_faulty.f (k + 1) a0 a1 a2 a3 a4 a5 a6 a7 a8 a9 B0 B1 B2 B3) := by
 intro a0 a1 a2 a3 a4 a5 a6 a7 a8 a9 B0 B1 B2 B3 k
 have B4 := script_faulty.mono_l k
 unfold script_faulty.f
 repeat' first
   | (with_reducible exact B4 _ _ _ _ _ _ _ _ _ _ _ _ _ _ _ _ _)
   | (with_reducible exact script_is.mono _ _ _ _ _ _ _ _ _ _ _ _ _)
   | (with_reducible exact slices_Contains_int_int.mono _ _ _)
   | (with_reducible exact LeO.refl _)
   | (with_reducible exact LeO.none _)
   | (with_reducible refine LeO.ite ?_ ?_)
   | (with_reducible refine LeO.bind ?_ (fun _ => ?_))
   | exact B4 _ _ _ _ _ _ _ _ _ _ _ _ _ _ _ _ _
   | exact script_is.mono _ _ _ _ _ _ _ _ _ _ _ _ _
   | exact slices_Contains_int_int.mono _ _ _
   | exact LeO.none _
   | refine LeO.ite ?_ ?_
   | refine LeO.bind ?_ (fun _ => ?_)
set_option maxHeartbeats 8000000 in
set_option maxRecDepth 100000 in
theorem script_faulty.calls (k : Nat) (B9 Ba Bb Bc Bd Be Bf Bg Bh Bi : Int) (Bq : Option Addr) (Br : Nat) (B4 : List Int) (Bs : Option Addr) (B5 : Nat) (B0 : List Int) (Bt : Option Addr) (Bu : Nat) (B6 : List ByteArray) (Bv : Option Addr) (Bw : Nat) (B7 : List (S44)) (r : Bool) (w : World) (Bx : Kd.C (Kd.int .i64) w Bq B4.length B4) (By : B4.length ≤ Br) (Bz : Kd.C (Kd.int .i64) w Bs B0.length B0) (D0 : B0.length ≤ B5) (D1 : Kd.C Kd.string w Bt B6.length B6) (D2 : B6.length ≤ Bu) (D3 : Kd.C k44 w Bv B7.length B7) (D4 : B7.length ≤ Bw) (h : script_faulty.f k B9 Ba Bb Bc Bd Be Bf Bg Bh Bi B4 B0 B6 B7 = some r) :
  Calls Try.prog 38 #[.agg #[.int .i64 B9, .int .i64 Ba, .int .i64 Bb, .int .i64 Bc, .int .i64 Bd, .int .i64 Be, .int .i64 Bf, .int .i64 Bg, .int .i64 Bh, .int .i64 Bi, .slice Bq B4.length Br, .slice Bs B0.length B5, .slice Bt B6.length Bu, .slice Bv B7.length Bw]] w fun e w' => e = .returned (.bool r) ∧ Below w.heap.size w w' := by
 have E7 := Try.underlying24
 have Bm := am_ Bx
 have Bn := am_ By
 clear Bx By
 have B8 := am_ Bz
 have D5 := am_ D0
 clear Bz D0
 have Dk := am_ D1
 have Dl := am_ D2
 clear D1 D2
 have Dm := am_ D3
 have Dn := am_ D4
 clear D3 D4
 have HB := am_ (Below.refl w.heap.size w)
 have H := h
 unfold script_faulty.f at H
 clear h
 have H' := am_ H
 clear H
 go_enter Try.func38, Try.ntmps38
 go_wp2_with (first | ((with_reducible refine gate_load (t := 28) (x := .tmp 1) rfl ?_); refine lrg_ 28 (.tmp 1) Bj 28 (by exact B2.out) Try.underlying28 ?_) | ((with_reducible refine gate_dst (N := 1) rfl ?_); refine bxe_ 1 28 #[.int .i64 B9, .int .i64 Ba, .int .i64 Bb, .int .i64 Bc, .int .i64 Bd, .int .i64 Be, .int .i64 Bf, .int .i64 Bg, .int .i64 Bh, .int .i64 Bi, .slice Bq B4.length Br, .slice Bs B0.length B5, .slice Bt B6.length Bu, .slice Bv B7.length Bw] ?_; intro Bj hg w2 hbox hb; have B2 := am_ (hbox); have Dd := gwk_ HB hg; have Bk := Dd; replace HB := bst_ HB hb; clear hb hbox hg; have Do := cells_14 B2.out; have Dp := frozen_14 B2.out))
 go_loopg [8] k (fun kq v8 w' => ∃ (B1 : Int), v8 = .int .i64 B1 ∧ Aside0 (script_faulty.l0 kq B0 (B0.length : Int) B1 B9 Ba Bb Bc Bd Be Bf Bg Bh Bi B4 B0 B6 B7 = some r) ∧ Aside0 (kq ≤ k) ∧ Aside0 (w'.heap[Bj]? = some (.cells #[.int .i64 B9, .int .i64 Ba, .int .i64 Bb, .int .i64 Bc, .int .i64 Bd, .int .i64 Be, .int .i64 Bf, .int .i64 Bg, .int .i64 Bh, .int .i64 Bi, (.slice Bq B4.length Br), (.slice Bs B0.length B5), (.slice Bt B6.length Bu), (.slice Bv B7.length Bw)] 28 (0, 0))) ∧ Aside0 (Below w.heap.size w w'))
 case atStart => exact ⟨(0), (by first | rfl | (simp; done) | (simp [*]; done)), H', ⟨Nat.le_refl _⟩, ⟨by (with_reducible repeat (first | apply kn_ | apply kd_ | apply ka_)); exact B2.out⟩, ⟨by repeat (first | (with_reducible first | exact HB.out | apply ba_ | apply bn_ | apply bd_ | refine bs_ ?_ Bk.out) | exact HB.out)⟩⟩
 case round =>
  clear H'
  try clear p2
  try clear c3
  try clear hcz3_0 hcz3_1 hcz3_2 hcz3_3 hcz3_4 hcz3_5 hcz3_6 hcz3_7 hcz3_8 hcz3_9 hcz3_10 hcz3_11 hcz3_12 hcz3_13
  try clear hfz3_0 hfz3_1 hfz3_2 hfz3_3 hfz3_4 hfz3_5 hfz3_6 hfz3_7 hfz3_8 hfz3_9 hfz3_10 hfz3_11 hfz3_12 hfz3_13
  obtain ⟨B1, rfl, HA, Dz, B2, HB⟩ := hrel
  cases gk with
  | zero => exact absurd HA.out (by simp [script_faulty.l0])
  | succ k1 =>
   have H := HA.out
   clear HA
   simp only [script_faulty.l0] at H
   by_cases c4 : B1 < (B0.length : Int)
   ·rw [if_pos c4] at H
    have Dq : decide (B1 < (B0.length : Int)) = true := decide_eq_true c4
    clear c4
    by_cases c5 : 0 ≤ B1
    ·rw [if_pos c5] at H
     have E8 : decide (0 ≤ B1) = true := decide_eq_true c5
     clear c5
     by_cases c6 : B1 < (B0.length : Int)
     ·rw [if_pos c6] at H
      have E9 : decide (B1 < (B0.length : Int)) = true := decide_eq_true c6
      clear c6
      obtain ⟨Dr, A7, H⟩ := bes_ H
      try dsimp only at H
      by_cases c8 : Dr = true
      subst c8
      rw [if_pos rfl] at H
      have Ea := eq_true (of_decide_eq_true (by first | (with_reducible assumption) | assumption) : 0 ≤ B1)
      by_cases De : B1 ≤ (B0.length : Int)
      rw [if_pos De] at H
      have E0 := eq_true De
      have E1 : decide (B1 ≤ (B0.length : Int)) = true := decide_eq_true De
      clear De
      obtain ⟨Ds, E2, H⟩ := bes_ H
      try dsimp only at H
      by_cases Dj : Ds = true
      subst Dj
      rw [if_pos rfl] at H
      obtain rfl := Option.some.inj H
      rotate_left
      ·replace Dj := Bool.eq_false_iff.mpr Dj
       subst Dj
       rw [if_neg (show ¬ (false = true) by decide)] at H
       have H' := am_ H
       clear H
       have Bo : 0 ≤ (B1 : Int) := of_decide_eq_true (by first | (with_reducible assumption) | assumption)
       have Bp : B1 < (B0.length : Int) := of_decide_eq_true (by first | (with_reducible assumption) | assumption)
       obtain ⟨Bl, Dc, B3⟩ := Kd.at_int B8.out B1 Bo Bp
       cases Dc
       replace B3 := (HB.out.cell (World.block_lt_of_cell? w _ B3)).trans B3
       replace Bo := eq_true Bo
       replace Bp := eq_true Bp
       have E3 := cells_14 B2.out
       have E4 := frozen_14 B2.out
       go_wp2_with (first | ((with_reducible refine gate_load (t := 28) (x := .tmp 1) rfl ?_); refine lrg_ 28 (.tmp 1) Bj 28 (by exact B2.out) Try.underlying28 ?_) | ((with_reducible refine gate_callee (f := 47) rfl ?_); refine gom_ (some 16) Try.func47 (script_is.calls k1 B9 Ba Bb Bc Bd Be Bf Bg Bh Bi _ _ B4 (rd B0 B1) _ _ (Kd.C_below Bm.out HB.out) Bn.out A7.out) ?_; rintro e w18 ⟨rfl, hb⟩; refine ⟨_, rfl, ?_⟩; replace B2 := bkb_ B2 hb; replace HB := bst_ HB hb; (try clear hb); have Dt := cells_14 B2.out; have Du := frozen_14 B2.out; obtain ⟨Eb, D8, _, D9, _⟩ := info_parts info3; obtain ⟨Dv, Df, Dg⟩ := print_take_of (P := Try.prog) (Value.int .i64) 0 22 3 .i64 Try.underlying22 D8 D9 (some Bl) B5 B0 B1 (of_decide_eq_true (by first | (with_reducible assumption) | assumption)) (of_decide_eq_true (by first | (with_reducible assumption) | assumption)) D5.out; have D6 := am_ (Kd.C_of_reads (h1 := fun _ => rfl) (Df _ (Kd.reads_of_C B8.out))); have D7 := am_ Dg; clear Df Dg D8 D9) | (go_at_call 52; refine calls_of_args (args' := #[.slice (some Bl) (B0.take (B1 : Int).toNat).length B5, .int .i64 (rd B0 B1)]) (by first | (rw [show (B0.take (B1 : Int).toNat).length = B1.toNat from (by rw [List.length_take]; have h_ : (B1 : Int) ≤ (B0.length : Int) := of_decide_eq_true (by first | (with_reducible assumption) | assumption); omega)] <;> rfl) | rfl) ?_; (with_reducible refine (slices_Contains_int_int.calls k1 _ _ (B0.take (B1 : Int).toNat) (rd B0 B1) _ _ ?side1 ?side2 E2.out).mono ?_); (case side1 => exact (Kd.C_below D6.out HB.out)); (case side2 => exact D7.out); rintro e w' ⟨rfl, ⟨nd, rfl⟩⟩))
       go_roundg k1
       case measure => have := Dz.out; omega
       case rel => exact ⟨(wrap64 (B1 + 1)), (by first | rfl | (simp; done) | (simp [*]; done)), H', ⟨by have := Dz.out; omega⟩, ⟨by (with_reducible repeat (first | apply kn_ | apply kd_ | apply ka_)); exact B2.out⟩, ⟨by repeat (first | (with_reducible first | exact HB.out | apply ba_ | apply bn_ | apply bd_ | refine bs_ ?_ Bk.out) | exact HB.out)⟩⟩
      ·rw [if_neg De] at H
       exact absurd H (by simp)
      replace c8 := Bool.eq_false_iff.mpr c8
      subst c8
      rw [if_neg (show ¬ (false = true) by decide)] at H
      obtain rfl := Option.some.inj H
      rotate_left
      all_goals
       have Bo : 0 ≤ (B1 : Int) := of_decide_eq_true (by first | (with_reducible assumption) | assumption)
       have Bp : B1 < (B0.length : Int) := of_decide_eq_true (by first | (with_reducible assumption) | assumption)
       obtain ⟨Bl, Dc, B3⟩ := Kd.at_int B8.out B1 Bo Bp
       cases Dc
       replace B3 := (HB.out.cell (World.block_lt_of_cell? w _ B3)).trans B3
       replace Bo := eq_true Bo
       replace Bp := eq_true Bp
       have E5 := cells_14 B2.out
       have E6 := frozen_14 B2.out
      ·go_wp2_with (first | ((with_reducible refine gate_load (t := 28) (x := .tmp 1) rfl ?_); refine lrg_ 28 (.tmp 1) Bj 28 (by exact B2.out) Try.underlying28 ?_) | ((with_reducible refine gate_callee (f := 47) rfl ?_); refine gom_ (some 16) Try.func47 (script_is.calls k1 B9 Ba Bb Bc Bd Be Bf Bg Bh Bi _ _ B4 (rd B0 B1) _ _ (Kd.C_below Bm.out HB.out) Bn.out A7.out) ?_; rintro e w14 ⟨rfl, hb⟩; refine ⟨_, rfl, ?_⟩; replace B2 := bkb_ B2 hb; replace HB := bst_ HB hb; (try clear hb); have Dw := cells_14 B2.out; have Dx := frozen_14 B2.out; obtain ⟨Ec, Da, _, Db, _⟩ := info_parts info3; obtain ⟨Dy, Dh, Di⟩ := print_take_of (P := Try.prog) (Value.int .i64) 0 22 3 .i64 Try.underlying22 Da Db (some Bl) B5 B0 B1 (of_decide_eq_true (by first | (with_reducible assumption) | assumption)) (of_decide_eq_true (by first | (with_reducible assumption) | assumption)) D5.out; have D6 := am_ (Kd.C_of_reads (h1 := fun _ => rfl) (Dh _ (Kd.reads_of_C B8.out))); have D7 := am_ Di; clear Dh Di Da Db) | (go_at_call 52; refine calls_of_args (args' := #[.slice (some Bl) (B0.take (B1 : Int).toNat).length B5, .int .i64 (rd B0 B1)]) (by first | (rw [show (B0.take (B1 : Int).toNat).length = B1.toNat from (by rw [List.length_take]; have h_ : (B1 : Int) ≤ (B0.length : Int) := of_decide_eq_true (by first | (with_reducible assumption) | assumption); omega)] <;> rfl) | rfl) ?_; (with_reducible refine (slices_Contains_int_int.calls k1 _ _ (B0.take (B1 : Int).toNat) (rd B0 B1) _ _ ?side1 ?side2 E2.out).mono ?_); (case side1 => exact (Kd.C_below D6.out HB.out)); (case side2 => exact D7.out); rintro e w' ⟨rfl, ⟨nd, rfl⟩⟩))
       go_ret
       exact ⟨by first | rfl | (simp [*] <;> rfl), by repeat (first | (with_reducible first | exact HB.out | apply ba_ | apply bn_ | apply bd_ | refine bs_ ?_ Bk.out) | exact HB.out)⟩
      ·go_wp2_with (first | ((with_reducible refine gate_load (t := 28) (x := .tmp 1) rfl ?_); refine lrg_ 28 (.tmp 1) Bj 28 (by exact B2.out) Try.underlying28 ?_) | ((with_reducible refine gate_callee (f := 47) rfl ?_); refine gom_ (some 16) Try.func47 (script_is.calls k1 B9 Ba Bb Bc Bd Be Bf Bg Bh Bi _ _ B4 (rd B0 B1) _ _ (Kd.C_below Bm.out HB.out) Bn.out A7.out) ?_; rintro e w22 ⟨rfl, hb⟩; refine ⟨_, rfl, ?_⟩; replace B2 := bkb_ B2 hb; replace HB := bst_ HB hb; (try clear hb)))
       go_ret
       exact ⟨by first | rfl | (simp [*] <;> rfl), by repeat (first | (with_reducible first | exact HB.out | apply ba_ | apply bn_ | apply bd_ | refine bs_ ?_ Bk.out) | exact HB.out)⟩
     ·rw [if_neg c6] at H
      exact absurd H (by simp)
    ·rw [if_neg c5] at H
     exact absurd H (by simp)
   ·rw [if_neg c4] at H
    have Dq : decide (B1 < (B0.length : Int)) = false := decide_eq_false c4
    clear c4
    obtain rfl := Option.some.inj H
    go_wp2
    go_ret
    exact ⟨by first | rfl | (simp [*] <;> rfl), by repeat (first | (with_reducible first | exact HB.out | apply ba_ | apply bn_ | apply bd_ | refine bs_ ?_ Bk.out) | exact HB.out)⟩
theorem tkall {α : Type} (p : α → Bool) (l : List α) (z : α) (j : Nat) (hj : j < l.length) : (l.take (j + 1)).all p = ((l.take j).all p && p (l.getD j z)) := by
 rw [List.take_succ_eq_append_getElem hj, List.all_append, List.getD_eq_getElem?_getD, List.getElem?_eq_getElem hj]
 simp
theorem noall {α : Type} (p : α → Bool) (l : List α) (z : α) (j : Nat) (hj : j < l.length) (h : p (l.getD j z) = false) : l.all p = false := by
 rw [List.getD_eq_getElem?_getD, List.getElem?_eq_getElem hj] at h
 cases e : l.all p with
 | false => rfl
 | true => exact absurd (List.all_eq_true.1 e _ (List.getElem_mem hj)) (by simp at h; simp [h])
set_option maxHeartbeats 8000000 in
set_option maxRecDepth 100000 in
theorem script_every_int.calls (p : Int → Bool) (A0 : Option Addr) (c0 : Nat) (l0 : List Int) (g : Nat) (lb : Array Value) (eg : ∀ args w, (callFunc g args).run Try.prog w = .ok (.enter g args) w) (w : World) (B2 : Kd.C (Kd.int .i64) w A0 l0.length l0) (hp : ∀ W, Below w.heap.size w W → ∀ x : Int, Calls Try.prog g (#[.int .i64 x] ++ lb) W fun e W' => e = .returned (.bool (p x)) ∧ Below W.heap.size W W') :
  Calls Try.prog 97 #[.slice A0 l0.length c0, .func (.func g) #[] lb] w fun e w' => e = .returned (.bool (l0.all p)) ∧ Below w.heap.size w w' := by
 have B3 := am_ B2
 clear B2
 have HB := am_ (Below.refl w.heap.size w)
 go_enter Try.func97, Try.ntmps97
 go_wp2
 go_loopg [9] l0.length (fun kq v9 w' => ∃ j : Nat, v9 = .int .i64 (j : Int) ∧ j + kq = l0.length ∧ Aside0 ((l0.take j).all p = true) ∧ Aside0 (Below w.heap.size w w'))
 case atStart => exact ⟨0, rfl, by omega, ⟨by simp⟩, HB⟩
 case round =>
  obtain ⟨j, rfl, hj, HA, HB⟩ := hrel
  cases gk with
  | zero =>
   have c : decide ((j : Int) < (l0.length : Int)) = false := decide_eq_false (by omega)
   have e : l0.all p = true := by have := HA.out; rwa [List.take_of_length_le (by omega)] at this
   go_wp2
   go_ret
   exact ⟨by rw [e]; rfl, HB.out⟩
  | succ k1 =>
   have hlt : j < l0.length := by omega
   have c : decide ((j : Int) < (l0.length : Int)) = true := decide_eq_true (by omega)
   have ew : wrap64 ((j : Int) + 1) = ((j + 1 : Nat) : Int) := by have := Kd.C_max B3.out; unfold wrap64; omega
   have hq : l0.getD j (0 : Int) = rd l0 (j : Int) := rfl
   obtain ⟨B4, B1, B0⟩ := Kd.at_int B3.out (j : Int) (by omega) (by omega)
   cases B1
   rw [Int.toNat_natCast] at B0
   replace B0 := (HB.out.cell (World.block_lt_of_cell? w _ B0)).trans B0
   have B5 : (0 ≤ (j : Int)) = True := eq_true (by omega)
   have B6 : ((j : Int) < (l0.length : Int)) = True := eq_true (by omega)
   cases hpx : p (rd l0 (j : Int)) with
   | false =>
    have hn := noall p l0 (0 : Int) j hlt (by rw [hq]; exact hpx)
    clear hlt hq hj
    go_wp2_with (go_at_fn g; refine (hp _ (HB.out) (rd l0 (j : Int))).mono ?_; rintro e W' ⟨rfl, hb⟩; rw [hpx]; replace HB := am_ (below_step (HB.out) hb); clear hb)
    go_ret
    exact ⟨by rw [hn]; rfl, HB.out⟩
   | true =>
    have hn := tkall p l0 (0 : Int) j hlt
    rw [hq, hpx, HA.out] at hn
    clear hlt hq
    go_wp2_with (go_at_fn g; refine (hp _ (HB.out) (rd l0 (j : Int))).mono ?_; rintro e W' ⟨rfl, hb⟩; rw [hpx]; replace HB := am_ (below_step (HB.out) hb); clear hb)
    go_roundg k1
    case measure => omega
    case rel => exact ⟨j + 1, by first | rfl | rw [ew], by omega, ⟨by rw [hn]; rfl⟩, HB⟩
set_option maxHeartbeats 8000000 in
set_option maxRecDepth 100000 in
theorem script_every_string.calls (p : ByteArray → Bool) (A0 : Option Addr) (c0 : Nat) (l0 : List ByteArray) (g : Nat) (lb : Array Value) (eg : ∀ args w, (callFunc g args).run Try.prog w = .ok (.enter g args) w) (w : World) (B2 : Kd.C Kd.string w A0 l0.length l0) (hp : ∀ W, Below w.heap.size w W → ∀ x : ByteArray, Calls Try.prog g (#[.string x] ++ lb) W fun e W' => e = .returned (.bool (p x)) ∧ Below W.heap.size W W') :
  Calls Try.prog 39 #[.slice A0 l0.length c0, .func (.func g) #[] lb] w fun e w' => e = .returned (.bool (l0.all p)) ∧ Below w.heap.size w w' := by
 have B3 := am_ B2
 clear B2
 have HB := am_ (Below.refl w.heap.size w)
 go_enter Try.func39, Try.ntmps39
 go_wp2
 go_loopg [9] l0.length (fun kq v9 w' => ∃ j : Nat, v9 = .int .i64 (j : Int) ∧ j + kq = l0.length ∧ Aside0 ((l0.take j).all p = true) ∧ Aside0 (Below w.heap.size w w'))
 case atStart => exact ⟨0, rfl, by omega, ⟨by simp⟩, HB⟩
 case round =>
  obtain ⟨j, rfl, hj, HA, HB⟩ := hrel
  cases gk with
  | zero =>
   have c : decide ((j : Int) < (l0.length : Int)) = false := decide_eq_false (by omega)
   have e : l0.all p = true := by have := HA.out; rwa [List.take_of_length_le (by omega)] at this
   go_wp2
   go_ret
   exact ⟨by rw [e]; rfl, HB.out⟩
  | succ k1 =>
   have hlt : j < l0.length := by omega
   have c : decide ((j : Int) < (l0.length : Int)) = true := decide_eq_true (by omega)
   have ew : wrap64 ((j : Int) + 1) = ((j + 1 : Nat) : Int) := by have := Kd.C_max B3.out; unfold wrap64; omega
   have hq : l0.getD j ByteArray.empty = rdOf ByteArray.empty l0 (j : Int) := rfl
   obtain ⟨B4, B1, B0⟩ := Kd.at_string B3.out (j : Int) (by omega) (by omega)
   cases B1
   rw [Int.toNat_natCast] at B0
   replace B0 := (HB.out.cell (World.block_lt_of_cell? w _ B0)).trans B0
   have B5 : (0 ≤ (j : Int)) = True := eq_true (by omega)
   have B6 : ((j : Int) < (l0.length : Int)) = True := eq_true (by omega)
   cases hpx : p (rdOf ByteArray.empty l0 (j : Int)) with
   | false =>
    have hn := noall p l0 ByteArray.empty j hlt (by rw [hq]; exact hpx)
    clear hlt hq hj
    go_wp2_with (go_at_fn g; refine (hp _ (HB.out) (rdOf ByteArray.empty l0 (j : Int))).mono ?_; rintro e W' ⟨rfl, hb⟩; rw [hpx]; replace HB := am_ (below_step (HB.out) hb); clear hb)
    go_ret
    exact ⟨by rw [hn]; rfl, HB.out⟩
   | true =>
    have hn := tkall p l0 ByteArray.empty j hlt
    rw [hq, hpx, HA.out] at hn
    clear hlt hq
    go_wp2_with (go_at_fn g; refine (hp _ (HB.out) (rdOf ByteArray.empty l0 (j : Int))).mono ?_; rintro e W' ⟨rfl, hb⟩; rw [hpx]; replace HB := am_ (below_step (HB.out) hb); clear hb)
    go_roundg k1
    case measure => omega
    case rel => exact ⟨j + 1, by first | rfl | rw [ew], by omega, ⟨by rw [hn]; rfl⟩, HB⟩
/-- What is asked of each. -/
def script_Right1B (x : ByteArray) : Bool := decide ((x.size : Int) ≤ 8000)
theorem script_Right1.calls (x : ByteArray) (w : World) : Calls Try.prog 40 (#[.string x] ++ #[]) w fun e w' => e = .returned (.bool (script_Right1B x)) ∧ Below w.heap.size w w' := by
 unfold script_Right1B
 go_enter Try.func40, Try.ntmps40
 go_wp2
 go_ret
 exact ⟨by first | rfl | simp, by repeat (first | exact Below.refl _ _ | apply below_alloc)⟩
def script_every_Right1.f (l0 : List ByteArray) (a1 : Unit) : Option Bool := some (l0.all script_Right1B)
theorem script_every_Right1.calls (A0 : Option Addr) (c0 : Nat) (l0 : List ByteArray) (a1 : Unit) (r : Bool) (w : World) (B0 : Kd.C Kd.string w A0 l0.length l0) (B1 : l0.length ≤ c0) (h : script_every_Right1.f l0 a1 = some r) :
  Calls Try.prog 39 #[.slice A0 l0.length c0, .func (.func 40) #[] #[]] w fun e w' => e = .returned (.bool r) ∧ Below w.heap.size w w' := by
 unfold script_every_Right1.f at h
 obtain rfl := Option.some.inj h
 exact script_every_string.calls script_Right1B A0 c0 l0 40 #[] (enters_of Try.func40 (by kernel_rfl) rfl) w B0 (fun W _ x => script_Right1.calls x W)
end Go.Proofs.Ythdoghhmooodjaa.Gn
