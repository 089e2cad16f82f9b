import Derived.Test.YtdnccjlfongdeaaZRoundPlaysGn0
import Derived.Test.YtdnccjlfongdeaaZRoundPlaysGn2
import Derived.Test.YtdnccjlfongdeaaZRoundPlaysGn24
import Derived.Test.YtdnccjlfongdeaaZRoundPlaysGn33
namespace Go.Proofs.Ytdnccjlfongdeaa.Gn
open Go.RowKit Go.Proofs.YtdnccjlfongdeaaW.PrintWords Go.Proofs.YtdnccjlfongdeaaW.PrintLast Go.Proofs.YtdnccjlfongdeaaW.PrintMore
attribute [local go_sem] max2_int min2_int max_two min_two max_three min_three max_four min_four   -- for this text's walks alone
set_option linter.unusedVariables false
set_option linter.unusedSimpArgs false
def r38_Follows.f (k : Nat) (B1 B2 B3 B4 B5 B6 B7 B8 B9 Ba : Int) (B0 : List Int) (Bb : Int) (Bf : ByteArray) (Bg : List ByteArray) (Bh : List (List (S45))) (Bc : Int) (Bi : ByteArray) (Bj : List ByteArray) (Bk : List (List (S45))) : Option (Bool) := (r03_Plain.f k B1 B2 B3 B4 B5 B6 B7 B8 B9 Ba B0).bind fun Bd => (if Bd = 0 then ((r20_Apart.f k B1 B2 B3 B4 B5 B6 B7 B8 B9 Ba B0 Bb Bc).bind fun Be => (some (Be == 1))) else (some false))
set_option maxHeartbeats 8000000 in
set_option maxRecDepth 100000 in
theorem r38_Follows.calls (k : Nat) (Ba Bb Bc Bd Be Bf Bg Bh Bi Bj : Int) (Bq : Option Addr) (Br : Nat) (B5 : List Int) (Bs : Int) (D3 : ByteArray) (D4 : Option Addr) (D5 : Nat) (Bk : List ByteArray) (D6 : Option Addr) (D7 : Nat) (Bl : List (List (S45))) (Bt : Int) (D8 : ByteArray) (D9 : Option Addr) (Da : Nat) (Bm : List ByteArray) (Db : Option Addr) (Dc : Nat) (Bn : List (List (S45))) (r : Bool) (w : World) (Bu : Kd.C (Kd.int .i64) w Bq B5.length B5) (Bv : B5.length ≤ Br) (Dd : Kd.C Kd.string w D4 Bk.length Bk) (De : Bk.length ≤ D5) (Df : Kd.C (Kd.slice 45 k45) w D6 Bl.length Bl) (Dg : Bl.length ≤ D7) (Dh : Kd.C Kd.string w D9 Bm.length Bm) (Di : Bm.length ≤ Da) (Dj : Kd.C (Kd.slice 45 k45) w Db Bn.length Bn) (Dk : Bn.length ≤ Dc) (h : r38_Follows.f k Ba Bb Bc Bd Be Bf Bg Bh Bi Bj B5 Bs D3 Bk Bl Bt D8 Bm Bn = some r) :
  Calls Try.prog 13 #[.agg #[.int .i64 Ba, .int .i64 Bb, .int .i64 Bc, .int .i64 Bd, .int .i64 Be, .int .i64 Bf, .int .i64 Bg, .int .i64 Bh, .int .i64 Bi, .int .i64 Bj, .slice Bq B5.length Br], .agg #[.int .i64 Bs, .string D3, .slice D4 Bk.length D5, .slice D6 Bl.length D7], .agg #[.int .i64 Bt, .string D8, .slice D9 Bm.length Da, .slice Db Bn.length Dc]] w fun e w' => e = .returned (.bool r) ∧ Below w.heap.size w w' := by
 have Ek := Try.underlying24
 have El := Try.underlying32
 have Bo := am_ Bu
 have Bp := am_ Bv
 clear Bu Bv
 have Dr := am_ Dd
 have Ds := am_ De
 clear Dd De
 have Dt := am_ Df
 have Du := am_ Dg
 clear Df Dg
 have Dv := am_ Dh
 have Dw := am_ Di
 clear Dh Di
 have Dx := am_ Dj
 have Dy := am_ Dk
 clear Dj Dk
 have HB := am_ (Below.refl w.heap.size w)
 have H := h
 unfold r38_Follows.f at H
 clear h
 obtain ⟨Bw, A4, H⟩ := bes_ H
 try dsimp only at H
 by_cases c5 : Bw = 0
 ·rw [if_pos c5] at H
  have Do : (Bw == 0) = true := beq_iff_eq.mpr c5
  have Dp : (Bw != 0) = false := bne_eq_false_iff_eq.mpr c5
  clear c5
  replace H := Option.bind_eq_some_iff.mp H
  obtain ⟨Dq, Dz, H⟩ := H
  replace H : (some (Dq == 1)) = some r := H
  have A6 := am_ Dz
  clear Dz
  obtain rfl := Option.some.inj H
  go_enter Try.func13, Try.ntmps13
  go_wp2_with (first | ((with_reducible refine gate_dst (N := 3) rfl ?_); refine bxe_ 3 24 #[.int .i64 Ba, .int .i64 Bb, .int .i64 Bc, .int .i64 Bd, .int .i64 Be, .int .i64 Bf, .int .i64 Bg, .int .i64 Bh, .int .i64 Bi, .int .i64 Bj, .slice Bq B5.length Br] ?_; intro Dl hg w7 hbox hb; have B0 := am_ (hbox); have Bx := gwk_ HB hg; have By := Bx; replace HB := bst_ HB hb; clear hb hbox hg) | ((with_reducible refine gate_dst (N := 4) rfl ?_); refine bxe_ 4 32 #[.int .i64 Bs, .string D3, .slice D4 Bk.length D5, .slice D6 Bl.length D7] ?_; intro Dm hg w8 hbox hb; have B1 := am_ (hbox); have Bz := gwk_ HB hg; have D0 := Bz; replace HB := bst_ HB hb; have B2 := nbk_ B0 hg; have B7 := nbs_ B2; replace B0 := bkb_ B0 hb; clear hb hbox hg) | ((with_reducible refine gate_dst (N := 5) rfl ?_); refine bxe_ 5 32 #[.int .i64 Bt, .string D8, .slice D9 Bm.length Da, .slice Db Bn.length Dc] ?_; intro Dn hg w9 hbox hb; have B6 := am_ (hbox); have D1 := gwk_ HB hg; have D2 := D1; replace HB := bst_ HB hb; have B3 := nbk_ B0 hg; have B8 := nbs_ B3; replace B0 := bkb_ B0 hb; have B4 := nbk_ B1 hg; have B9 := nbs_ B4; replace B1 := bkb_ B1 hb; clear hb hbox hg; have E0 := B2.out; have E1 := B7.out; have E2 := B3.out; have E3 := B8.out; have E4 := cells_11 B0.out; have E5 := frozen_11 B0.out) | ((with_reducible refine gate_callee (f := 16) rfl ?_); refine gom_ (some 8) Try.func16 (r03_Plain.calls k Ba Bb Bc Bd Be Bf Bg Bh Bi Bj _ _ B5 _ _ (Kd.C_below Bo.out HB.out) Bp.out A4.out) ?_; rintro e w13 ⟨rfl, hb⟩; refine ⟨_, rfl, ?_⟩; replace B0 := bkb_ B0 hb; replace B1 := bkb_ B1 hb; replace B6 := bkb_ B6 hb; replace HB := bst_ HB hb; (try clear hb); have E6 := cells_11 B0.out; have E7 := frozen_11 B0.out; have E8 := B4.out; have E9 := B9.out; have Ea := cells_4 B1.out; have Eb := frozen_4 B1.out; have Ec := cells_4 B6.out; have Ed := frozen_4 B6.out) | (go_at_call 34; (with_reducible refine (r20_Apart.calls k Ba Bb Bc Bd Be Bf Bg Bh Bi Bj _ _ B5 Bs Bt _ _ (Kd.C_below Bo.out HB.out) Bp.out A6.out).mono ?_); rintro e w18 ⟨rfl, hb⟩; replace B0 := bkb_ B0 hb; replace B1 := bkb_ B1 hb; replace B6 := bkb_ B6 hb; replace HB := bst_ HB hb; (try clear hb)))
  go_ret
  exact ⟨by first | rfl | (simp [*] <;> rfl), by repeat (first | (with_reducible first | exact HB.out | apply ba_ | apply bn_ | apply bd_ | refine bs_ ?_ By.out | refine bs_ ?_ D0.out | refine bs_ ?_ D2.out) | exact HB.out)⟩
 ·rw [if_neg c5] at H
  have Do : (Bw == 0) = false := beq_eq_false_iff_ne.mpr c5
  have Dp : (Bw != 0) = true := bne_iff_ne.mpr c5
  obtain rfl := Option.some.inj H
  go_enter Try.func13, Try.ntmps13
  go_wp2_with (first | ((with_reducible refine gate_dst (N := 3) rfl ?_); refine bxe_ 3 24 #[.int .i64 Ba, .int .i64 Bb, .int .i64 Bc, .int .i64 Bd, .int .i64 Be, .int .i64 Bf, .int .i64 Bg, .int .i64 Bh, .int .i64 Bi, .int .i64 Bj, .slice Bq B5.length Br] ?_; intro Dl hg w19 hbox hb; have B0 := am_ (hbox); have Bx := gwk_ HB hg; have By := Bx; replace HB := bst_ HB hb; clear hb hbox hg) | ((with_reducible refine gate_dst (N := 4) rfl ?_); refine bxe_ 4 32 #[.int .i64 Bs, .string D3, .slice D4 Bk.length D5, .slice D6 Bl.length D7] ?_; intro Dm hg w20 hbox hb; have B1 := am_ (hbox); have Bz := gwk_ HB hg; have D0 := Bz; replace HB := bst_ HB hb; have B2 := nbk_ B0 hg; have B7 := nbs_ B2; replace B0 := bkb_ B0 hb; clear hb hbox hg) | ((with_reducible refine gate_dst (N := 5) rfl ?_); refine bxe_ 5 32 #[.int .i64 Bt, .string D8, .slice D9 Bm.length Da, .slice Db Bn.length Dc] ?_; intro Dn hg w21 hbox hb; have B6 := am_ (hbox); have D1 := gwk_ HB hg; have D2 := D1; replace HB := bst_ HB hb; have B3 := nbk_ B0 hg; have B8 := nbs_ B3; replace B0 := bkb_ B0 hb; have B4 := nbk_ B1 hg; have B9 := nbs_ B4; replace B1 := bkb_ B1 hb; clear hb hbox hg; have Ee := B2.out; have Ef := B7.out; have Eg := B3.out; have Eh := B8.out; have Ei := cells_11 B0.out; have Ej := frozen_11 B0.out) | ((with_reducible refine gate_callee (f := 16) rfl ?_); refine gom_ (some 8) Try.func16 (r03_Plain.calls k Ba Bb Bc Bd Be Bf Bg Bh Bi Bj _ _ B5 _ _ (Kd.C_below Bo.out HB.out) Bp.out A4.out) ?_; rintro e w25 ⟨rfl, hb⟩; refine ⟨_, rfl, ?_⟩; replace B0 := bkb_ B0 hb; replace B1 := bkb_ B1 hb; replace B6 := bkb_ B6 hb; replace HB := bst_ HB hb; (try clear hb)))
  go_ret
  exact ⟨by first | rfl | (simp [*] <;> rfl), by repeat (first | (with_reducible first | exact HB.out | apply ba_ | apply bn_ | apply bd_ | refine bs_ ?_ By.out | refine bs_ ?_ D0.out | refine bs_ ?_ D2.out) | exact HB.out)⟩
end Go.Proofs.Ytdnccjlfongdeaa.Gn
