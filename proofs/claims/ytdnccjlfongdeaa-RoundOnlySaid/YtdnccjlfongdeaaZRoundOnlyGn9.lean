import Derived.Test.YtdnccjlfongdeaaZRoundOnlyGn0
import Derived.Test.YtdnccjlfongdeaaZRoundOnlyGn2
import Derived.Test.YtdnccjlfongdeaaZRoundOnlyGn8
namespace Go.Proofs.Ytdnccjlfongdeaa.Gn
open Go.RowKit Go.Proofs.YtdnccjlfongdeaaW.PrintWords Go.Proofs.YtdnccjlfongdeaaW.PrintLast Go.Proofs.YtdnccjlfongdeaaW.PrintMore
attribute [local go_sem] max2_int min2_int max_two min_two max_three min_three max_four min_four   -- for this text's walks alone
set_option linter.unusedVariables false
set_option linter.unusedSimpArgs false
def roster_Mark.f (k : Nat) (B0 B3 B4 B5 B6 B7 B8 B9 Ba Bb : Int) (B2 : List Int) (a1 : ByteArray) (l2 : List Int) : Option (ByteArray) := (gate_Mark.f k a1 B0 l2).bind fun B1 => (some B1)
theorem roster_Mark.mono : ∀ a0 a1 a2 a3 a4 a5 a6 a7 a8 a9 B0 B1 B2 k, LeO (roster_Mark.f k a0 a1 a2 a3 a4 a5 a6 a7 a8 a9 B0 B1 B2) (roster_Mark.f (k + 1) a0 a1 a2 a3 a4 a5 a6 a7 a8 a9 B0 B1 B2) := by
 intro a0 a1 a2 a3 a4 a5 a6 a7 a8 a9 B0 B1 B2 k
 unfold roster_Mark.f
 repeat' first
   | (with_reducible exact gate_Mark.mono _ _ _ _)
   | (with_reducible exact LeO.refl _)
   | (with_reducible exact LeO.none _)
   | (with_reducible refine LeO.ite ?_ ?_)
   | (with_reducible refine LeO.bind ?_ (fun _ => ?_))
   | exact gate_Mark.mono _ _ _ _
   | exact LeO.none _
   | refine LeO.ite ?_ ?_
   | refine LeO.bind ?_ (fun _ => ?_)
set_option maxHeartbeats 8000000 in
set_option maxRecDepth 100000 in
theorem roster_Mark.calls (k : Nat) (B6 B7 B8 B9 Ba Bb Bc Bd Be Bf : Int) (B2 : Option Addr) (B3 : Nat) (B0 : List Int) (a1 : ByteArray) (A2 : Option Addr) (c2 : Nat) (l2 : List Int) (r : ByteArray) (w : World) (B4 : Kd.C (Kd.int .i64) w B2 B0.length B0) (B5 : B0.length ≤ B3) (Bl : Kd.C (Kd.int .i64) w A2 l2.length l2) (Bm : l2.length ≤ c2) (h : roster_Mark.f k B6 B7 B8 B9 Ba Bb Bc Bd Be Bf B0 a1 l2 = some r) :
  Calls Try.prog 20 #[.agg #[.int .i64 B6, .int .i64 B7, .int .i64 B8, .int .i64 B9, .int .i64 Ba, .int .i64 Bb, .int .i64 Bc, .int .i64 Bd, .int .i64 Be, .int .i64 Bf, .slice B2 B0.length B3], .string a1, .slice A2 l2.length c2] w fun e w' => e = .returned (.string r) ∧ Below w.heap.size w w' := by
 have Bp := Try.underlying24
 have Bi := am_ B4
 have Bj := am_ B5
 clear B4 B5
 have Bq := am_ Bl
 have Br := am_ Bm
 clear Bl Bm
 have HB := am_ (Below.refl w.heap.size w)
 have H := h
 unfold roster_Mark.f at H
 clear h
 replace H := Option.bind_eq_some_iff.mp H
 obtain ⟨Bk, Bn, H⟩ := H
 replace H : (some Bk) = some r := H
 have A4 := am_ Bn
 clear Bn
 obtain rfl := Option.some.inj H
 go_enter Try.func20, Try.ntmps20
 go_wp2_with (first | ((with_reducible refine gate_dst (N := 3) rfl ?_); refine bxe_ 3 24 #[.int .i64 B6, .int .i64 B7, .int .i64 B8, .int .i64 B9, .int .i64 Ba, .int .i64 Bb, .int .i64 Bc, .int .i64 Bd, .int .i64 Be, .int .i64 Bf, .slice B2 B0.length B3] ?_; intro Bo hg w5 hbox hb; have B1 := am_ (hbox); have Bg := gwk_ HB hg; have Bh := Bg; replace HB := bst_ HB hb; clear hb hbox hg; have Bs := cells_11 B1.out; have Bt := frozen_11 B1.out) | ((with_reducible refine gate_callee (f := 47) rfl ?_); refine gom_ (some 11) Try.func47 (gate_Mark.calls k a1 B6 _ _ l2 _ _ (Kd.C_below Bq.out HB.out) Br.out A4.out) ?_; rintro e w7 ⟨rfl, hb⟩; refine ⟨_, rfl, ?_⟩; replace B1 := bkb_ B1 hb; replace HB := bst_ HB hb; (try clear hb)))
 go_ret
 exact ⟨by first | rfl | (simp [*] <;> rfl), by repeat (first | (with_reducible first | exact HB.out | apply ba_ | apply bn_ | apply bd_ | refine bs_ ?_ Bh.out) | exact HB.out)⟩
end Go.Proofs.Ytdnccjlfongdeaa.Gn
