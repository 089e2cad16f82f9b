import Derived.Test.YtdnccjlfongdeaaZRoundOnlyGn0
import Derived.Test.YtdnccjlfongdeaaZRoundOnlyGn2
import Derived.Test.YtdnccjlfongdeaaZRoundOnlyGn4
import Derived.Test.YtdnccjlfongdeaaZRoundOnlyGn5
namespace Go.Proofs.Ytdnccjlfongdeaa.Gn
open Go.RowKit Go.Proofs.YtdnccjlfongdeaaW.PrintWords Go.Proofs.YtdnccjlfongdeaaW.PrintLast Go.Proofs.YtdnccjlfongdeaaW.PrintMore
attribute [local go_sem] max2_int min2_int max_two min_two max_three min_three max_four min_four   -- for this text's walks alone
set_option linter.unusedVariables false
set_option linter.unusedSimpArgs false
def number_Apart.f (k : Nat) (B2 B3 B4 B5 B6 B7 B8 B9 B0 Ba : Int) (B1 : List Int) (a1 a2 : Int) : Option (Int) := (conf_Plain.f k B2 B3 B4 B5 B6 B7 B8 B9 B0 Ba B1).bind fun Bb => (if Bb = 0 then ((num_Mod.f a2 B0).bind fun Bc => ((num_Mod.f a1 B0).bind fun Bd => ((num_Mod.f (wrap64 (Bc - Bd)) B0).bind fun Be => (some Be)))) else (some 0))
theorem number_Apart.mono : ∀ a0 a1 a2 a3 a4 a5 a6 a7 a8 a9 B0 B1 B2 k, LeO (number_Apart.f k a0 a1 a2 a3 a4 a5 a6 a7 a8 a9 B0 B1 B2) (number_Apart.f (k + 1) a0 a1 a2 a3 a4 a5 a6 a7 a8 a9 B0 B1 B2) := by
 intro a0 a1 a2 a3 a4 a5 a6 a7 a8 a9 B0 B1 B2 k
 unfold number_Apart.f
 repeat' first
   | (with_reducible exact conf_Plain.mono _ _ _ _ _ _ _ _ _ _ _ _)
   | (with_reducible exact LeO.refl _)
   | (with_reducible exact LeO.none _)
   | (with_reducible refine LeO.ite ?_ ?_)
   | (with_reducible refine LeO.bind ?_ (fun _ => ?_))
   | exact conf_Plain.mono _ _ _ _ _ _ _ _ _ _ _ _
   | exact LeO.none _
   | refine LeO.ite ?_ ?_
   | refine LeO.bind ?_ (fun _ => ?_)
set_option maxHeartbeats 8000000 in
set_option maxRecDepth 100000 in
theorem number_Apart.calls (k : Nat) (B4 B5 B6 B7 B8 B9 Ba Bb B2 Bc : Int) (Bf : Option Addr) (Bg : Nat) (B1 : List Int) (a1 a2 r : Int) (w : World) (Bj : Kd.C (Kd.int .i64) w Bf B1.length B1) (Bk : B1.length ≤ Bg) (h : number_Apart.f k B4 B5 B6 B7 B8 B9 Ba Bb B2 Bc B1 a1 a2 = some r) :
  Calls Try.prog 33 #[.agg #[.int .i64 B4, .int .i64 B5, .int .i64 B6, .int .i64 B7, .int .i64 B8, .int .i64 B9, .int .i64 Ba, .int .i64 Bb, .int .i64 B2, .int .i64 Bc, .slice Bf B1.length Bg], .int .i64 a1, .int .i64 a2] w fun e w' => e = .returned (.int .i64 r) ∧ Below w.heap.size w w' := by
 have By := Try.underlying24
 have Bd := am_ Bj
 have Be := am_ Bk
 clear Bj Bk
 have HB := am_ (Below.refl w.heap.size w)
 have H := h
 unfold number_Apart.f at H
 clear h
 obtain ⟨Bl, A4, H⟩ := bes_ H
 try dsimp only at H
 by_cases c5 : Bl = 0
 ·rw [if_pos c5] at H
  have Bu : (Bl == 0) = true := beq_iff_eq.mpr c5
  have Bv : (Bl != 0) = false := bne_eq_false_iff_eq.mpr c5
  clear c5
  obtain ⟨Bs, A6, H⟩ := bes_ H
  try dsimp only at H
  obtain ⟨Bt, A7, H⟩ := bes_ H
  try dsimp only at H
  replace H := Option.bind_eq_some_iff.mp H
  obtain ⟨Bw, Bx, H⟩ := H
  replace H : (some Bw) = some r := H
  have A8 := am_ Bx
  clear Bx
  obtain rfl := Option.some.inj H
  go_enter Try.func33, Try.ntmps33
  go_wp2_with (first | ((with_reducible refine gate_dst (N := 3) rfl ?_); refine bxe_ 3 24 #[.int .i64 B4, .int .i64 B5, .int .i64 B6, .int .i64 B7, .int .i64 B8, .int .i64 B9, .int .i64 Ba, .int .i64 Bb, .int .i64 B2, .int .i64 Bc, .slice Bf B1.length Bg] ?_; intro Bi hg w9 hbox hb; have B0 := am_ (hbox); have B3 := gwk_ HB hg; have Bh := B3; replace HB := bst_ HB hb; clear hb hbox hg; have Bm := cells_11 B0.out; have Bp := frozen_11 B0.out) | (go_at_call 18; (with_reducible refine (conf_Plain.calls k B4 B5 B6 B7 B8 B9 Ba Bb B2 Bc _ _ B1 _ _ (Kd.C_below Bd.out HB.out) Be.out A4.out).mono ?_); rintro e w11 ⟨rfl, hb⟩; replace B0 := bkb_ B0 hb; replace HB := bst_ HB hb; (try clear hb); have Bn := cells_11 B0.out; have Bq := frozen_11 B0.out) | (go_at_call 19; (with_reducible refine (num_Mod.calls a2 B2 _ _ A6.out).mono ?_); rintro e w' ⟨rfl, ⟨nd, rfl⟩⟩; (try first | exact ⟨rfl, _, World.drewN_drewN _ _ _⟩ | exact ⟨rfl, _, Eq.trans (World.drewN_drewN _ _ _) (congrArg (World.drewN _) (Nat.add_assoc _ _ _))⟩)) | (go_at_call 19; (with_reducible refine (num_Mod.calls a1 B2 _ _ A7.out).mono ?_); rintro e w' ⟨rfl, ⟨nd, rfl⟩⟩; (try first | exact ⟨rfl, _, World.drewN_drewN _ _ _⟩ | exact ⟨rfl, _, Eq.trans (World.drewN_drewN _ _ _) (congrArg (World.drewN _) (Nat.add_assoc _ _ _))⟩)) | (go_at_call 19; (with_reducible refine (num_Mod.calls (wrap64 (Bs - Bt)) B2 _ _ A8.out).mono ?_); rintro e w' ⟨rfl, ⟨nd, rfl⟩⟩; (try first | exact ⟨rfl, _, World.drewN_drewN _ _ _⟩ | exact ⟨rfl, _, Eq.trans (World.drewN_drewN _ _ _) (congrArg (World.drewN _) (Nat.add_assoc _ _ _))⟩)))
  repeat ((try have Bm := cells_11 B0.out); (try have Bn := cells_11 B0.out); go_quiet (first | ((with_reducible refine gate_dst (N := 3) rfl ?_); refine bxe_ 3 24 #[.int .i64 B4, .int .i64 B5, .int .i64 B6, .int .i64 B7, .int .i64 B8, .int .i64 B9, .int .i64 Ba, .int .i64 Bb, .int .i64 B2, .int .i64 Bc, .slice Bf B1.length Bg] ?_; intro Bi hg w9 hbox hb; have B0 := am_ (hbox); have B3 := gwk_ HB hg; have Bh := B3; replace HB := bst_ HB hb; clear hb hbox hg; (try have Bm := cells_11 B0.out); (try have Bp := frozen_11 B0.out)) | (go_at_call 18; (with_reducible refine (conf_Plain.calls k B4 B5 B6 B7 B8 B9 Ba Bb B2 Bc _ _ B1 _ _ (Kd.C_below Bd.out HB.out) Be.out A4.out).mono ?_); rintro e w11 ⟨rfl, hb⟩; replace B0 := bkb_ B0 hb; replace HB := bst_ HB hb; (try clear hb); (try have Bn := cells_11 B0.out); (try have Bq := frozen_11 B0.out)) | (go_at_call 19; (with_reducible refine (num_Mod.calls a2 B2 _ _ A6.out).mono ?_); rintro e w' ⟨rfl, ⟨nd, rfl⟩⟩; (try first | exact ⟨rfl, _, World.drewN_drewN _ _ _⟩ | exact ⟨rfl, _, Eq.trans (World.drewN_drewN _ _ _) (congrArg (World.drewN _) (Nat.add_assoc _ _ _))⟩)) | (go_at_call 19; (with_reducible refine (num_Mod.calls a1 B2 _ _ A7.out).mono ?_); rintro e w' ⟨rfl, ⟨nd, rfl⟩⟩; (try first | exact ⟨rfl, _, World.drewN_drewN _ _ _⟩ | exact ⟨rfl, _, Eq.trans (World.drewN_drewN _ _ _) (congrArg (World.drewN _) (Nat.add_assoc _ _ _))⟩)) | (go_at_call 19; (with_reducible refine (num_Mod.calls (wrap64 (Bs - Bt)) B2 _ _ A8.out).mono ?_); rintro e w' ⟨rfl, ⟨nd, rfl⟩⟩; (try first | exact ⟨rfl, _, World.drewN_drewN _ _ _⟩ | exact ⟨rfl, _, Eq.trans (World.drewN_drewN _ _ _) (congrArg (World.drewN _) (Nat.add_assoc _ _ _))⟩))); try go_wp2_with (first | ((with_reducible refine gate_dst (N := 3) rfl ?_); refine bxe_ 3 24 #[.int .i64 B4, .int .i64 B5, .int .i64 B6, .int .i64 B7, .int .i64 B8, .int .i64 B9, .int .i64 Ba, .int .i64 Bb, .int .i64 B2, .int .i64 Bc, .slice Bf B1.length Bg] ?_; intro Bi hg w9 hbox hb; have B0 := am_ (hbox); have B3 := gwk_ HB hg; have Bh := B3; replace HB := bst_ HB hb; clear hb hbox hg; (try have Bm := cells_11 B0.out); (try have Bp := frozen_11 B0.out)) | (go_at_call 18; (with_reducible refine (conf_Plain.calls k B4 B5 B6 B7 B8 B9 Ba Bb B2 Bc _ _ B1 _ _ (Kd.C_below Bd.out HB.out) Be.out A4.out).mono ?_); rintro e w11 ⟨rfl, hb⟩; replace B0 := bkb_ B0 hb; replace HB := bst_ HB hb; (try clear hb); (try have Bn := cells_11 B0.out); (try have Bq := frozen_11 B0.out)) | (go_at_call 19; (with_reducible refine (num_Mod.calls a2 B2 _ _ A6.out).mono ?_); rintro e w' ⟨rfl, ⟨nd, rfl⟩⟩; (try first | exact ⟨rfl, _, World.drewN_drewN _ _ _⟩ | exact ⟨rfl, _, Eq.trans (World.drewN_drewN _ _ _) (congrArg (World.drewN _) (Nat.add_assoc _ _ _))⟩)) | (go_at_call 19; (with_reducible refine (num_Mod.calls a1 B2 _ _ A7.out).mono ?_); rintro e w' ⟨rfl, ⟨nd, rfl⟩⟩; (try first | exact ⟨rfl, _, World.drewN_drewN _ _ _⟩ | exact ⟨rfl, _, Eq.trans (World.drewN_drewN _ _ _) (congrArg (World.drewN _) (Nat.add_assoc _ _ _))⟩)) | (go_at_call 19; (with_reducible refine (num_Mod.calls (wrap64 (Bs - Bt)) B2 _ _ A8.out).mono ?_); rintro e w' ⟨rfl, ⟨nd, rfl⟩⟩; (try first | exact ⟨rfl, _, World.drewN_drewN _ _ _⟩ | exact ⟨rfl, _, Eq.trans (World.drewN_drewN _ _ _) (congrArg (World.drewN _) (Nat.add_assoc _ _ _))⟩))))
  go_ret
  exact ⟨by first | rfl | (simp [*] <;> rfl), by repeat (first | (with_reducible first | exact HB.out | apply ba_ | apply bn_ | apply bd_ | refine bs_ ?_ Bh.out) | exact HB.out)⟩
 ·rw [if_neg c5] at H
  have Bu : (Bl == 0) = false := beq_eq_false_iff_ne.mpr c5
  have Bv : (Bl != 0) = true := bne_iff_ne.mpr c5
  obtain rfl := Option.some.inj H
  go_enter Try.func33, Try.ntmps33
  go_wp2_with (first | ((with_reducible refine gate_dst (N := 3) rfl ?_); refine bxe_ 3 24 #[.int .i64 B4, .int .i64 B5, .int .i64 B6, .int .i64 B7, .int .i64 B8, .int .i64 B9, .int .i64 Ba, .int .i64 Bb, .int .i64 B2, .int .i64 Bc, .slice Bf B1.length Bg] ?_; intro Bi hg w13 hbox hb; have B0 := am_ (hbox); have B3 := gwk_ HB hg; have Bh := B3; replace HB := bst_ HB hb; clear hb hbox hg; have Bo := cells_11 B0.out; have Br := frozen_11 B0.out) | (go_at_call 18; (with_reducible refine (conf_Plain.calls k B4 B5 B6 B7 B8 B9 Ba Bb B2 Bc _ _ B1 _ _ (Kd.C_below Bd.out HB.out) Be.out A4.out).mono ?_); rintro e w15 ⟨rfl, hb⟩; replace B0 := bkb_ B0 hb; replace HB := bst_ HB hb; (try clear hb)))
  repeat ((try have Bo := cells_11 B0.out); go_quiet (first | ((with_reducible refine gate_dst (N := 3) rfl ?_); refine bxe_ 3 24 #[.int .i64 B4, .int .i64 B5, .int .i64 B6, .int .i64 B7, .int .i64 B8, .int .i64 B9, .int .i64 Ba, .int .i64 Bb, .int .i64 B2, .int .i64 Bc, .slice Bf B1.length Bg] ?_; intro Bi hg w13 hbox hb; have B0 := am_ (hbox); have B3 := gwk_ HB hg; have Bh := B3; replace HB := bst_ HB hb; clear hb hbox hg; (try have Bo := cells_11 B0.out); (try have Br := frozen_11 B0.out)) | (go_at_call 18; (with_reducible refine (conf_Plain.calls k B4 B5 B6 B7 B8 B9 Ba Bb B2 Bc _ _ B1 _ _ (Kd.C_below Bd.out HB.out) Be.out A4.out).mono ?_); rintro e w15 ⟨rfl, hb⟩; replace B0 := bkb_ B0 hb; replace HB := bst_ HB hb; (try clear hb))); try go_wp2_with (first | ((with_reducible refine gate_dst (N := 3) rfl ?_); refine bxe_ 3 24 #[.int .i64 B4, .int .i64 B5, .int .i64 B6, .int .i64 B7, .int .i64 B8, .int .i64 B9, .int .i64 Ba, .int .i64 Bb, .int .i64 B2, .int .i64 Bc, .slice Bf B1.length Bg] ?_; intro Bi hg w13 hbox hb; have B0 := am_ (hbox); have B3 := gwk_ HB hg; have Bh := B3; replace HB := bst_ HB hb; clear hb hbox hg; (try have Bo := cells_11 B0.out); (try have Br := frozen_11 B0.out)) | (go_at_call 18; (with_reducible refine (conf_Plain.calls k B4 B5 B6 B7 B8 B9 Ba Bb B2 Bc _ _ B1 _ _ (Kd.C_below Bd.out HB.out) Be.out A4.out).mono ?_); rintro e w15 ⟨rfl, hb⟩; replace B0 := bkb_ B0 hb; replace HB := bst_ HB hb; (try clear hb))))
  go_ret
  exact ⟨by first | rfl | (simp [*] <;> rfl), by repeat (first | (with_reducible first | exact HB.out | apply ba_ | apply bn_ | apply bd_ | refine bs_ ?_ Bh.out) | exact HB.out)⟩
end Go.Proofs.Ytdnccjlfongdeaa.Gn
