import Derived.Test.YtdnccjlfongdeaaZRoundOnlyGn0
import Derived.Test.YtdnccjlfongdeaaZRoundOnlyGn1
import Derived.Test.YtdnccjlfongdeaaZRoundOnlyGn2
import Derived.Test.YtdnccjlfongdeaaZRoundOnlyGn12
import Derived.Test.YtdnccjlfongdeaaZRoundOnlyGn14
import Derived.Test.YtdnccjlfongdeaaZRoundOnlyGn16
import Derived.Test.YtdnccjlfongdeaaZRoundOnlyGn20
import Derived.Test.YtdnccjlfongdeaaZRoundOnlyGn21
namespace Go.Proofs.Ytdnccjlfongdeaa.Gn
open Go.RowKit Go.Proofs.YtdnccjlfongdeaaW.PrintWords Go.Proofs.YtdnccjlfongdeaaW.PrintLast Go.Proofs.YtdnccjlfongdeaaW.PrintMore
attribute [local go_sem] max2_int min2_int max_two min_two max_three min_three max_four min_four   -- for this text's walks alone
set_option linter.unusedVariables false
set_option linter.unusedSimpArgs false
attribute [local go_sem high] eqA45
def l38_known.j0 : Nat → List (S45) → Bool → Int → Int → Int → Int → Int → Int → Int → Int → Int → Int → List Int → Int → ByteArray → List ByteArray → List (List (S45)) → Int → ByteArray → List ByteArray → List (List (S45)) → Option (Bool)
 | 0, _, _, _, _, _, _, _, _, _, _, _, _, _, _, _, _, _, _, _, _, _ => none
 | k + 1, x3, Bo, B1, B2, B3, B4, B5, B6, B7, B8, B9, Ba, Bb, Bc, Bd, Be, B0, Bf, Bg, Bh, Bi => if Bo = true then (none) else (if Bc = 7 then (if Bd.toList = ([49, 49, 49, 48] : List UInt8) then (if 1 < (B0.length : Int) then (if 3 < (B0.length : Int) then ((r38_Same.f k 0 (⟨#[]⟩ : ByteArray) ([] : List ByteArray) (([rd_L3 B0 1, rd_L3 B0 3] : List (List (S45)))) 0 (⟨#[]⟩ : ByteArray) ([] : List ByteArray) (([x3, []] : List (List (S45))))).bind fun Bj => (if Bj = true then ((round_Fits.f k B1 B2 B3 B4 B5 B6 B7 B8 B9 Ba Bb (([3] : List Int)) Bc Bd Be B0).bind fun Bk => (if Bk = 0 then ((round_Fits.f k B1 B2 B3 B4 B5 B6 B7 B8 B9 Ba Bb (([3] : List Int)) Bf Bg Bh Bi).bind fun Bl => (if Bl = 16 then ((round_Follows.f k B1 B2 B3 B4 B5 B6 B7 B8 B9 Ba Bb Bc Bd Be B0 Bf Bg Bh Bi).bind fun Bm => (if Bm = true then ((round_Follows.f k B1 B2 B3 B4 B5 B6 B7 B8 B9 Ba Bb Bf Bg Bh Bi Bc Bd Be B0).bind fun Bn => (some (!Bn))) else (none))) else (none))) else (none))) else (none))) else (none)) else (none)) else (none)) else (none))
def l38_known.f (k : Nat)  : Option (Bool) := (l38_small.f).bind fun B0 => ((round_Play.f k B0.1 B0.2.1 B0.2.2.1 B0.2.2.2.1 B0.2.2.2.2.1 B0.2.2.2.2.2.1 B0.2.2.2.2.2.2.1 B0.2.2.2.2.2.2.2.1 B0.2.2.2.2.2.2.2.2.1 B0.2.2.2.2.2.2.2.2.2.1 B0.2.2.2.2.2.2.2.2.2.2 (([3] : List Int)) 17 (⟨#[]⟩ : ByteArray) (([(⟨#[97]⟩ : ByteArray), (⟨#[98]⟩ : ByteArray)] : List ByteArray)) (([(([(⟨3, 3, 0, (⟨#[108, 105, 101]⟩ : ByteArray)⟩ : S45)] : List (S45)))] : List (List (S45))))).bind fun B1 => ((some (([(⟨0, 0, 7, (⟨#[97]⟩ : ByteArray)⟩ : S45), (⟨1, 1, 7, (⟨#[98]⟩ : ByteArray)⟩ : S45), (⟨2, 2, 7, (⟨#[]⟩ : ByteArray)⟩ : S45)] : List (S45)) : List (S45))).bind fun B2 => (if (B1.2.2.2.length : Int) = 4 then (if 0 < (B1.2.2.2.length : Int) then (if ((rd_L3 B1.2.2.2 0).length : Int) = 4 then (if 3 < ((rd_L3 B1.2.2.2 0).length : Int) then (l38_known.j0 k B2 (!(((rd_T45 (rd_L3 B1.2.2.2 0) 3).f0) == 3) || (!(((rd_T45 (rd_L3 B1.2.2.2 0) 3).f1) == 3) || (!(((rd_T45 (rd_L3 B1.2.2.2 0) 3).f2) == 7) || (!((((rd_T45 (rd_L3 B1.2.2.2 0) 3).f3).toList) == ([108, 105, 101] : List UInt8)))))) B0.1 B0.2.1 B0.2.2.1 B0.2.2.2.1 B0.2.2.2.2.1 B0.2.2.2.2.2.1 B0.2.2.2.2.2.2.1 B0.2.2.2.2.2.2.2.1 B0.2.2.2.2.2.2.2.2.1 B0.2.2.2.2.2.2.2.2.2.1 B0.2.2.2.2.2.2.2.2.2.2 B1.1 B1.2.1 B1.2.2.1 B1.2.2.2 8 B1.2.1 B1.2.2.1 B1.2.2.2) else (none)) else (l38_known.j0 k B2 true B0.1 B0.2.1 B0.2.2.1 B0.2.2.2.1 B0.2.2.2.2.1 B0.2.2.2.2.2.1 B0.2.2.2.2.2.2.1 B0.2.2.2.2.2.2.2.1 B0.2.2.2.2.2.2.2.2.1 B0.2.2.2.2.2.2.2.2.2.1 B0.2.2.2.2.2.2.2.2.2.2 B1.1 B1.2.1 B1.2.2.1 B1.2.2.2 8 B1.2.1 B1.2.2.1 B1.2.2.2)) else (none)) else (l38_known.j0 k B2 true B0.1 B0.2.1 B0.2.2.1 B0.2.2.2.1 B0.2.2.2.2.1 B0.2.2.2.2.2.1 B0.2.2.2.2.2.2.1 B0.2.2.2.2.2.2.2.1 B0.2.2.2.2.2.2.2.2.1 B0.2.2.2.2.2.2.2.2.2.1 B0.2.2.2.2.2.2.2.2.2.2 B1.1 B1.2.1 B1.2.2.1 B1.2.2.2 8 B1.2.1 B1.2.2.1 B1.2.2.2))))
theorem l38_known.mono_l : ∀ k, (∀ y0 y1 y2 y3 y4 y5 y6 y7 y8 y9 B0 B1 B2 B3 B4 B5 B6 B7 B8 B9 Ba, LeO (l38_known.j0 k y0 y1 y2 y3 y4 y5 y6 y7 y8 y9 B0 B1 B2 B3 B4 B5 B6 B7 B8 B9 Ba) (l38_known.j0 (k + 1) y0 y1 y2 y3 y4 y5 y6 y7 y8 y9 B0 B1 B2 B3 B4 B5 B6 B7 B8 B9 Ba))
 | 0 => fun _ _ _ _ _ _ _ _ _ _ _ _ _ _ _ _ _ _ _ _ _ r h => by simp [l38_known.j0] at h
 | k + 1 => by
  have Bb := l38_known.mono_l k
  ·intro y0 y1 y2 y3 y4 y5 y6 y7 y8 y9 B0 B1 B2 B3 B4 B5 B6 B7 B8 B9 Ba
   unfold l38_known.j0
   repeat' first
   | (with_reducible exact Bb _ _ _ _ _ _ _ _ _ _ _ _ _ _ _ _ _ _ _ _ _)
   | (with_reducible exact r38_Same.mono _ _ _ _ _ _ _ _ _)
   | (with_reducible exact round_Fits.mono _ _ _ _ _ _ _ _ _ _ _ _ _ _ _ _ _)
   | (with_reducible exact round_Follows.mono _ _ _ _ _ _ _ _ _ _ _ _ _ _ _ _ _ _ _ _)
   | (with_reducible exact round_Play.mono _ _ _ _ _ _ _ _ _ _ _ _ _ _ _ _ _)
   | (with_reducible exact LeO.refl _)
   | (with_reducible exact LeO.none _)
   | (with_reducible refine LeO.ite ?_ ?_)
   | (with_reducible refine LeO.bind ?_ (fun _ => ?_))
   | exact Bb _ _ _ _ _ _ _ _ _ _ _ _ _ _ _ _ _ _ _ _ _
   | exact r38_Same.mono _ _ _ _ _ _ _ _ _
   | exact round_Fits.mono _ _ _ _ _ _ _ _ _ _ _ _ _ _ _ _ _
   | exact round_Follows.mono _ _ _ _ _ _ _ _ _ _ _ _ _ _ _ _ _ _ _ _
   | exact round_Play.mono _ _ _ _ _ _ _ _ _ _ _ _ _ _ _ _ _
   | exact LeO.none _
   | refine LeO.ite ?_ ?_
   | refine LeO.bind ?_ (fun _ => ?_)
theorem l38_known.mono : ∀ k, LeO (l38_known.f k ) (l38_known.f (k + 1) ) := by
 intro  k
 have B0 := l38_known.mono_l k
 unfold l38_known.f
 repeat' first
   | (with_reducible exact B0 _ _ _ _ _ _ _ _ _ _ _ _ _ _ _ _ _ _ _ _ _)
   | (with_reducible exact r38_Same.mono _ _ _ _ _ _ _ _ _)
   | (with_reducible exact round_Fits.mono _ _ _ _ _ _ _ _ _ _ _ _ _ _ _ _ _)
   | (with_reducible exact round_Follows.mono _ _ _ _ _ _ _ _ _ _ _ _ _ _ _ _ _ _ _ _)
   | (with_reducible exact round_Play.mono _ _ _ _ _ _ _ _ _ _ _ _ _ _ _ _ _)
   | (with_reducible exact LeO.refl _)
   | (with_reducible exact LeO.none _)
   | (with_reducible refine LeO.ite ?_ ?_)
   | (with_reducible refine LeO.bind ?_ (fun _ => ?_))
   | exact B0 _ _ _ _ _ _ _ _ _ _ _ _ _ _ _ _ _ _ _ _ _
   | exact r38_Same.mono _ _ _ _ _ _ _ _ _
   | exact round_Fits.mono _ _ _ _ _ _ _ _ _ _ _ _ _ _ _ _ _
   | exact round_Follows.mono _ _ _ _ _ _ _ _ _ _ _ _ _ _ _ _ _ _ _ _
   | exact round_Play.mono _ _ _ _ _ _ _ _ _ _ _ _ _ _ _ _ _
   | exact LeO.none _
   | refine LeO.ite ?_ ?_
   | refine LeO.bind ?_ (fun _ => ?_)
def l38_known.T8 : Bool × List (List Nat × List Nat) := (true, [([], []), ([0], [0]), ([1], [1]), ([2], [2]), ([3], [3]), ([4, 3], [3, 4]), ([5, 3], [3, 5]), ([3, 6], [3, 6]), ([7, 3], [7]), ([8], [8]), ([9, 8], [8, 9]), ([10, 8], [8, 10]), ([11, 8], [8, 11]), ([8], [8]), ([13, 8], [8, 13]), ([14, 8], [8, 14]), ([15, 8], [8, 15]), ([12, 16, 8], [8, 12, 16]), ([17, 8], [8, 17]), ([8], [8]), ([19, 8], [8, 19]), ([20, 8], [8, 20]), ([18, 21, 8, 8], [8, 18, 21]), ([8, 22], [8, 22]), ([23, 22], [23]), ([24], [24]), ([24], [24]), ([24], [24]), ([25, 26, 27, 24, 24], [24, 25, 26, 27]), ([28, 24], [24, 28]), ([24, 29], [24, 29]), ([30, 28], [30]), ([31], [31]), ([31], [31]), ([31], [31]), ([32, 33, 34, 31, 31], [31, 32, 33, 34]), ([35, 31], [31, 35]), ([31, 36], [31, 36]), ([37, 35], [37]), ([38], [38]), ([38], [38]), ([38], [38]), ([39, 40, 41, 38, 38], [38, 39, 40, 41]), ([38, 42], [38, 42]), ([43, 42], [43]), ([44], [44]), ([44], [44]), ([44], [44]), ([45, 46, 47, 44, 44], [44, 45, 46, 47]), ([48, 44], [44, 48]), ([44, 49], [44, 49]), ([50, 48, 0, 1, 2, 3, 4, 5, 6, 7, 8, 9, 10, 11, 12, 13, 14, 15, 16, 17, 18, 19, 20, 21, 22, 23, 24, 25, 26, 27, 28, 29, 30, 31, 32, 33, 34, 35, 36, 37, 38, 39, 40, 41, 42, 43, 44, 45, 46, 47, 48, 49, 50], [50])])
def l38_known.B8 : List Nat := [0, 1, 3, 7, 15, 31, 63, 127, 255, 511, 1023, 2047, 4095, 511, 8703, 25087, 57855, 131071, 262143, 511, 524799, 1573375, 4194303, 8388607, 16777215, 33554431, 33554431, 33554431, 268435455, 536870911, 1073741823, 2147483647, 4294967295, 4294967295, 4294967295, 34359738367, 68719476735, 137438953471, 274877906943, 549755813887, 549755813887, 549755813887, 4398046511103, 8796093022207, 17592186044415, 35184372088831, 35184372088831, 35184372088831, 281474976710655, 562949953421311, 1125899906842623, 2251799813685247]
theorem l38_known.tab8 : rtab .any (opsOf Try.f8 8) = l38_known.T8 := by kernel_rfl
theorem l38_known.bits8 : waitsOk l38_known.T8.2 l38_known.B8 = true := by kernel_rfl
set_option maxHeartbeats 8000000 in
set_option maxRecDepth 100000 in
theorem l38_known.calls (k : Nat)  (r : Bool) (w : World) (h : l38_known.f k  = some r) :
  Calls Try.prog 8 #[] w fun e w' => e = .returned (.bool r) ∧ Below w.heap.size w w' := by
 have Rg := Try.underlying45
 have Rh := Try.underlying32
 have HB := am_ (Below.refl w.heap.size w)
 have H := h
 unfold l38_known.f at H
 clear h
 replace H := Option.bind_eq_some_iff.mp H
 obtain ⟨⟨Bo, Bp, Bq, Br, Bs, Bt, Bu, Bv, Bw, Bx, Bg⟩, Oa, H⟩ := H
 try dsimp only at H
 have A1 := am_ Oa
 clear Oa
 obtain ⟨y415, hy415⟩ : ∃ y_ : List Int, y_ = (([3] : List Int)) := ⟨_, rfl⟩
 replace H : ((round_Play.f k Bo Bp Bq Br Bs Bt Bu Bv Bw Bx Bg y415 17 (⟨#[]⟩ : ByteArray) (([(⟨#[97]⟩ : ByteArray), (⟨#[98]⟩ : ByteArray)] : List ByteArray)) (([(([(⟨3, 3, 0, (⟨#[108, 105, 101]⟩ : ByteArray)⟩ : S45)] : List (S45)))] : List (List (S45))))).bind fun B3 => ((some (([(⟨0, 0, 7, (⟨#[97]⟩ : ByteArray)⟩ : S45), (⟨1, 1, 7, (⟨#[98]⟩ : ByteArray)⟩ : S45), (⟨2, 2, 7, (⟨#[]⟩ : ByteArray)⟩ : S45)] : List (S45)) : List (S45))).bind fun D9 => (if (B3.2.2.2.length : Int) = 4 then (if 0 < (B3.2.2.2.length : Int) then (if ((rd_L3 B3.2.2.2 0).length : Int) = 4 then (if 3 < ((rd_L3 B3.2.2.2 0).length : Int) then (l38_known.j0 k D9 (!(((rd_T45 (rd_L3 B3.2.2.2 0) 3).f0) == 3) || (!(((rd_T45 (rd_L3 B3.2.2.2 0) 3).f1) == 3) || (!(((rd_T45 (rd_L3 B3.2.2.2 0) 3).f2) == 7) || (!((((rd_T45 (rd_L3 B3.2.2.2 0) 3).f3).toList) == ([108, 105, 101] : List UInt8)))))) Bo Bp Bq Br Bs Bt Bu Bv Bw Bx Bg B3.1 B3.2.1 B3.2.2.1 B3.2.2.2 8 B3.2.1 B3.2.2.1 B3.2.2.2) else (none)) else (l38_known.j0 k D9 true Bo Bp Bq Br Bs Bt Bu Bv Bw Bx Bg B3.1 B3.2.1 B3.2.2.1 B3.2.2.2 8 B3.2.1 B3.2.2.1 B3.2.2.2)) else (none)) else (l38_known.j0 k D9 true Bo Bp Bq Br Bs Bt Bu Bv Bw Bx Bg B3.1 B3.2.1 B3.2.2.1 B3.2.2.2 8 B3.2.1 B3.2.2.1 B3.2.2.2)))) = some r := by first | (rw [hy415]; with_reducible exact H) | (have Dq := (Option.bind_some _ _).symm.trans H; rw [hy415]; with_reducible exact Dq) | (have Dq := (Option.bind_some _ _).symm.trans H; with_reducible exact Dq) | with_reducible exact H | (rw [hy415]; exact H) | exact H
 have J8 := am_ hy415
 clear hy415
 obtain ⟨y418, hy418⟩ : ∃ y_ : List ByteArray, y_ = (([(⟨#[97]⟩ : ByteArray), (⟨#[98]⟩ : ByteArray)] : List ByteArray)) := ⟨_, rfl⟩
 replace H : ((round_Play.f k Bo Bp Bq Br Bs Bt Bu Bv Bw Bx Bg y415 17 (⟨#[]⟩ : ByteArray) y418 (([(([(⟨3, 3, 0, (⟨#[108, 105, 101]⟩ : ByteArray)⟩ : S45)] : List (S45)))] : List (List (S45))))).bind fun B3 => ((some (([(⟨0, 0, 7, (⟨#[97]⟩ : ByteArray)⟩ : S45), (⟨1, 1, 7, (⟨#[98]⟩ : ByteArray)⟩ : S45), (⟨2, 2, 7, (⟨#[]⟩ : ByteArray)⟩ : S45)] : List (S45)) : List (S45))).bind fun D9 => (if (B3.2.2.2.length : Int) = 4 then (if 0 < (B3.2.2.2.length : Int) then (if ((rd_L3 B3.2.2.2 0).length : Int) = 4 then (if 3 < ((rd_L3 B3.2.2.2 0).length : Int) then (l38_known.j0 k D9 (!(((rd_T45 (rd_L3 B3.2.2.2 0) 3).f0) == 3) || (!(((rd_T45 (rd_L3 B3.2.2.2 0) 3).f1) == 3) || (!(((rd_T45 (rd_L3 B3.2.2.2 0) 3).f2) == 7) || (!((((rd_T45 (rd_L3 B3.2.2.2 0) 3).f3).toList) == ([108, 105, 101] : List UInt8)))))) Bo Bp Bq Br Bs Bt Bu Bv Bw Bx Bg B3.1 B3.2.1 B3.2.2.1 B3.2.2.2 8 B3.2.1 B3.2.2.1 B3.2.2.2) else (none)) else (l38_known.j0 k D9 true Bo Bp Bq Br Bs Bt Bu Bv Bw Bx Bg B3.1 B3.2.1 B3.2.2.1 B3.2.2.2 8 B3.2.1 B3.2.2.1 B3.2.2.2)) else (none)) else (l38_known.j0 k D9 true Bo Bp Bq Br Bs Bt Bu Bv Bw Bx Bg B3.1 B3.2.1 B3.2.2.1 B3.2.2.2 8 B3.2.1 B3.2.2.1 B3.2.2.2)))) = some r := by first | (rw [hy418]; with_reducible exact H) | (have Dq := (Option.bind_some _ _).symm.trans H; rw [hy418]; with_reducible exact Dq) | (have Dq := (Option.bind_some _ _).symm.trans H; with_reducible exact Dq) | with_reducible exact H | (rw [hy418]; exact H) | exact H
 have J9 := am_ hy418
 clear hy418
 obtain ⟨y421, hy421⟩ : ∃ y_ : List (S45), y_ = (([(⟨3, 3, 0, (⟨#[108, 105, 101]⟩ : ByteArray)⟩ : S45)] : List (S45))) := ⟨_, rfl⟩
 replace H : ((round_Play.f k Bo Bp Bq Br Bs Bt Bu Bv Bw Bx Bg y415 17 (⟨#[]⟩ : ByteArray) y418 (([y421] : List (List (S45))))).bind fun B3 => ((some (([(⟨0, 0, 7, (⟨#[97]⟩ : ByteArray)⟩ : S45), (⟨1, 1, 7, (⟨#[98]⟩ : ByteArray)⟩ : S45), (⟨2, 2, 7, (⟨#[]⟩ : ByteArray)⟩ : S45)] : List (S45)) : List (S45))).bind fun D9 => (if (B3.2.2.2.length : Int) = 4 then (if 0 < (B3.2.2.2.length : Int) then (if ((rd_L3 B3.2.2.2 0).length : Int) = 4 then (if 3 < ((rd_L3 B3.2.2.2 0).length : Int) then (l38_known.j0 k D9 (!(((rd_T45 (rd_L3 B3.2.2.2 0) 3).f0) == 3) || (!(((rd_T45 (rd_L3 B3.2.2.2 0) 3).f1) == 3) || (!(((rd_T45 (rd_L3 B3.2.2.2 0) 3).f2) == 7) || (!((((rd_T45 (rd_L3 B3.2.2.2 0) 3).f3).toList) == ([108, 105, 101] : List UInt8)))))) Bo Bp Bq Br Bs Bt Bu Bv Bw Bx Bg B3.1 B3.2.1 B3.2.2.1 B3.2.2.2 8 B3.2.1 B3.2.2.1 B3.2.2.2) else (none)) else (l38_known.j0 k D9 true Bo Bp Bq Br Bs Bt Bu Bv Bw Bx Bg B3.1 B3.2.1 B3.2.2.1 B3.2.2.2 8 B3.2.1 B3.2.2.1 B3.2.2.2)) else (none)) else (l38_known.j0 k D9 true Bo Bp Bq Br Bs Bt Bu Bv Bw Bx Bg B3.1 B3.2.1 B3.2.2.1 B3.2.2.2 8 B3.2.1 B3.2.2.1 B3.2.2.2)))) = some r := by first | (rw [hy421]; with_reducible exact H) | (have Dq := (Option.bind_some _ _).symm.trans H; rw [hy421]; with_reducible exact Dq) | (have Dq := (Option.bind_some _ _).symm.trans H; with_reducible exact Dq) | with_reducible exact H | (rw [hy421]; exact H) | exact H
 have Ja := am_ hy421
 clear hy421
 obtain ⟨y424, hy424⟩ : ∃ y_ : List (List (S45)), y_ = (([y421] : List (List (S45)))) := ⟨_, rfl⟩
 replace H : ((round_Play.f k Bo Bp Bq Br Bs Bt Bu Bv Bw Bx Bg y415 17 (⟨#[]⟩ : ByteArray) y418 y424).bind fun B3 => ((some (([(⟨0, 0, 7, (⟨#[97]⟩ : ByteArray)⟩ : S45), (⟨1, 1, 7, (⟨#[98]⟩ : ByteArray)⟩ : S45), (⟨2, 2, 7, (⟨#[]⟩ : ByteArray)⟩ : S45)] : List (S45)) : List (S45))).bind fun D9 => (if (B3.2.2.2.length : Int) = 4 then (if 0 < (B3.2.2.2.length : Int) then (if ((rd_L3 B3.2.2.2 0).length : Int) = 4 then (if 3 < ((rd_L3 B3.2.2.2 0).length : Int) then (l38_known.j0 k D9 (!(((rd_T45 (rd_L3 B3.2.2.2 0) 3).f0) == 3) || (!(((rd_T45 (rd_L3 B3.2.2.2 0) 3).f1) == 3) || (!(((rd_T45 (rd_L3 B3.2.2.2 0) 3).f2) == 7) || (!((((rd_T45 (rd_L3 B3.2.2.2 0) 3).f3).toList) == ([108, 105, 101] : List UInt8)))))) Bo Bp Bq Br Bs Bt Bu Bv Bw Bx Bg B3.1 B3.2.1 B3.2.2.1 B3.2.2.2 8 B3.2.1 B3.2.2.1 B3.2.2.2) else (none)) else (l38_known.j0 k D9 true Bo Bp Bq Br Bs Bt Bu Bv Bw Bx Bg B3.1 B3.2.1 B3.2.2.1 B3.2.2.2 8 B3.2.1 B3.2.2.1 B3.2.2.2)) else (none)) else (l38_known.j0 k D9 true Bo Bp Bq Br Bs Bt Bu Bv Bw Bx Bg B3.1 B3.2.1 B3.2.2.1 B3.2.2.2 8 B3.2.1 B3.2.2.1 B3.2.2.2)))) = some r := by first | (rw [hy424]; with_reducible exact H) | (have Dq := (Option.bind_some _ _).symm.trans H; rw [hy424]; with_reducible exact Dq) | (have Dq := (Option.bind_some _ _).symm.trans H; with_reducible exact Dq) | with_reducible exact H | (rw [hy424]; exact H) | exact H
 have Jb := am_ hy424
 clear hy424
 replace H := Option.bind_eq_some_iff.mp H
 obtain ⟨⟨Bm, Bj, B2, B0⟩, Ob, H⟩ := H
 try dsimp only at H
 have A2 := am_ Ob
 clear Ob
 obtain ⟨D9, hy436⟩ : ∃ y_ : List (S45), y_ = (([(⟨0, 0, 7, (⟨#[97]⟩ : ByteArray)⟩ : S45), (⟨1, 1, 7, (⟨#[98]⟩ : ByteArray)⟩ : S45), (⟨2, 2, 7, (⟨#[]⟩ : ByteArray)⟩ : S45)] : List (S45))) := ⟨_, rfl⟩
 replace H : (if (B0.length : Int) = 4 then (if 0 < (B0.length : Int) then (if ((rd_L3 B0 0).length : Int) = 4 then (if 3 < ((rd_L3 B0 0).length : Int) then (l38_known.j0 k D9 (!(((rd_T45 (rd_L3 B0 0) 3).f0) == 3) || (!(((rd_T45 (rd_L3 B0 0) 3).f1) == 3) || (!(((rd_T45 (rd_L3 B0 0) 3).f2) == 7) || (!((((rd_T45 (rd_L3 B0 0) 3).f3).toList) == ([108, 105, 101] : List UInt8)))))) Bo Bp Bq Br Bs Bt Bu Bv Bw Bx Bg Bm Bj B2 B0 8 Bj B2 B0) else (none)) else (l38_known.j0 k D9 true Bo Bp Bq Br Bs Bt Bu Bv Bw Bx Bg Bm Bj B2 B0 8 Bj B2 B0)) else (none)) else (l38_known.j0 k D9 true Bo Bp Bq Br Bs Bt Bu Bv Bw Bx Bg Bm Bj B2 B0 8 Bj B2 B0)) = some r := by first | (rw [hy436]; with_reducible exact H) | (have Dq := (Option.bind_some _ _).symm.trans H; rw [hy436]; with_reducible exact Dq) | (have Dq := (Option.bind_some _ _).symm.trans H; with_reducible exact Dq) | with_reducible exact H | (rw [hy436]; exact H) | exact H
 have Jc := am_ hy436
 clear hy436
 have Mp := am_ H
 clear H
 go_enter Try.func8, Try.ntmps8
 go_upto_region 6 with (first | ((with_reducible refine gate_load (t := 24) (x := .tmp 1) rfl ?_); refine lrg_ 24 (.tmp 1) B5 24 (by (with_reducible repeat (first | apply kn_ | apply kd_ | apply ka_)); with_reducible exact Ba.out) Try.underlying24 ?_) | ((with_reducible refine gate_callee (f := 17) rfl ?_); refine gom_ (some 5) Try.func17 (l38_small.calls  _ _ _ _ _ _ _ _ _ _ _ _ A1.out) ?_; rintro e w4 ⟨v412, rfl, Jm, hb⟩; refine ⟨_, rfl, ?_⟩; have Bn := am_ (Kd.R_lower Jm (below_size HB.out)); replace HB := bst_ HB hb; (try clear hb); (try clear Jm)) | ((with_reducible refine gate_dst (N := 1) rfl ?_); (try (refine gate_guard (by rfl) ?_; dsimp only)); refine bxe_ 1 24 #[.int .i64 0, .int .i64 0, .int .i64 0, .int .i64 0, .int .i64 0, .int .i64 0, .int .i64 0, .int .i64 0, .int .i64 0, .int .i64 0, .slice none 0 0] ?_; intro B5 hg w5 hbox hb; replace Bn := am_ (Kd.R_below Bn.out hb); have Ba := am_ (hbox); have L2 := gwk_ HB hg; have Dp := L2; replace HB := bst_ HB hb; clear hb hbox hg; obtain ⟨D3, D4, Ri⟩ := Kd.R_slice Bn.out; subst Ri) | ((with_reducible refine gate_store (t := 24) (p := 1) rfl ?_); refine row_store_event (t := 24) (p := 1) (v := ?vo_w7) ?hgd ?ho ?hn B5 #[.int .i64 Bo, .int .i64 Bp, .int .i64 Bq, .int .i64 Br, .int .i64 Bs, .int .i64 Bt, .int .i64 Bu, .int .i64 Bv, .int .i64 Bw, .int .i64 Bx, .slice D3 Bg.length D4] ?hx ?hy 24 #[.int .i64 0, .int .i64 0, .int .i64 0, .int .i64 0, .int .i64 0, .int .i64 0, .int .i64 0, .int .i64 0, .int .i64 0, .int .i64 0, .slice none 0 0] ?hg ?hi ?hold ?h1 ?_; (case hgd => rfl); (case ho => rfl); (case hn => rfl); (case hx => rfl); (case hy => rfl); (case hg => exact (by (with_reducible repeat (first | apply kn_ | apply kd_ | apply ka_)); exact Ba.out)); (case hi => kernel_rfl); (case hold => rfl); (case h1 => (first | kernel_rfl | simp [Value.oneCell'])); intro w7 hw; have F8 : Aside0 (Kd.R (Kd.int .i64) 3 w7 w.heap.size (fun _ => True) (.slice D3 Bg.length D4) Bg) := ⟨(by rw [hw]; exact (by (with_reducible repeat (first | apply Kd.R_alloc | apply Kd.R_drewN | apply Kd.R_drew)); exact Kd.R_mono (Kd.R_farc (Kd.R_types Bn.out Ba.out (by decide)) (fun _ hk => hk.2)) (fun _ hk => trivial)))⟩; have F9 : Aside0 (w7.heap[B5]? = some (.cells #[.int .i64 Bo, .int .i64 Bp, .int .i64 Bq, .int .i64 Br, .int .i64 Bs, .int .i64 Bt, .int .i64 Bu, .int .i64 Bv, .int .i64 Bw, .int .i64 Bx, .slice D3 Bg.length D4] 24 (0, 0))) := ⟨(by rw [hw]; exact (by (with_reducible repeat (first | apply kn_ | apply kd_ | apply ka_)); refine setRow_heap _ _ #[.int .i64 0, .int .i64 0, .int .i64 0, .int .i64 0, .int .i64 0, .int .i64 0, .int .i64 0, .int .i64 0, .int .i64 0, .int .i64 0, .slice none 0 0] _ 24 (0, 0) ?_; (with_reducible repeat (first | apply kn_ | apply kd_ | apply ka_)); exact Ba.out))⟩; have Fa : Aside0 (Below w.heap.size w w7) := ⟨(by rw [hw]; exact (by repeat (first | (with_reducible first | exact HB.out | refine below_setc ?_ Dp.out | apply below_alloc | apply pw_below_drewN | apply below_drew1 | refine bs_ ?_ Dp.out) | exact HB.out)))⟩; clear hw; clear Bn; clear Ba; clear HB; have Bn := F8; have Ba := F9; have HB := Fa; clear F8 F9 Fa; have Mq := cells_11 Ba.out; have Mr := frozen_11 Ba.out) | ((with_reducible refine gate_dst (N := 7) rfl ?_); (try (refine gate_guard (by rfl) ?_; dsimp only)); refine Kd.R_lit (Kd.int .i64) _ 3 ?hg (N := 7) ?hd (xs := ([3] : List Int)) (inner := [.int .i64 3]) (ok := fun _ => True) (okp := fun _ => True) ?hr ?hp (fun _ hk => hk) trivial (Below.refl _ _) (Nat.le_refl _) (by simp) ?_; (case hd => rfl); (case hg => rfl); (case hr => first | (go_simp; done) | (go_simp; rfl)); (case hp => exact (Reps.one (show Kd.M (Kd.int .i64) _ _ _ 3 [.int .i64 3] from rfl) (Reps.none _ _))); intro v416 w9 Fm hb hg_ hnew_; clear hg_ hnew_; (first | rw [← J8.out] at Fm | (simp only [Int.reduceToNat] at Fm; rw [← J8.out] at Fm)); have Bz := am_ (Kd.R_lower (Kd.R_new' Fm (Kd.R_lt (by (with_reducible repeat (first | apply Kd.R_alloc | apply Kd.R_drewN | apply Kd.R_drew)); exact Bn.out))) (below_size HB.out)); replace Bn := am_ (Kd.R_elder' (by (with_reducible repeat (first | apply Kd.R_alloc | apply Kd.R_drewN | apply Kd.R_drew)); exact Bn.out) (Kd.R_base Fm) hb); replace Ba := bkb_ Ba hb; replace HB := bst_ HB hb; clear hb Fm) | ((with_reducible refine gate_dst (N := 8) rfl ?_); (try (refine gate_guard (by rfl) ?_; dsimp only)); refine Kd.R_lit Kd.string _ 9 ?hg (N := 8) ?hd (xs := ([(⟨#[97]⟩ : ByteArray), (⟨#[98]⟩ : ByteArray)] : List ByteArray)) (inner := [.string (⟨#[97]⟩ : ByteArray), .string (⟨#[98]⟩ : ByteArray)]) (ok := fun _ => True) (okp := fun _ => True) ?hr ?hp (fun _ hk => hk) trivial (Below.refl _ _) (Nat.le_refl _) (by simp) ?_; (case hd => rfl); (case hg => rfl); (case hr => first | (go_simp; done) | (go_simp; rfl)); (case hp => exact (Reps.one (show Kd.M Kd.string _ _ _ (⟨#[97]⟩ : ByteArray) [.string (⟨#[97]⟩ : ByteArray)] from rfl) (Reps.one (show Kd.M Kd.string _ _ _ (⟨#[98]⟩ : ByteArray) [.string (⟨#[98]⟩ : ByteArray)] from rfl) (Reps.none _ _)))); intro v419 w11 Fq hb hg_ hnew_; clear hg_ hnew_; (first | rw [← J9.out] at Fq | (simp only [Int.reduceToNat] at Fq; rw [← J9.out] at Fq)); replace Bn := am_ (Kd.R_below Bn.out hb); replace Bz := am_ (Kd.R_below Bz.out hb); have D0 := am_ (Kd.R_lower Fq (below_size HB.out)); replace Ba := bkb_ Ba hb; replace HB := bst_ HB hb; clear hb Fq) | ((with_reducible refine gate_dst (N := 10) rfl ?_); (try (refine gate_guard (by rfl) ?_; dsimp only)); refine Kd.R_lit k45 _ 45 ?hg (N := 10) ?hd (xs := ([(⟨3, 3, 0, (⟨#[108, 105, 101]⟩ : ByteArray)⟩ : S45)] : List (S45))) (inner := [.int .i64 3, .int .i64 3, .int .i64 0, .string (⟨#[108, 105, 101]⟩ : ByteArray)]) (ok := fun _ => True) (okp := fun _ => True) ?hr ?hp (fun _ hk => hk) trivial (Below.refl _ _) (Nat.le_refl _) (by simp) ?_; (case hd => rfl); (case hg => rfl); (case hr => first | (go_simp; done) | (go_simp; rfl)); (case hp => exact (Reps.c4 (show Kd.M k45 _ _ _ (⟨3, 3, 0, (⟨#[108, 105, 101]⟩ : ByteArray)⟩ : S45) [.int .i64 3, .int .i64 3, .int .i64 0, .string (⟨#[108, 105, 101]⟩ : ByteArray)] from (k45_mkM _ _ _ (⟨3, 3, 0, (⟨#[108, 105, 101]⟩ : ByteArray)⟩ : S45) )) (Reps.none _ _))); intro v422 w13 Fr hb hg_ hnew_; clear hg_ hnew_; (first | rw [← Ja.out] at Fr | (simp only [Int.reduceToNat] at Fr; rw [← Ja.out] at Fr)); replace Bn := am_ (Kd.R_below Bn.out hb); replace Bz := am_ (Kd.R_below Bz.out hb); replace D0 := am_ (Kd.R_below D0.out hb); have Fb := am_ (Kd.R_lower Fr (below_size HB.out)); replace Ba := bkb_ Ba hb; replace HB := bst_ HB hb; clear hb Fr; obtain ⟨L3, L4, Ms⟩ := Kd.R_slice Fb.out; subst Ms) | ((with_reducible refine gate_dst (N := 11) rfl ?_); (try (refine gate_guard (by rfl) ?_; dsimp only)); refine Kd.N_lit (Kd.slice 45 k45) _ 42 ?hg (N' := 11) ?hd (xs := ([y421] : List (List (S45)))) (inner := [.slice L3 y421.length L4]) (ok := (fun k_ => some k_ ≠ (.slice D3 Bg.length D4 : Value).ownBlock ∧ some k_ ≠ (v416 : Value).ownBlock ∧ some k_ ≠ (v419 : Value).ownBlock ∧ k_ ≠ B5)) (okp := (fun k_ => some k_ ≠ (.slice D3 Bg.length D4 : Value).ownBlock ∧ some k_ ≠ (v416 : Value).ownBlock ∧ some k_ ≠ (v419 : Value).ownBlock ∧ k_ ≠ B5)) ?hr ?hp (fun _ hk => hk) ((show ∀ k_, w13.heap.size ≤ k_ → (fun k_ => some k_ ≠ (.slice D3 Bg.length D4 : Value).ownBlock ∧ some k_ ≠ (v416 : Value).ownBlock ∧ some k_ ≠ (v419 : Value).ownBlock ∧ k_ ≠ B5) k_ from fun k_ hk => ⟨Kd.fresh' (Kd.R_lt (by (with_reducible repeat (first | apply Kd.R_alloc | apply Kd.R_drewN | apply Kd.R_drew)); exact Bn.out)) k_ hk, Kd.fresh' (Kd.R_lt (by (with_reducible repeat (first | apply Kd.R_alloc | apply Kd.R_drewN | apply Kd.R_drew)); exact Bz.out)) k_ hk, Kd.fresh' (Kd.R_lt (by (with_reducible repeat (first | apply Kd.R_alloc | apply Kd.R_drewN | apply Kd.R_drew)); exact D0.out)) k_ hk, Kd.freshB (g := B5) (o := .cells #[.int .i64 Bo, .int .i64 Bp, .int .i64 Bq, .int .i64 Br, .int .i64 Bs, .int .i64 Bt, .int .i64 Bu, .int .i64 Bv, .int .i64 Bw, .int .i64 Bx, .slice D3 Bg.length D4] 24 (0, 0)) (by (with_reducible repeat (first | apply kn_ | apply kd_ | apply ka_)); exact Ba.out) k_ hk⟩) _ (Nat.le_refl _)) (Below.refl _ _) (Nat.le_refl _) (by simp) ?_; (case hd => rfl); (case hg => rfl); (case hr => first | (go_simp; done) | (go_simp; rfl)); (case hp => exact (Reps.one (show Kd.FK (Kd.slice 45 k45) _ _ y421 [.slice L3 y421.length L4] from (Kd.FK_slice_mk (Kd.R_reads' (Kd.R_mono (ok' := (fun k_ => some k_ ≠ (.slice D3 Bg.length D4 : Value).ownBlock ∧ some k_ ≠ (v416 : Value).ownBlock ∧ some k_ ≠ (v419 : Value).ownBlock ∧ k_ ≠ B5)) (Kd.R_types (Kd.R_apart' (Kd.R_apart' (Kd.R_apart' (Fb.out) (Kd.R_typed Bn.out) (by decide)) (Kd.R_typed Bz.out) (by decide)) (Kd.R_typed D0.out) (by decide)) Ba.out (by decide)) (fun k_ hk => ⟨hk.1.1.1.2, ⟨hk.1.1.2, ⟨hk.1.2, hk.2⟩⟩⟩))).2.1 (Kd.R_F (Kd.R_mono (ok' := (fun k_ => some k_ ≠ (.slice D3 Bg.length D4 : Value).ownBlock ∧ some k_ ≠ (v416 : Value).ownBlock ∧ some k_ ≠ (v419 : Value).ownBlock ∧ k_ ≠ B5)) (Kd.R_types (Kd.R_apart' (Kd.R_apart' (Kd.R_apart' (Fb.out) (Kd.R_typed Bn.out) (by decide)) (Kd.R_typed Bz.out) (by decide)) (Kd.R_typed D0.out) (by decide)) Ba.out (by decide)) (fun k_ hk => ⟨hk.1.1.1.2, ⟨hk.1.1.2, ⟨hk.1.2, hk.2⟩⟩⟩))))) (Reps.none _ _))); intro v425 w16 Fs hb hg_ hnew_; clear hg_ hnew_; (first | rw [← Jb.out] at Fs | (simp only [Int.reduceToNat] at Fs; rw [← Jb.out] at Fs)); have Mt := below_of hb (by repeat (first | (with_reducible first | exact HB.out | apply ba_ | apply bn_ | apply bd_ | refine bs_ ?_ Dp.out) | exact HB.out)); replace Bn := am_ (Kd.R_below (by (with_reducible repeat (first | apply Kd.R_alloc | apply Kd.R_drewN | apply Kd.R_drew)); exact Bn.out) hb); replace Bz := am_ (Kd.R_below (by (with_reducible repeat (first | apply Kd.R_alloc | apply Kd.R_drewN | apply Kd.R_drew)); exact Bz.out) hb); replace D0 := am_ (Kd.R_below (by (with_reducible repeat (first | apply Kd.R_alloc | apply Kd.R_drewN | apply Kd.R_drew)); exact D0.out) hb); have Da := am_ (Kd.N_lower Fs (below_size Mt)); replace Ba := am_ (blk_below (g := B5) (o := .cells #[.int .i64 Bo, .int .i64 Bp, .int .i64 Bq, .int .i64 Br, .int .i64 Bs, .int .i64 Bt, .int .i64 Bu, .int .i64 Bv, .int .i64 Bw, .int .i64 Bx, .slice D3 Bg.length D4] 24 (0, 0)) (by (with_reducible repeat (first | apply kn_ | apply kd_ | apply ka_)); exact Ba.out) hb); replace HB := am_ (below_step Mt hb); clear Fb Mt; clear hb Fs; obtain ⟨E3, E4, Mu⟩ := Kd.R_slice Bz.out; subst Mu; obtain ⟨E5, E6, Mv⟩ := Kd.R_slice D0.out; subst Mv; obtain ⟨F3, F4, Mw⟩ := Kd.N_slice Da.out; subst Mw) | ((with_reducible refine gate_callee (f := 9) rfl ?_); refine gom_ (some 12) Try.func9 (round_Play.calls k Bo Bp Bq Br Bs Bt Bu Bv Bw Bx _ _ Bg _ _ y415 17 (⟨#[]⟩ : ByteArray) _ _ y418 _ _ y424 _ _ _ _ _ (Kd.R_reads' Bn.out).2.2 (Kd.R_reads' Bn.out).2.1 (Kd.R_reads' Bz.out).2.2 (Kd.R_reads' Bz.out).2.1 (Kd.R_reads' D0.out).2.2 (Kd.R_reads' D0.out).2.1 (Kd.N_reads' Da.out).2.2 (Kd.N_reads' Da.out).2.1 A2.out) ?_; rintro e w21 ⟨v430, v433, rfl, Jm, Mx, hb⟩; refine ⟨_, rfl, ?_⟩; have D8 := am_ (Kd.R_lower (Kd.R_new' (Kd.R_mono (ok' := fun k_ => True) Jm (fun _ hk_ => trivial)) (Kd.R_lt (by (with_reducible repeat (first | apply Kd.R_alloc | apply Kd.R_drewN | apply Kd.R_drew)); exact D0.out))) (below_size HB.out)); have By := am_ (Kd.N_lower (Kd.N_mono (ok' := fun k_ => some k_ ≠ (v430 : Value).ownBlock ∧ some k_ ≠ (.slice D3 Bg.length D4 : Value).ownBlock ∧ some k_ ≠ (.slice E3 y415.length E4 : Value).ownBlock ∧ some k_ ≠ (.slice E5 y418.length E6 : Value).ownBlock ∧ some k_ ≠ (.slice F3 y424.length F4 : Value).ownBlock ∧ k_ ≠ B5) Mx (fun k_ hk_ => ⟨hk_.2, (Kd.fresh' (Kd.R_lt (by (with_reducible repeat (first | apply Kd.R_alloc | apply Kd.R_drewN | apply Kd.R_drew)); exact Bn.out)) k_ hk_.1), (Kd.fresh' (Kd.R_lt (by (with_reducible repeat (first | apply Kd.R_alloc | apply Kd.R_drewN | apply Kd.R_drew)); exact Bz.out)) k_ hk_.1), (Kd.fresh' (Kd.R_lt (by (with_reducible repeat (first | apply Kd.R_alloc | apply Kd.R_drewN | apply Kd.R_drew)); exact D0.out)) k_ hk_.1), (Kd.fresh' (Kd.N_lt (by (with_reducible repeat (first | apply Kd.N_alloc | apply Kd.N_drewN | apply Kd.N_drew)); exact Da.out)) k_ hk_.1), (Kd.freshB (g := B5) (o := .cells #[.int .i64 Bo, .int .i64 Bp, .int .i64 Bq, .int .i64 Br, .int .i64 Bs, .int .i64 Bt, .int .i64 Bu, .int .i64 Bv, .int .i64 Bw, .int .i64 Bx, .slice D3 Bg.length D4] 24 (0, 0)) (by (with_reducible repeat (first | apply kn_ | apply kd_ | apply ka_)); exact Ba.out) k_ hk_.1)⟩)) (below_size HB.out)); replace Bn := am_ (Kd.R_below Bn.out hb); replace Bz := am_ (Kd.R_below Bz.out hb); replace D0 := am_ (Kd.R_elder' (by (with_reducible repeat (first | apply Kd.R_alloc | apply Kd.R_drewN | apply Kd.R_drew)); exact D0.out) (Kd.R_base Jm) hb); replace Da := am_ (Kd.N_mono (Kd.N_told (Kd.N_told (Kd.N_old (by (with_reducible repeat (first | apply Kd.N_alloc | apply Kd.N_drewN | apply Kd.N_drew)); exact Da.out) hb) (Kd.R_base Jm)) (Kd.N_base Mx)) (fun _ h_ => h_.1)); replace Ba := bkb_ Ba hb; replace HB := bst_ HB hb; (try clear hb); (try clear Jm); (try clear Mx)) | ((with_reducible refine gate_dst (N := 2) rfl ?_); (try (refine gate_guard (by rfl) ?_; dsimp only)); refine bxe_ 2 32 #[.int .i64 0, .string (⟨#[]⟩ : ByteArray), .slice none 0 0, .slice none 0 0] ?_; intro B7 hg w22 hbox hb; replace Bn := am_ (Kd.R_below Bn.out hb); replace Bz := am_ (Kd.R_below Bz.out hb); replace D0 := am_ (Kd.R_below D0.out hb); replace Da := am_ (Kd.N_below (Kd.N_elderB (by (with_reducible repeat (first | apply Kd.N_alloc | apply Kd.N_drewN | apply Kd.N_drew)); exact Da.out) B7 (Nat.le_of_eq hg.symm)) hb); replace D8 := am_ (Kd.R_below D8.out hb); replace By := am_ (Kd.N_below (Kd.N_elderB (by (with_reducible repeat (first | apply Kd.N_alloc | apply Kd.N_drewN | apply Kd.N_drew)); exact By.out) B7 (Nat.le_of_eq hg.symm)) hb); have B1 := am_ (hbox); have L5 := gwk_ HB hg; have Dw := L5; replace HB := bst_ HB hb; have Dg := nbk_ Ba hg; have Ds := nbs_ Dg; replace Ba := bkb_ Ba hb; clear hb hbox hg; have Oc := Ds.out; have Od := Dg.out; have L6 := cells_4 B1.out; have L7 := frozen_4 B1.out; obtain ⟨Be, Bf, My⟩ := Kd.R_slice D8.out; subst My; obtain ⟨D5, Bi, Mz⟩ := Kd.N_slice By.out; subst Mz) | ((with_reducible refine gate_store (t := 32) (p := 2) rfl ?_); refine store_event (t := 32) (p := 2) (v := ?vo_w27) (w1 := ((((w22.setCell ⟨B7, 0, none⟩ (.int .i64 Bm)).setCell ⟨B7, 1, none⟩ (.string Bj)).setCell ⟨B7, 2, none⟩ (.slice Be B2.length Bf)).setCell ⟨B7, 3, none⟩ (.slice D5 B0.length Bi))) ?hg ?ho ?hn ?hr ?_; (case ho => rfl); (case hg => rfl); (case hn => rfl); (case hr => first | (go_simp; done) | (go_simp; rfl)); intro w27 hw; have F8 : Aside0 (Kd.R (Kd.int .i64) 3 w27 w.heap.size (fun k_ => some k_ ≠ (.slice E3 y415.length E4 : Value).ownBlock) (.slice D3 Bg.length D4) Bg) := ⟨(by rw [hw]; exact (by (with_reducible repeat (first | apply Kd.R_alloc | apply Kd.R_drewN | apply Kd.R_drew)); exact Kd.R_mono (Kd.R_far (p := ⟨B7, 3, none⟩) (Kd.R_far (p := ⟨B7, 2, none⟩) (Kd.R_far (p := ⟨B7, 1, none⟩) (Kd.R_far (p := ⟨B7, 0, none⟩) (Kd.R_types Bn.out B1.out (by decide)) (fun _ hk => hk.2) (.int .i64 Bm)) (fun _ hk => hk.2) (.string Bj)) (fun _ hk => hk.2) (.slice Be B2.length Bf)) (fun _ hk => hk.2) (.slice D5 B0.length Bi)) (fun _ hk => hk.1.2)))⟩; have F9 : Aside0 (Kd.R (Kd.int .i64) 3 w27 w.heap.size (fun k_ => some k_ ≠ (.slice D3 Bg.length D4 : Value).ownBlock) (.slice E3 y415.length E4) y415) := ⟨(by rw [hw]; exact (by (with_reducible repeat (first | apply Kd.R_alloc | apply Kd.R_drewN | apply Kd.R_drew)); exact Kd.R_mono (Kd.R_far (p := ⟨B7, 3, none⟩) (Kd.R_far (p := ⟨B7, 2, none⟩) (Kd.R_far (p := ⟨B7, 1, none⟩) (Kd.R_far (p := ⟨B7, 0, none⟩) (Kd.R_types Bz.out B1.out (by decide)) (fun _ hk => hk.2) (.int .i64 Bm)) (fun _ hk => hk.2) (.string Bj)) (fun _ hk => hk.2) (.slice Be B2.length Bf)) (fun _ hk => hk.2) (.slice D5 B0.length Bi)) (fun _ hk => hk.1.2)))⟩; have Fa : Aside0 (Kd.R Kd.string 9 w27 w.heap.size (fun k_ => some k_ ≠ (.slice Be B2.length Bf : Value).ownBlock) (.slice E5 y418.length E6) y418) := ⟨(by rw [hw]; exact (by (with_reducible repeat (first | apply Kd.R_alloc | apply Kd.R_drewN | apply Kd.R_drew)); exact Kd.R_mono (Kd.R_far (p := ⟨B7, 3, none⟩) (Kd.R_far (p := ⟨B7, 2, none⟩) (Kd.R_far (p := ⟨B7, 1, none⟩) (Kd.R_far (p := ⟨B7, 0, none⟩) (Kd.R_types D0.out B1.out (by decide)) (fun _ hk => hk.2) (.int .i64 Bm)) (fun _ hk => hk.2) (.string Bj)) (fun _ hk => hk.2) (.slice Be B2.length Bf)) (fun _ hk => hk.2) (.slice D5 B0.length Bi)) (fun _ hk => hk.1.2)))⟩; have Ft : Aside0 (Kd.N (Kd.slice 45 k45) 42 w27 w.heap.size (fun k_ => some k_ ≠ (.slice D3 Bg.length D4 : Value).ownBlock ∧ some k_ ≠ (.slice E3 y415.length E4 : Value).ownBlock ∧ some k_ ≠ (.slice E5 y418.length E6 : Value).ownBlock ∧ some k_ ≠ (.slice Be B2.length Bf : Value).ownBlock ∧ some k_ ≠ (.slice D5 B0.length Bi : Value).ownBlock ∧ k_ ≠ B5 ∧ k_ ≠ B7) (.slice F3 y424.length F4) y424) := ⟨(by rw [hw]; exact (by (with_reducible repeat (first | apply Kd.N_alloc | apply Kd.N_drewN | apply Kd.N_drew)); exact Kd.N_mono (Kd.N_far (p := ⟨B7, 3, none⟩) (Kd.N_far (p := ⟨B7, 2, none⟩) (Kd.N_far (p := ⟨B7, 1, none⟩) (Kd.N_far (p := ⟨B7, 0, none⟩) (Kd.N_mono Da.out (fun k_ hk => (⟨hk, hk.2⟩ : _ ∧ k_ ≠ B7))) (fun _ hk => hk.2) (.int .i64 Bm)) (fun _ hk => hk.2) (.string Bj)) (fun _ hk => hk.2) (.slice Be B2.length Bf)) (fun _ hk => hk.2) (.slice D5 B0.length Bi)) (fun _ hk => ⟨hk.1.1.1.1.1, ⟨hk.1.1.1.1.2.1, ⟨hk.1.1.1.1.2.2.1, ⟨hk.1.1.1.2, ⟨hk.1.1.2, ⟨hk.1.1.1.1.2.2.2, hk.1.2⟩⟩⟩⟩⟩⟩)))⟩; have Fu : Aside0 (Kd.R Kd.string 9 w27 w.heap.size (fun k_ => some k_ ≠ (.slice E5 y418.length E6 : Value).ownBlock) (.slice Be B2.length Bf) B2) := ⟨(by rw [hw]; exact (by (with_reducible repeat (first | apply Kd.R_alloc | apply Kd.R_drewN | apply Kd.R_drew)); exact Kd.R_mono (Kd.R_far (p := ⟨B7, 3, none⟩) (Kd.R_far (p := ⟨B7, 2, none⟩) (Kd.R_far (p := ⟨B7, 1, none⟩) (Kd.R_far (p := ⟨B7, 0, none⟩) (Kd.R_types D8.out B1.out (by decide)) (fun _ hk => hk.2) (.int .i64 Bm)) (fun _ hk => hk.2) (.string Bj)) (fun _ hk => hk.2) (.slice Be B2.length Bf)) (fun _ hk => hk.2) (.slice D5 B0.length Bi)) (fun _ hk => hk.1.2)))⟩; have Fv : Aside0 (Kd.N (Kd.slice 45 k45) 42 w27 w.heap.size (fun k_ => some k_ ≠ (.slice D3 Bg.length D4 : Value).ownBlock ∧ some k_ ≠ (.slice E3 y415.length E4 : Value).ownBlock ∧ some k_ ≠ (.slice E5 y418.length E6 : Value).ownBlock ∧ some k_ ≠ (.slice F3 y424.length F4 : Value).ownBlock ∧ some k_ ≠ (.slice Be B2.length Bf : Value).ownBlock ∧ k_ ≠ B5 ∧ k_ ≠ B7) (.slice D5 B0.length Bi) B0) := ⟨(by rw [hw]; exact (by (with_reducible repeat (first | apply Kd.N_alloc | apply Kd.N_drewN | apply Kd.N_drew)); exact Kd.N_mono (Kd.N_far (p := ⟨B7, 3, none⟩) (Kd.N_far (p := ⟨B7, 2, none⟩) (Kd.N_far (p := ⟨B7, 1, none⟩) (Kd.N_far (p := ⟨B7, 0, none⟩) (Kd.N_mono By.out (fun k_ hk => (⟨hk, hk.2⟩ : _ ∧ k_ ≠ B7))) (fun _ hk => hk.2) (.int .i64 Bm)) (fun _ hk => hk.2) (.string Bj)) (fun _ hk => hk.2) (.slice Be B2.length Bf)) (fun _ hk => hk.2) (.slice D5 B0.length Bi)) (fun _ hk => ⟨hk.1.1.2.1, ⟨hk.1.1.2.2.1, ⟨hk.1.1.2.2.2.1, ⟨hk.1.1.2.2.2.2.1, ⟨hk.1.1.1, ⟨hk.1.1.2.2.2.2.2, hk.1.2⟩⟩⟩⟩⟩⟩)))⟩; have Fw : Aside0 (w27.heap[B5]? = some (.cells #[.int .i64 Bo, .int .i64 Bp, .int .i64 Bq, .int .i64 Br, .int .i64 Bs, .int .i64 Bt, .int .i64 Bu, .int .i64 Bv, .int .i64 Bw, .int .i64 Bx, .slice D3 Bg.length D4] 24 (0, 0))) := ⟨(by rw [hw]; exact (by (iterate 4 ((with_reducible repeat (first | apply kn_ | apply kd_ | apply ka_)); refine blk_far ?_ Dg.out _)); (with_reducible repeat (first | apply kn_ | apply kd_ | apply ka_)); exact Ba.out))⟩; have Fx : Aside0 (w27.heap[B7]? = some (.cells #[.int .i64 Bm, .string Bj, .slice Be B2.length Bf, .slice D5 B0.length Bi] 32 (0, 0))) := ⟨(by rw [hw]; exact (by (with_reducible repeat (first | apply kn_ | apply kd_ | apply ka_)); refine blk_put (cs := #[.int .i64 Bm, .string Bj, .slice Be B2.length Bf, .slice none 0 0]) ?_ 3 _ rfl; (with_reducible repeat (first | apply kn_ | apply kd_ | apply ka_)); refine blk_put (cs := #[.int .i64 Bm, .string Bj, .slice none 0 0, .slice none 0 0]) ?_ 2 _ rfl; (with_reducible repeat (first | apply kn_ | apply kd_ | apply ka_)); refine blk_put (cs := #[.int .i64 Bm, .string (⟨#[]⟩ : ByteArray), .slice none 0 0, .slice none 0 0]) ?_ 1 _ rfl; (with_reducible repeat (first | apply kn_ | apply kd_ | apply ka_)); refine blk_put (cs := #[.int .i64 0, .string (⟨#[]⟩ : ByteArray), .slice none 0 0, .slice none 0 0]) ?_ 0 _ rfl; (with_reducible repeat (first | apply kn_ | apply kd_ | apply ka_)); exact B1.out))⟩; have Fy : Aside0 (Below w.heap.size w w27) := ⟨(by rw [hw]; exact (by repeat (first | (with_reducible first | exact HB.out | apply ba_ | apply bn_ | apply bd_ | refine bs_ ?_ Dp.out | refine bs_ ?_ Dw.out) | exact HB.out)))⟩; clear hw; clear Bn; clear Bz; clear D0; clear Da; clear D8; clear By; clear Ba; clear B1; clear HB; have Bn := F8; have Bz := F9; have D0 := Fa; have Da := Ft; have D8 := Fu; have By := Fv; have Ba := Fw; have B1 := Fx; have HB := Fy; clear F8 F9 Fa Ft Fu Fv Fw Fx Fy) | ((with_reducible refine gate_dst (N := 16) rfl ?_); (try (refine gate_guard (by rfl) ?_; dsimp only)); refine Kd.R_lit k45 _ 45 ?hg (N := 16) ?hd (xs := ([(⟨0, 0, 7, (⟨#[97]⟩ : ByteArray)⟩ : S45), (⟨1, 1, 7, (⟨#[98]⟩ : ByteArray)⟩ : S45), (⟨2, 2, 7, (⟨#[]⟩ : ByteArray)⟩ : S45)] : List (S45))) (inner := [.int .i64 0, .int .i64 0, .int .i64 7, .string (⟨#[97]⟩ : ByteArray), .int .i64 1, .int .i64 1, .int .i64 7, .string (⟨#[98]⟩ : ByteArray), .int .i64 2, .int .i64 2, .int .i64 7, .string (⟨#[]⟩ : ByteArray)]) (ok := fun _ => True) (okp := fun _ => True) ?hr ?hp (fun _ hk => hk) trivial (Below.refl _ _) (Nat.le_refl _) (by simp) ?_; (case hd => rfl); (case hg => rfl); (case hr => first | (go_simp; done) | (go_simp; rfl)); (case hp => exact (Reps.c4 (show Kd.M k45 _ _ _ (⟨0, 0, 7, (⟨#[97]⟩ : ByteArray)⟩ : S45) [.int .i64 0, .int .i64 0, .int .i64 7, .string (⟨#[97]⟩ : ByteArray)] from (k45_mkM _ _ _ (⟨0, 0, 7, (⟨#[97]⟩ : ByteArray)⟩ : S45) )) (Reps.c4 (show Kd.M k45 _ _ _ (⟨1, 1, 7, (⟨#[98]⟩ : ByteArray)⟩ : S45) [.int .i64 1, .int .i64 1, .int .i64 7, .string (⟨#[98]⟩ : ByteArray)] from (k45_mkM _ _ _ (⟨1, 1, 7, (⟨#[98]⟩ : ByteArray)⟩ : S45) )) (Reps.c4 (show Kd.M k45 _ _ _ (⟨2, 2, 7, (⟨#[]⟩ : ByteArray)⟩ : S45) [.int .i64 2, .int .i64 2, .int .i64 7, .string (⟨#[]⟩ : ByteArray)] from (k45_mkM _ _ _ (⟨2, 2, 7, (⟨#[]⟩ : ByteArray)⟩ : S45) )) (Reps.none _ _))))); intro v437 w28 F5 hb hg_ hnew_; clear hg_ hnew_; (first | rw [← Jc.out] at F5 | (simp only [Int.reduceToNat] at F5; rw [← Jc.out] at F5)); replace Bn := am_ (Kd.R_below Bn.out hb); replace Bz := am_ (Kd.R_below Bz.out hb); replace D0 := am_ (Kd.R_below D0.out hb); replace Da := am_ (Kd.N_elder' (by (with_reducible repeat (first | apply Kd.N_alloc | apply Kd.N_drewN | apply Kd.N_drew)); exact Da.out) (Kd.R_base F5) hb); replace D8 := am_ (Kd.R_below D8.out hb); replace By := am_ (Kd.N_elder' (by (with_reducible repeat (first | apply Kd.N_alloc | apply Kd.N_drewN | apply Kd.N_drew)); exact By.out) (Kd.R_base F5) hb); have Dr := am_ (Kd.R_lower F5 (below_size HB.out)); replace Ba := bkb_ Ba hb; replace B1 := bkb_ B1 hb; replace HB := bst_ HB hb; clear hb F5; have L8 := cells_4 B1.out; have L9 := frozen_4 B1.out) | ((with_reducible refine gate_dst (N := 4) rfl ?_); (try (refine gate_guard (by rfl) ?_; dsimp only)); refine bxe_ 4 32 #[.int .i64 0, .string (⟨#[]⟩ : ByteArray), .slice none 0 0, .slice none 0 0] ?_; intro B8 hg w31 hbox hb; replace Bn := am_ (Kd.R_below Bn.out hb); replace Bz := am_ (Kd.R_below Bz.out hb); replace D0 := am_ (Kd.R_below D0.out hb); replace Da := am_ (Kd.N_below (Kd.N_elderB (by (with_reducible repeat (first | apply Kd.N_alloc | apply Kd.N_drewN | apply Kd.N_drew)); exact Da.out) B8 (Nat.le_of_eq hg.symm)) hb); replace D8 := am_ (Kd.R_below D8.out hb); replace By := am_ (Kd.N_below (Kd.N_elderB (by (with_reducible repeat (first | apply Kd.N_alloc | apply Kd.N_drewN | apply Kd.N_drew)); exact By.out) B8 (Nat.le_of_eq hg.symm)) hb); replace Dr := am_ (Kd.R_below Dr.out hb); have B9 := am_ (hbox); have La := gwk_ HB hg; have E9 := La; replace HB := bst_ HB hb; have Dt := nbk_ Ba hg; have Fn := nbs_ Dt; replace Ba := bkb_ Ba hb; have Dd := nbk_ B1 hg; have Du := nbs_ Dd; replace B1 := bkb_ B1 hb; clear hb hbox hg; have Oe := Fn.out; have Of := Dt.out; have Og := Du.out; have Oh := Dd.out; have Lb := cells_4 B9.out; have Lc := frozen_4 B9.out) | ((with_reducible refine gate_store (t := 32) (p := 4) rfl ?_); refine store_event (t := 32) (p := 4) (v := ?vo_w35) (w1 := ((((w31.setCell ⟨B8, 0, none⟩ (.int .i64 Bm)).setCell ⟨B8, 1, none⟩ (.string Bj)).setCell ⟨B8, 2, none⟩ (.slice Be B2.length Bf)).setCell ⟨B8, 3, none⟩ (.slice D5 B0.length Bi))) ?hg ?ho ?hn ?hr ?_; (case ho => rfl); (case hg => rfl); (case hn => rfl); (case hr => first | (go_simp; done) | (go_simp; rfl)); intro w35 hw; have F8 : Aside0 (Kd.R (Kd.int .i64) 3 w35 w.heap.size (fun k_ => some k_ ≠ (.slice E3 y415.length E4 : Value).ownBlock) (.slice D3 Bg.length D4) Bg) := ⟨(by rw [hw]; exact (by (with_reducible repeat (first | apply Kd.R_alloc | apply Kd.R_drewN | apply Kd.R_drew)); exact Kd.R_mono (Kd.R_far (p := ⟨B8, 3, none⟩) (Kd.R_far (p := ⟨B8, 2, none⟩) (Kd.R_far (p := ⟨B8, 1, none⟩) (Kd.R_far (p := ⟨B8, 0, none⟩) (Kd.R_types Bn.out B9.out (by decide)) (fun _ hk => hk.2) (.int .i64 Bm)) (fun _ hk => hk.2) (.string Bj)) (fun _ hk => hk.2) (.slice Be B2.length Bf)) (fun _ hk => hk.2) (.slice D5 B0.length Bi)) (fun _ hk => hk.1)))⟩; have F9 : Aside0 (Kd.R (Kd.int .i64) 3 w35 w.heap.size (fun k_ => some k_ ≠ (.slice D3 Bg.length D4 : Value).ownBlock) (.slice E3 y415.length E4) y415) := ⟨(by rw [hw]; exact (by (with_reducible repeat (first | apply Kd.R_alloc | apply Kd.R_drewN | apply Kd.R_drew)); exact Kd.R_mono (Kd.R_far (p := ⟨B8, 3, none⟩) (Kd.R_far (p := ⟨B8, 2, none⟩) (Kd.R_far (p := ⟨B8, 1, none⟩) (Kd.R_far (p := ⟨B8, 0, none⟩) (Kd.R_types Bz.out B9.out (by decide)) (fun _ hk => hk.2) (.int .i64 Bm)) (fun _ hk => hk.2) (.string Bj)) (fun _ hk => hk.2) (.slice Be B2.length Bf)) (fun _ hk => hk.2) (.slice D5 B0.length Bi)) (fun _ hk => hk.1)))⟩; have Fa : Aside0 (Kd.R Kd.string 9 w35 w.heap.size (fun k_ => some k_ ≠ (.slice Be B2.length Bf : Value).ownBlock) (.slice E5 y418.length E6) y418) := ⟨(by rw [hw]; exact (by (with_reducible repeat (first | apply Kd.R_alloc | apply Kd.R_drewN | apply Kd.R_drew)); exact Kd.R_mono (Kd.R_far (p := ⟨B8, 3, none⟩) (Kd.R_far (p := ⟨B8, 2, none⟩) (Kd.R_far (p := ⟨B8, 1, none⟩) (Kd.R_far (p := ⟨B8, 0, none⟩) (Kd.R_types D0.out B9.out (by decide)) (fun _ hk => hk.2) (.int .i64 Bm)) (fun _ hk => hk.2) (.string Bj)) (fun _ hk => hk.2) (.slice Be B2.length Bf)) (fun _ hk => hk.2) (.slice D5 B0.length Bi)) (fun _ hk => hk.1)))⟩; have Ft : Aside0 (Kd.N (Kd.slice 45 k45) 42 w35 w.heap.size (fun k_ => some k_ ≠ (.slice D3 Bg.length D4 : Value).ownBlock ∧ some k_ ≠ (.slice E3 y415.length E4 : Value).ownBlock ∧ some k_ ≠ (.slice E5 y418.length E6 : Value).ownBlock ∧ some k_ ≠ (.slice Be B2.length Bf : Value).ownBlock ∧ some k_ ≠ (.slice D5 B0.length Bi : Value).ownBlock ∧ some k_ ≠ (v437 : Value).ownBlock ∧ k_ ≠ B5 ∧ k_ ≠ B7 ∧ k_ ≠ B8) (.slice F3 y424.length F4) y424) := ⟨(by rw [hw]; exact (by (with_reducible repeat (first | apply Kd.N_alloc | apply Kd.N_drewN | apply Kd.N_drew)); exact Kd.N_mono (Kd.N_far (p := ⟨B8, 3, none⟩) (Kd.N_far (p := ⟨B8, 2, none⟩) (Kd.N_far (p := ⟨B8, 1, none⟩) (Kd.N_far (p := ⟨B8, 0, none⟩) (Kd.N_mono Da.out (fun k_ hk => (⟨hk, hk.2⟩ : _ ∧ k_ ≠ B8))) (fun _ hk => hk.2) (.int .i64 Bm)) (fun _ hk => hk.2) (.string Bj)) (fun _ hk => hk.2) (.slice Be B2.length Bf)) (fun _ hk => hk.2) (.slice D5 B0.length Bi)) (fun _ hk => ⟨hk.1.1.1.1, ⟨hk.1.1.1.2.1, ⟨hk.1.1.1.2.2.1, ⟨hk.1.1.1.2.2.2.1, ⟨hk.1.1.1.2.2.2.2.1, ⟨hk.1.1.2, ⟨hk.1.1.1.2.2.2.2.2.1, ⟨hk.1.1.1.2.2.2.2.2.2, hk.1.2⟩⟩⟩⟩⟩⟩⟩⟩)))⟩; have Fu : Aside0 (Kd.R Kd.string 9 w35 w.heap.size (fun k_ => some k_ ≠ (.slice E5 y418.length E6 : Value).ownBlock) (.slice Be B2.length Bf) B2) := ⟨(by rw [hw]; exact (by (with_reducible repeat (first | apply Kd.R_alloc | apply Kd.R_drewN | apply Kd.R_drew)); exact Kd.R_mono (Kd.R_far (p := ⟨B8, 3, none⟩) (Kd.R_far (p := ⟨B8, 2, none⟩) (Kd.R_far (p := ⟨B8, 1, none⟩) (Kd.R_far (p := ⟨B8, 0, none⟩) (Kd.R_types D8.out B9.out (by decide)) (fun _ hk => hk.2) (.int .i64 Bm)) (fun _ hk => hk.2) (.string Bj)) (fun _ hk => hk.2) (.slice Be B2.length Bf)) (fun _ hk => hk.2) (.slice D5 B0.length Bi)) (fun _ hk => hk.1)))⟩; have Fv : Aside0 (Kd.N (Kd.slice 45 k45) 42 w35 w.heap.size (fun k_ => some k_ ≠ (.slice D3 Bg.length D4 : Value).ownBlock ∧ some k_ ≠ (.slice E3 y415.length E4 : Value).ownBlock ∧ some k_ ≠ (.slice E5 y418.length E6 : Value).ownBlock ∧ some k_ ≠ (.slice F3 y424.length F4 : Value).ownBlock ∧ some k_ ≠ (.slice Be B2.length Bf : Value).ownBlock ∧ some k_ ≠ (v437 : Value).ownBlock ∧ k_ ≠ B5 ∧ k_ ≠ B7 ∧ k_ ≠ B8) (.slice D5 B0.length Bi) B0) := ⟨(by rw [hw]; exact (by (with_reducible repeat (first | apply Kd.N_alloc | apply Kd.N_drewN | apply Kd.N_drew)); exact Kd.N_mono (Kd.N_far (p := ⟨B8, 3, none⟩) (Kd.N_far (p := ⟨B8, 2, none⟩) (Kd.N_far (p := ⟨B8, 1, none⟩) (Kd.N_far (p := ⟨B8, 0, none⟩) (Kd.N_mono By.out (fun k_ hk => (⟨hk, hk.2⟩ : _ ∧ k_ ≠ B8))) (fun _ hk => hk.2) (.int .i64 Bm)) (fun _ hk => hk.2) (.string Bj)) (fun _ hk => hk.2) (.slice Be B2.length Bf)) (fun _ hk => hk.2) (.slice D5 B0.length Bi)) (fun _ hk => ⟨hk.1.1.1.1, ⟨hk.1.1.1.2.1, ⟨hk.1.1.1.2.2.1, ⟨hk.1.1.1.2.2.2.1, ⟨hk.1.1.1.2.2.2.2.1, ⟨hk.1.1.2, ⟨hk.1.1.1.2.2.2.2.2.1, ⟨hk.1.1.1.2.2.2.2.2.2, hk.1.2⟩⟩⟩⟩⟩⟩⟩⟩)))⟩; have Fw : Aside0 (Kd.R k45 45 w35 w.heap.size (fun _ => True) v437 D9) := ⟨(by rw [hw]; exact (by (with_reducible repeat (first | apply Kd.R_alloc | apply Kd.R_drewN | apply Kd.R_drew)); exact Kd.R_mono (Kd.R_far (p := ⟨B8, 3, none⟩) (Kd.R_far (p := ⟨B8, 2, none⟩) (Kd.R_far (p := ⟨B8, 1, none⟩) (Kd.R_far (p := ⟨B8, 0, none⟩) (Kd.R_types Dr.out B9.out (by decide)) (fun _ hk => hk.2) (.int .i64 Bm)) (fun _ hk => hk.2) (.string Bj)) (fun _ hk => hk.2) (.slice Be B2.length Bf)) (fun _ hk => hk.2) (.slice D5 B0.length Bi)) (fun _ hk => trivial)))⟩; have Fx : Aside0 (w35.heap[B5]? = some (.cells #[.int .i64 Bo, .int .i64 Bp, .int .i64 Bq, .int .i64 Br, .int .i64 Bs, .int .i64 Bt, .int .i64 Bu, .int .i64 Bv, .int .i64 Bw, .int .i64 Bx, .slice D3 Bg.length D4] 24 (0, 0))) := ⟨(by rw [hw]; exact (by (iterate 4 ((with_reducible repeat (first | apply kn_ | apply kd_ | apply ka_)); refine blk_far ?_ Dt.out _)); (with_reducible repeat (first | apply kn_ | apply kd_ | apply ka_)); exact Ba.out))⟩; have Fy : Aside0 (w35.heap[B7]? = some (.cells #[.int .i64 Bm, .string Bj, .slice Be B2.length Bf, .slice D5 B0.length Bi] 32 (0, 0))) := ⟨(by rw [hw]; exact (by (iterate 4 ((with_reducible repeat (first | apply kn_ | apply kd_ | apply ka_)); refine blk_far ?_ Dd.out _)); (with_reducible repeat (first | apply kn_ | apply kd_ | apply ka_)); exact B1.out))⟩; have Jd : Aside0 (w35.heap[B8]? = some (.cells #[.int .i64 Bm, .string Bj, .slice Be B2.length Bf, .slice D5 B0.length Bi] 32 (0, 0))) := ⟨(by rw [hw]; exact (by (with_reducible repeat (first | apply kn_ | apply kd_ | apply ka_)); refine blk_put (cs := #[.int .i64 Bm, .string Bj, .slice Be B2.length Bf, .slice none 0 0]) ?_ 3 _ rfl; (with_reducible repeat (first | apply kn_ | apply kd_ | apply ka_)); refine blk_put (cs := #[.int .i64 Bm, .string Bj, .slice none 0 0, .slice none 0 0]) ?_ 2 _ rfl; (with_reducible repeat (first | apply kn_ | apply kd_ | apply ka_)); refine blk_put (cs := #[.int .i64 Bm, .string (⟨#[]⟩ : ByteArray), .slice none 0 0, .slice none 0 0]) ?_ 1 _ rfl; (with_reducible repeat (first | apply kn_ | apply kd_ | apply ka_)); refine blk_put (cs := #[.int .i64 0, .string (⟨#[]⟩ : ByteArray), .slice none 0 0, .slice none 0 0]) ?_ 0 _ rfl; (with_reducible repeat (first | apply kn_ | apply kd_ | apply ka_)); exact B9.out))⟩; have F1 : Aside0 (Below w.heap.size w w35) := ⟨(by rw [hw]; exact (by repeat (first | (with_reducible first | exact HB.out | apply ba_ | apply bn_ | apply bd_ | refine bs_ ?_ Dp.out | refine bs_ ?_ Dw.out | refine bs_ ?_ E9.out) | exact HB.out)))⟩; clear hw; clear Bn; clear Bz; clear D0; clear Da; clear D8; clear By; clear Dr; clear Ba; clear B1; clear B9; clear HB; have Bn := F8; have Bz := F9; have D0 := Fa; have Da := Ft; have D8 := Fu; have By := Fv; have Dr := Fw; have Ba := Fx; have B1 := Fy; have B9 := Jd; have HB := F1; clear F8 F9 Fa Ft Fu Fv Fw Fx Fy Jd F1; have Ld := cells_4 B9.out; have Le := frozen_4 B9.out) | ((with_reducible refine gate_store (t := 3) (p := 18) rfl ?_); refine store_event (t := 3) (p := 18) (v := ?vo_w37) (w1 := (w35.setCell ⟨B8, 0, none⟩ (.int .i64 8))) ?hg ?ho ?hn ?hr ?_; (case ho => rfl); (case hg => rfl); (case hn => rfl); (case hr => first | (go_simp; done) | (go_simp; rfl)); intro w37 hw; have F8 : Aside0 (Kd.R (Kd.int .i64) 3 w37 w.heap.size (fun k_ => some k_ ≠ (.slice E3 y415.length E4 : Value).ownBlock) (.slice D3 Bg.length D4) Bg) := ⟨(by rw [hw]; exact (by (with_reducible repeat (first | apply Kd.R_alloc | apply Kd.R_drewN | apply Kd.R_drew)); exact Kd.R_mono (Kd.R_far (p := ⟨B8, 0, none⟩) (Kd.R_types Bn.out B9.out (by decide)) (fun _ hk => hk.2) (.int .i64 8)) (fun _ hk => hk.1)))⟩; have F9 : Aside0 (Kd.R (Kd.int .i64) 3 w37 w.heap.size (fun k_ => some k_ ≠ (.slice D3 Bg.length D4 : Value).ownBlock) (.slice E3 y415.length E4) y415) := ⟨(by rw [hw]; exact (by (with_reducible repeat (first | apply Kd.R_alloc | apply Kd.R_drewN | apply Kd.R_drew)); exact Kd.R_mono (Kd.R_far (p := ⟨B8, 0, none⟩) (Kd.R_types Bz.out B9.out (by decide)) (fun _ hk => hk.2) (.int .i64 8)) (fun _ hk => hk.1)))⟩; have Fa : Aside0 (Kd.R Kd.string 9 w37 w.heap.size (fun k_ => some k_ ≠ (.slice Be B2.length Bf : Value).ownBlock) (.slice E5 y418.length E6) y418) := ⟨(by rw [hw]; exact (by (with_reducible repeat (first | apply Kd.R_alloc | apply Kd.R_drewN | apply Kd.R_drew)); exact Kd.R_mono (Kd.R_far (p := ⟨B8, 0, none⟩) (Kd.R_types D0.out B9.out (by decide)) (fun _ hk => hk.2) (.int .i64 8)) (fun _ hk => hk.1)))⟩; have Ft : Aside0 (Kd.N (Kd.slice 45 k45) 42 w37 w.heap.size (fun k_ => some k_ ≠ (.slice D3 Bg.length D4 : Value).ownBlock ∧ some k_ ≠ (.slice E3 y415.length E4 : Value).ownBlock ∧ some k_ ≠ (.slice E5 y418.length E6 : Value).ownBlock ∧ some k_ ≠ (.slice Be B2.length Bf : Value).ownBlock ∧ some k_ ≠ (.slice D5 B0.length Bi : Value).ownBlock ∧ some k_ ≠ (v437 : Value).ownBlock ∧ k_ ≠ B5 ∧ k_ ≠ B7 ∧ k_ ≠ B8) (.slice F3 y424.length F4) y424) := ⟨(by rw [hw]; exact (by (with_reducible repeat (first | apply Kd.N_alloc | apply Kd.N_drewN | apply Kd.N_drew)); exact Kd.N_mono (Kd.N_far (p := ⟨B8, 0, none⟩) (Kd.N_mono Da.out (fun k_ hk => (⟨hk, hk.2.2.2.2.2.2.2.2⟩ : _ ∧ k_ ≠ B8))) (fun _ hk => hk.2) (.int .i64 8)) (fun _ hk => ⟨hk.1.1, ⟨hk.1.2.1, ⟨hk.1.2.2.1, ⟨hk.1.2.2.2.1, ⟨hk.1.2.2.2.2.1, ⟨hk.1.2.2.2.2.2.1, ⟨hk.1.2.2.2.2.2.2.1, ⟨hk.1.2.2.2.2.2.2.2.1, hk.1.2.2.2.2.2.2.2.2⟩⟩⟩⟩⟩⟩⟩⟩)))⟩; have Fu : Aside0 (Kd.R Kd.string 9 w37 w.heap.size (fun k_ => some k_ ≠ (.slice E5 y418.length E6 : Value).ownBlock) (.slice Be B2.length Bf) B2) := ⟨(by rw [hw]; exact (by (with_reducible repeat (first | apply Kd.R_alloc | apply Kd.R_drewN | apply Kd.R_drew)); exact Kd.R_mono (Kd.R_far (p := ⟨B8, 0, none⟩) (Kd.R_types D8.out B9.out (by decide)) (fun _ hk => hk.2) (.int .i64 8)) (fun _ hk => hk.1)))⟩; have Fv : Aside0 (Kd.N (Kd.slice 45 k45) 42 w37 w.heap.size (fun k_ => some k_ ≠ (.slice D3 Bg.length D4 : Value).ownBlock ∧ some k_ ≠ (.slice E3 y415.length E4 : Value).ownBlock ∧ some k_ ≠ (.slice E5 y418.length E6 : Value).ownBlock ∧ some k_ ≠ (.slice F3 y424.length F4 : Value).ownBlock ∧ some k_ ≠ (.slice Be B2.length Bf : Value).ownBlock ∧ some k_ ≠ (v437 : Value).ownBlock ∧ k_ ≠ B5 ∧ k_ ≠ B7 ∧ k_ ≠ B8) (.slice D5 B0.length Bi) B0) := ⟨(by rw [hw]; exact (by (with_reducible repeat (first | apply Kd.N_alloc | apply Kd.N_drewN | apply Kd.N_drew)); exact Kd.N_mono (Kd.N_far (p := ⟨B8, 0, none⟩) (Kd.N_mono By.out (fun k_ hk => (⟨hk, hk.2.2.2.2.2.2.2.2⟩ : _ ∧ k_ ≠ B8))) (fun _ hk => hk.2) (.int .i64 8)) (fun _ hk => ⟨hk.1.1, ⟨hk.1.2.1, ⟨hk.1.2.2.1, ⟨hk.1.2.2.2.1, ⟨hk.1.2.2.2.2.1, ⟨hk.1.2.2.2.2.2.1, ⟨hk.1.2.2.2.2.2.2.1, ⟨hk.1.2.2.2.2.2.2.2.1, hk.1.2.2.2.2.2.2.2.2⟩⟩⟩⟩⟩⟩⟩⟩)))⟩; have Fw : Aside0 (Kd.R k45 45 w37 w.heap.size (fun _ => True) v437 D9) := ⟨(by rw [hw]; exact (by (with_reducible repeat (first | apply Kd.R_alloc | apply Kd.R_drewN | apply Kd.R_drew)); exact Kd.R_mono (Kd.R_far (p := ⟨B8, 0, none⟩) (Kd.R_types Dr.out B9.out (by decide)) (fun _ hk => hk.2) (.int .i64 8)) (fun _ hk => trivial)))⟩; have Fx : Aside0 (w37.heap[B5]? = some (.cells #[.int .i64 Bo, .int .i64 Bp, .int .i64 Bq, .int .i64 Br, .int .i64 Bs, .int .i64 Bt, .int .i64 Bu, .int .i64 Bv, .int .i64 Bw, .int .i64 Bx, .slice D3 Bg.length D4] 24 (0, 0))) := ⟨(by rw [hw]; exact (by (with_reducible repeat (first | apply kn_ | apply kd_ | apply ka_)); refine blk_far ?_ Dt.out _; (with_reducible repeat (first | apply kn_ | apply kd_ | apply ka_)); exact Ba.out))⟩; have Fy : Aside0 (w37.heap[B7]? = some (.cells #[.int .i64 Bm, .string Bj, .slice Be B2.length Bf, .slice D5 B0.length Bi] 32 (0, 0))) := ⟨(by rw [hw]; exact (by (with_reducible repeat (first | apply kn_ | apply kd_ | apply ka_)); refine blk_far ?_ Dd.out _; (with_reducible repeat (first | apply kn_ | apply kd_ | apply ka_)); exact B1.out))⟩; have Jd : Aside0 (w37.heap[B8]? = some (.cells #[.int .i64 8, .string Bj, .slice Be B2.length Bf, .slice D5 B0.length Bi] 32 (0, 0))) := ⟨(by rw [hw]; exact (by (with_reducible repeat (first | apply kn_ | apply kd_ | apply ka_)); refine blk_put (cs := #[.int .i64 Bm, .string Bj, .slice Be B2.length Bf, .slice D5 B0.length Bi]) ?_ 0 _ rfl; (with_reducible repeat (first | apply kn_ | apply kd_ | apply ka_)); exact B9.out))⟩; have F1 : Aside0 (Below w.heap.size w w37) := ⟨(by rw [hw]; exact (by repeat (first | (with_reducible first | exact HB.out | apply ba_ | apply bn_ | apply bd_ | refine bs_ ?_ Dp.out | refine bs_ ?_ Dw.out | refine bs_ ?_ E9.out) | exact HB.out)))⟩; clear hw; clear Bn; clear Bz; clear D0; clear Da; clear D8; clear By; clear Dr; clear Ba; clear B1; clear B9; clear HB; have Bn := F8; have Bz := F9; have D0 := Fa; have Da := Ft; have D8 := Fu; have By := Fv; have Dr := Fw; have Ba := Fx; have B1 := Fy; have B9 := Jd; have HB := F1; clear F8 F9 Fa Ft Fu Fv Fw Fx Fy Jd F1))
 (try simp only [Act.put, zs_])
 go_cut [40] (fun v40 wc => ∃ (kq : Nat) (Fc : Bool), v40 = .bool Fc ∧ Aside0 (l38_known.j0 kq D9 Fc Bo Bp Bq Br Bs Bt Bu Bv Bw Bx Bg Bm Bj B2 B0 8 Bj B2 B0 = some r) ∧ Aside0 (kq ≤ k) ∧ Aside0 (Kd.R k45 45 wc w.heap.size (fun _ => True) v437 D9) ∧ Aside0 (Kd.R (Kd.int .i64) 3 wc w.heap.size (fun _ => True) (.slice D3 Bg.length D4) Bg) ∧ Aside0 (Kd.R Kd.string 9 wc w.heap.size (fun _ => True) (.slice Be B2.length Bf) B2) ∧ Aside0 (Kd.N (Kd.slice 45 k45) 42 wc w.heap.size (fun k_ => some k_ ≠ (v437 : Value).ownBlock ∧ some k_ ≠ ((.slice D3 Bg.length D4) : Value).ownBlock ∧ some k_ ≠ ((.slice Be B2.length Bf) : Value).ownBlock ∧ some k_ ≠ ((.slice Be B2.length Bf) : Value).ownBlock ∧ k_ ≠ B5 ∧ k_ ≠ B7 ∧ k_ ≠ B8) (.slice D5 B0.length Bi) B0) ∧ Aside0 (Kd.R Kd.string 9 wc w.heap.size (fun _ => True) (.slice Be B2.length Bf) B2) ∧ Aside0 (Kd.N (Kd.slice 45 k45) 42 wc w.heap.size (fun k_ => some k_ ≠ (v437 : Value).ownBlock ∧ some k_ ≠ ((.slice D3 Bg.length D4) : Value).ownBlock ∧ some k_ ≠ ((.slice Be B2.length Bf) : Value).ownBlock ∧ some k_ ≠ ((.slice Be B2.length Bf) : Value).ownBlock ∧ k_ ≠ B5 ∧ k_ ≠ B7 ∧ k_ ≠ B8) (.slice D5 B0.length Bi) B0) ∧ Aside0 (wc.heap[B5]? = some (.cells #[.int .i64 Bo, .int .i64 Bp, .int .i64 Bq, .int .i64 Br, .int .i64 Bs, .int .i64 Bt, .int .i64 Bu, .int .i64 Bv, .int .i64 Bw, .int .i64 Bx, (.slice D3 Bg.length D4)] 24 (0, 0))) ∧ Aside0 (wc.heap[B7]? = some (.cells #[.int .i64 Bm, .string Bj, (.slice Be B2.length Bf), (.slice D5 B0.length Bi)] 32 (0, 0))) ∧ Aside0 (wc.heap[B8]? = some (.cells #[.int .i64 8, .string Bj, (.slice Be B2.length Bf), (.slice D5 B0.length Bi)] 32 (0, 0))) ∧ Aside0 (Below w.heap.size w wc))
 case first =>
  have H := Mp.out
  clear Mp
  by_cases Je : (B0.length : Int) = 4
  ·rw [if_pos Je] at H
   have Ep : ((B0.length : Int) == 4) = true := beq_iff_eq.mpr Je
   have Jf : ((B0.length : Int) != 4) = false := bne_eq_false_iff_eq.mpr Je
   clear Je
   (first | rw [Ep] | (simp only [i64_w, i32_w]; rw [Ep]) | skip)
   by_cases Lf : 0 < (B0.length : Int)
   ·rw [if_pos Lf] at H
    have Lg : decide (0 < (B0.length : Int)) = true := decide_eq_true Lf
    have Lh : decide (0 < B0.length) = true := decide_eq_true (by omega)
    clear Lf
    by_cases Jg : ((rd_L3 B0 0).length : Int) = 4
    ·rw [if_pos Jg] at H
     have Jh : (((rd_L3 B0 0).length : Int) == 4) = true := beq_iff_eq.mpr Jg
     have Ji : (((rd_L3 B0 0).length : Int) != 4) = false := bne_eq_false_iff_eq.mpr Jg
     clear Jg
     by_cases Li : 3 < ((rd_L3 B0 0).length : Int)
     ·rw [if_pos Li] at H
      have Lj : decide (3 < ((rd_L3 B0 0).length : Int)) = true := decide_eq_true Li
      have Lk : decide (3 < (rd_L3 B0 0).length) = true := decide_eq_true (by omega)
      clear Li
      have H' := am_ H
      clear H
      have Oi := Ds.out
      have Oj := Dg.out
      have Ok := Dd.out
      have Ol := Du.out
      have G7 : w37.cell? ⟨B7, 0, none⟩ = some (.int .i64 Bm) := (blk_cell B1.out 0).trans rfl
      have G8 : w37.cell? ⟨B7, 1, none⟩ = some (.string Bj) := (blk_cell B1.out 1).trans rfl
      have G9 : w37.cell? ⟨B7, 2, none⟩ = some (.slice Be B2.length Bf) := (blk_cell B1.out 2).trans rfl
      have Ga : w37.cell? ⟨B7, 3, none⟩ = some (.slice D5 B0.length Bi) := (blk_cell B1.out 3).trans rfl
      have Gb := blk_frozen B1.out 0
      have Gc := blk_frozen B1.out 1
      have Gd := blk_frozen B1.out 2
      have Ge := blk_frozen B1.out 3
      have En : 0 ≤ (0 : Int) := (by omega)
      have Eo : 0 < (B0.length : Int) := of_decide_eq_true (by first | (with_reducible assumption) | assumption)
      obtain ⟨Jj, Jn, Jo, Jp, De, Dx, Dy⟩ := at_L3 (Kd.N_reads' By.out).2.2 0 En Eo
      cases Jp
      obtain ⟨Ll, F6, F7, Ei⟩ := Kd.N_get By.out [] 0 En (by first | exact Eo | exact of_decide_eq_true (by first | (with_reducible assumption) | assumption) | (have e_ := (Kd.N_reads' By.out).1; omega))
      obtain ⟨Gf, Gg, rfl, Dj, Dk⟩ := Kd.FK_slice_open F7
      have Df := Ei 0 _ rfl
      rw [Nat.add_zero, show ((Kd.slice 45 k45)).sz = 1 from rfl, Nat.mul_one] at Df
      replace Df := Option.some.inj (Df.symm.trans De)
      injection Df with hva_ hvn_ hvc_
      rw [hva_] at Dk
      rw [hvc_] at Dj
      have Gh := am_ (show Kd.V k45 45 _ w.heap.size _ _ (rd_L3 B0 0) from Kd.V_mk Dj Dk)
      clear hva_ hvn_ hvc_ Dk Dj
      clear Ei F6
      have Lm : (0 < B0.length) = True := eq_true (by omega)
      (try rw [show ((0 : Int)).toNat = 0 from rfl] at De)
      (try rw [Addr.add_zero'] at De)
      have Gi := am_ Dy
      have Gj := am_ Dx
      clear Dy Dx
      replace En := eq_true En
      replace Eo := eq_true Eo
      have Fz : 0 ≤ (0 : Int) := (by omega)
      have G0 : 0 < (B0.length : Int) := of_decide_eq_true (by first | (with_reducible assumption) | assumption)
      obtain ⟨Ln, O0, O1, O2, Dz, Fd, Fe⟩ := at_L3 (Kd.N_reads' By.out).2.2 0 Fz G0
      obtain rfl : Jj = Ln := (by injection O2)
      obtain ⟨Om, Jq, Jr, G1⟩ := Kd.N_get By.out [] 0 Fz (by first | exact G0 | exact of_decide_eq_true (by first | (with_reducible assumption) | assumption) | (have e_ := (Kd.N_reads' By.out).1; omega))
      obtain ⟨Ma, Mb, rfl, Eq, Er⟩ := Kd.FK_slice_open Jr
      have Eb := G1 0 _ rfl
      rw [Nat.add_zero, show ((Kd.slice 45 k45)).sz = 1 from rfl, Nat.mul_one] at Eb
      replace Eb := Option.some.inj (Eb.symm.trans Dz)
      injection Eb with hva_ hvn_ hvc_
      rw [hva_] at Er
      rw [hvc_] at Eq
      have Mc := am_ (show Kd.V k45 45 _ w.heap.size _ _ (rd_L3 B0 0) from Kd.V_mk Eq Er)
      clear hva_ hvn_ hvc_ Er Eq
      clear G1 Jq
      have On : (0 < B0.length) = True := eq_true (by omega)
      (try rw [show ((0 : Int)).toNat = 0 from rfl] at Dz)
      (try rw [Addr.add_zero'] at Dz)
      have Ff := am_ Fe
      have Md := am_ Fd
      clear Fe Fd
      replace Fz := eq_true Fz
      replace G0 := eq_true G0
      have ea_ := Option.some.inj (De.symm.trans Dz)
      injection ea_ with ea_ en_ ec_
      subst ea_
      subst ec_
      clear en_
      have Gk : 0 ≤ (3 : Int) := (by omega)
      have Gl : 3 < ((rd_L3 B0 0).length : Int) := of_decide_eq_true (by first | (with_reducible assumption) | assumption)
      obtain ⟨Oo, O3, Ec, Ed, Ee, Ef⟩ := at_T45 (by repeat (first | (with_reducible exact Ff.out) | (with_reducible refine Kd.C_alloc ?_ _) | (with_reducible refine Kd.C_drewN ?_ _) | (with_reducible refine Kd.C_drew ?_) | exact Ff.out)) 3 Gk Gl
      cases O3
      (try simp only [show (3 : Int).toNat = 3 from rfl, Nat.reduceMul, Nat.reduceEqDiff, Go.Addr.add, ↓reduceIte] at Ec)
      (try simp only [show (3 : Int).toNat = 3 from rfl, Nat.reduceMul, Nat.reduceEqDiff, Go.Addr.add, ↓reduceIte] at Ed)
      (try simp only [show (3 : Int).toNat = 3 from rfl, Nat.reduceMul, Nat.reduceEqDiff, Go.Addr.add, ↓reduceIte] at Ee)
      (try simp only [show (3 : Int).toNat = 3 from rfl, Nat.reduceMul, Nat.reduceEqDiff, Go.Addr.add, ↓reduceIte] at Ef)
      have Op : (3 < (rd_L3 B0 0).length) = True := eq_true (by omega)
      (try rw [show ((3 : Int)).toNat = 3 from rfl] at Ec)
      (try rw [show 3 * 4 = 12 from rfl] at Ec)
      (try rw [show ((3 : Int)).toNat = 3 from rfl] at Ed)
      (try rw [show 3 * 4 = 12 from rfl] at Ed)
      (try rw [show ((3 : Int)).toNat = 3 from rfl] at Ee)
      (try rw [show 3 * 4 = 12 from rfl] at Ee)
      (try rw [show ((3 : Int)).toNat = 3 from rfl] at Ef)
      (try rw [show 3 * 4 = 12 from rfl] at Ef)
      replace Gk := eq_true Gk
      replace Gl := eq_true Gl
      go_wp2
      go_meet
      case rel => exact ⟨_, ((!(((rd_T45 (rd_L3 B0 0) 3).f0) == 3) || (!(((rd_T45 (rd_L3 B0 0) 3).f1) == 3) || (!(((rd_T45 (rd_L3 B0 0) 3).f2) == 7) || (!((((rd_T45 (rd_L3 B0 0) 3).f3).toList) == ([108, 105, 101] : List UInt8))))))), (by first | rfl | (simp; done) | (simp [*]; done)), H', ⟨by first | omega | exact Nat.le_refl _⟩, ⟨by (with_reducible repeat (first | apply Kd.R_alloc | apply Kd.R_drewN | apply Kd.R_drew)); exact Dr.out⟩, ⟨by (with_reducible repeat (first | apply Kd.R_alloc | apply Kd.R_drewN | apply Kd.R_drew)); exact Kd.R_mono Bn.out (fun _ hk => trivial)⟩, ⟨by (with_reducible repeat (first | apply Kd.R_alloc | apply Kd.R_drewN | apply Kd.R_drew)); exact Kd.R_mono D8.out (fun _ hk => trivial)⟩, ⟨by (with_reducible repeat (first | apply Kd.N_alloc | apply Kd.N_drewN | apply Kd.N_drew)); exact Kd.N_mono By.out (fun _ hk => ⟨hk.2.2.2.2.2.1, ⟨hk.1, ⟨hk.2.2.2.2.1, ⟨hk.2.2.2.2.1, ⟨hk.2.2.2.2.2.2.1, ⟨hk.2.2.2.2.2.2.2.1, hk.2.2.2.2.2.2.2.2⟩⟩⟩⟩⟩⟩)⟩, ⟨by (with_reducible repeat (first | apply Kd.R_alloc | apply Kd.R_drewN | apply Kd.R_drew)); exact Kd.R_mono D8.out (fun _ hk => trivial)⟩, ⟨by (with_reducible repeat (first | apply Kd.N_alloc | apply Kd.N_drewN | apply Kd.N_drew)); exact Kd.N_mono By.out (fun _ hk => ⟨hk.2.2.2.2.2.1, ⟨hk.1, ⟨hk.2.2.2.2.1, ⟨hk.2.2.2.2.1, ⟨hk.2.2.2.2.2.2.1, ⟨hk.2.2.2.2.2.2.2.1, hk.2.2.2.2.2.2.2.2⟩⟩⟩⟩⟩⟩)⟩, ⟨by (with_reducible repeat (first | apply kn_ | apply kd_ | apply ka_)); exact Ba.out⟩, ⟨by (with_reducible repeat (first | apply kn_ | apply kd_ | apply ka_)); exact B1.out⟩, ⟨by (with_reducible repeat (first | apply kn_ | apply kd_ | apply ka_)); exact B9.out⟩, ⟨by repeat (first | (with_reducible first | exact HB.out | apply ba_ | apply bn_ | apply bd_ | refine bs_ ?_ Dp.out | refine bs_ ?_ Dw.out | refine bs_ ?_ E9.out) | exact HB.out)⟩⟩
     ·rw [if_neg Li] at H
      exact absurd H (by simp)
    ·rw [if_neg Jg] at H
     have Jh : (((rd_L3 B0 0).length : Int) == 4) = false := beq_eq_false_iff_ne.mpr Jg
     have Ji : (((rd_L3 B0 0).length : Int) != 4) = true := bne_iff_ne.mpr Jg
     have H' := am_ H
     clear H
     have Oq := Ds.out
     have Or := Dg.out
     have Os := Dd.out
     have Ot := Du.out
     have Gm : w37.cell? ⟨B7, 0, none⟩ = some (.int .i64 Bm) := (blk_cell B1.out 0).trans rfl
     have Gp : w37.cell? ⟨B7, 1, none⟩ = some (.string Bj) := (blk_cell B1.out 1).trans rfl
     have Gq : w37.cell? ⟨B7, 2, none⟩ = some (.slice Be B2.length Bf) := (blk_cell B1.out 2).trans rfl
     have Gr : w37.cell? ⟨B7, 3, none⟩ = some (.slice D5 B0.length Bi) := (blk_cell B1.out 3).trans rfl
     have Gs := blk_frozen B1.out 0
     have Gt := blk_frozen B1.out 1
     have Gu := blk_frozen B1.out 2
     have Gv := blk_frozen B1.out 3
     have En : 0 ≤ (0 : Int) := (by omega)
     have Eo : 0 < (B0.length : Int) := of_decide_eq_true (by first | (with_reducible assumption) | assumption)
     obtain ⟨Jj, Jn, Jo, Jp, De, Dx, Dy⟩ := at_L3 (Kd.N_reads' By.out).2.2 0 En Eo
     cases Jp
     obtain ⟨Ll, F6, F7, Ei⟩ := Kd.N_get By.out [] 0 En (by first | exact Eo | exact of_decide_eq_true (by first | (with_reducible assumption) | assumption) | (have e_ := (Kd.N_reads' By.out).1; omega))
     obtain ⟨Gf, Gg, rfl, Dj, Dk⟩ := Kd.FK_slice_open F7
     have Df := Ei 0 _ rfl
     rw [Nat.add_zero, show ((Kd.slice 45 k45)).sz = 1 from rfl, Nat.mul_one] at Df
     replace Df := Option.some.inj (Df.symm.trans De)
     injection Df with hva_ hvn_ hvc_
     rw [hva_] at Dk
     rw [hvc_] at Dj
     have Gh := am_ (show Kd.V k45 45 _ w.heap.size _ _ (rd_L3 B0 0) from Kd.V_mk Dj Dk)
     clear hva_ hvn_ hvc_ Dk Dj
     clear Ei F6
     have Lm : (0 < B0.length) = True := eq_true (by omega)
     (try rw [show ((0 : Int)).toNat = 0 from rfl] at De)
     (try rw [Addr.add_zero'] at De)
     have Gi := am_ Dy
     have Gj := am_ Dx
     clear Dy Dx
     replace En := eq_true En
     replace Eo := eq_true Eo
     go_wp2
     go_meet
     case rel => exact ⟨_, (true), (by first | rfl | (simp; done) | (simp [*]; done)), H', ⟨by first | omega | exact Nat.le_refl _⟩, ⟨by (with_reducible repeat (first | apply Kd.R_alloc | apply Kd.R_drewN | apply Kd.R_drew)); exact Dr.out⟩, ⟨by (with_reducible repeat (first | apply Kd.R_alloc | apply Kd.R_drewN | apply Kd.R_drew)); exact Kd.R_mono Bn.out (fun _ hk => trivial)⟩, ⟨by (with_reducible repeat (first | apply Kd.R_alloc | apply Kd.R_drewN | apply Kd.R_drew)); exact Kd.R_mono D8.out (fun _ hk => trivial)⟩, ⟨by (with_reducible repeat (first | apply Kd.N_alloc | apply Kd.N_drewN | apply Kd.N_drew)); exact Kd.N_mono By.out (fun _ hk => ⟨hk.2.2.2.2.2.1, ⟨hk.1, ⟨hk.2.2.2.2.1, ⟨hk.2.2.2.2.1, ⟨hk.2.2.2.2.2.2.1, ⟨hk.2.2.2.2.2.2.2.1, hk.2.2.2.2.2.2.2.2⟩⟩⟩⟩⟩⟩)⟩, ⟨by (with_reducible repeat (first | apply Kd.R_alloc | apply Kd.R_drewN | apply Kd.R_drew)); exact Kd.R_mono D8.out (fun _ hk => trivial)⟩, ⟨by (with_reducible repeat (first | apply Kd.N_alloc | apply Kd.N_drewN | apply Kd.N_drew)); exact Kd.N_mono By.out (fun _ hk => ⟨hk.2.2.2.2.2.1, ⟨hk.1, ⟨hk.2.2.2.2.1, ⟨hk.2.2.2.2.1, ⟨hk.2.2.2.2.2.2.1, ⟨hk.2.2.2.2.2.2.2.1, hk.2.2.2.2.2.2.2.2⟩⟩⟩⟩⟩⟩)⟩, ⟨by (with_reducible repeat (first | apply kn_ | apply kd_ | apply ka_)); exact Ba.out⟩, ⟨by (with_reducible repeat (first | apply kn_ | apply kd_ | apply ka_)); exact B1.out⟩, ⟨by (with_reducible repeat (first | apply kn_ | apply kd_ | apply ka_)); exact B9.out⟩, ⟨by repeat (first | (with_reducible first | exact HB.out | apply ba_ | apply bn_ | apply bd_ | refine bs_ ?_ Dp.out | refine bs_ ?_ Dw.out | refine bs_ ?_ E9.out) | exact HB.out)⟩⟩
   ·rw [if_neg Lf] at H
    exact absurd H (by simp)
  ·rw [if_neg Je] at H
   have Ep : ((B0.length : Int) == 4) = false := beq_eq_false_iff_ne.mpr Je
   have Jf : ((B0.length : Int) != 4) = true := bne_iff_ne.mpr Je
   (first | rw [Ep] | (simp only [i64_w, i32_w]; rw [Ep]) | skip)
   have H' := am_ H
   clear H
   have Ou := Ds.out
   have Ov := Dg.out
   have Ow := Dd.out
   have Ox := Du.out
   have Gw : w37.cell? ⟨B7, 0, none⟩ = some (.int .i64 Bm) := (blk_cell B1.out 0).trans rfl
   have Gx : w37.cell? ⟨B7, 1, none⟩ = some (.string Bj) := (blk_cell B1.out 1).trans rfl
   have Gy : w37.cell? ⟨B7, 2, none⟩ = some (.slice Be B2.length Bf) := (blk_cell B1.out 2).trans rfl
   have Gz : w37.cell? ⟨B7, 3, none⟩ = some (.slice D5 B0.length Bi) := (blk_cell B1.out 3).trans rfl
   have J0 := blk_frozen B1.out 0
   have J1 := blk_frozen B1.out 1
   have J2 := blk_frozen B1.out 2
   have J3 := blk_frozen B1.out 3
   go_wp2
   go_meet
   case rel => exact ⟨_, (true), (by first | rfl | (simp; done) | (simp [*]; done)), H', ⟨by first | omega | exact Nat.le_refl _⟩, ⟨by (with_reducible repeat (first | apply Kd.R_alloc | apply Kd.R_drewN | apply Kd.R_drew)); exact Dr.out⟩, ⟨by (with_reducible repeat (first | apply Kd.R_alloc | apply Kd.R_drewN | apply Kd.R_drew)); exact Kd.R_mono Bn.out (fun _ hk => trivial)⟩, ⟨by (with_reducible repeat (first | apply Kd.R_alloc | apply Kd.R_drewN | apply Kd.R_drew)); exact Kd.R_mono D8.out (fun _ hk => trivial)⟩, ⟨by (with_reducible repeat (first | apply Kd.N_alloc | apply Kd.N_drewN | apply Kd.N_drew)); exact Kd.N_mono By.out (fun _ hk => ⟨hk.2.2.2.2.2.1, ⟨hk.1, ⟨hk.2.2.2.2.1, ⟨hk.2.2.2.2.1, ⟨hk.2.2.2.2.2.2.1, ⟨hk.2.2.2.2.2.2.2.1, hk.2.2.2.2.2.2.2.2⟩⟩⟩⟩⟩⟩)⟩, ⟨by (with_reducible repeat (first | apply Kd.R_alloc | apply Kd.R_drewN | apply Kd.R_drew)); exact Kd.R_mono D8.out (fun _ hk => trivial)⟩, ⟨by (with_reducible repeat (first | apply Kd.N_alloc | apply Kd.N_drewN | apply Kd.N_drew)); exact Kd.N_mono By.out (fun _ hk => ⟨hk.2.2.2.2.2.1, ⟨hk.1, ⟨hk.2.2.2.2.1, ⟨hk.2.2.2.2.1, ⟨hk.2.2.2.2.2.2.1, ⟨hk.2.2.2.2.2.2.2.1, hk.2.2.2.2.2.2.2.2⟩⟩⟩⟩⟩⟩)⟩, ⟨by (with_reducible repeat (first | apply kn_ | apply kd_ | apply ka_)); exact Ba.out⟩, ⟨by (with_reducible repeat (first | apply kn_ | apply kd_ | apply ka_)); exact B1.out⟩, ⟨by (with_reducible repeat (first | apply kn_ | apply kd_ | apply ka_)); exact B9.out⟩, ⟨by repeat (first | (with_reducible first | exact HB.out | apply ba_ | apply bn_ | apply bd_ | refine bs_ ?_ Dp.out | refine bs_ ?_ Dw.out | refine bs_ ?_ E9.out) | exact HB.out)⟩⟩
 case rest =>
  clear Mp
  try clear c1
  try clear c2
  try clear p2
  try clear c3
  try clear c4
  try clear p4
  try clear q4
  try clear hx4
  try clear qi4
  try clear c8
  try clear c9
  try clear c17
  try clear c23
  try clear c32
  try clear c33
  try clear Je
  try clear Ep
  try clear Jf
  try clear Lf
  try clear Lg
  try clear Lh
  try clear Jg
  try clear Jh
  try clear Ji
  try clear Li
  try clear Lj
  try clear Lk
  try clear c42
  try clear c43
  try clear c44
  try clear p44
  try clear q44
  try clear hx44
  try clear qi44
  try clear c45
  try clear c46
  try clear c48
  try clear c49
  try clear L6
  try clear L8
  try clear Lb
  try clear Ld
  try clear G7 G8 G9 Ga
  try clear Gm Gp Gq Gr
  try clear Gw Gx Gy Gz
  try clear hcz8_0 hcz8_1 hcz8_2 hcz8_3 hcz8_4 hcz8_5 hcz8_6 hcz8_7 hcz8_8 hcz8_9 hcz8_10
  try clear L7
  try clear L9
  try clear Lc
  try clear Le
  try clear Gb Gc Gd Ge
  try clear Gs Gt Gu Gv
  try clear J0 J1 J2 J3
  try clear hfz8_0 hfz8_1 hfz8_2 hfz8_3 hfz8_4 hfz8_5 hfz8_6 hfz8_7 hfz8_8 hfz8_9 hfz8_10
  try clear De
  try clear Dz
  try clear Ec
  try clear Ed
  try clear Ee
  try clear Ef
  try clear En
  try clear Fz
  try clear Gk
  try clear Eo
  try clear G0
  try clear Gl
  obtain ⟨kq, Fc, rfl, HA, Rs, Dv, B6, Bb, B4, Bc, Bd, Ba, B1, B9, HB⟩ := hcut
  cases kq with
  | zero => exact absurd HA.out (by simp [l38_known.j0])
  | succ Em =>
   have H := HA.out
   clear HA
   simp only [l38_known.j0] at H
   by_cases Me : Fc = true
   ·subst Me
    rw [if_pos rfl] at H
    exact absurd H (by simp)
   ·replace Me := Bool.eq_false_iff.mpr Me
    subst Me
    rw [if_neg (show ¬ (false = true) by decide)] at H
    by_cases Js : Bm = 7
    ·rw [if_pos Js] at H
     have Lo : (Bm == 7) = true := beq_iff_eq.mpr Js
     have Lp : (Bm != 7) = false := bne_eq_false_iff_eq.mpr Js
     clear Js
     by_cases Jt : Bj.toList = ([49, 49, 49, 48] : List UInt8)
     ·rw [if_pos Jt] at H
      have Lq : (Bj.toList == ([49, 49, 49, 48] : List UInt8)) = true := beq_iff_eq.mpr Jt
      have Lr : (Bj.toList != ([49, 49, 49, 48] : List UInt8)) = false := bne_eq_false_iff_eq.mpr Jt
      clear Jt
      by_cases Mf : 1 < (B0.length : Int)
      ·rw [if_pos Mf] at H
       have Oy : decide (1 < (B0.length : Int)) = true := decide_eq_true Mf
       have Oz : decide (1 < B0.length) = true := decide_eq_true (by omega)
       clear Mf
       by_cases Mg : 3 < (B0.length : Int)
       ·rw [if_pos Mg] at H
        have R0 : decide (3 < (B0.length : Int)) = true := decide_eq_true Mg
        have R1 : decide (3 < B0.length) = true := decide_eq_true (by omega)
        clear Mg
        obtain ⟨y445, hy445⟩ : ∃ y_ : List (List (S45)), y_ = (([rd_L3 B0 1, rd_L3 B0 3] : List (List (S45)))) := ⟨_, rfl⟩
        replace H : ((r38_Same.f Em 0 (⟨#[]⟩ : ByteArray) ([] : List ByteArray) y445 0 (⟨#[]⟩ : ByteArray) ([] : List ByteArray) (([D9, []] : List (List (S45))))).bind fun G2 => (if G2 = true then ((round_Fits.f Em Bo Bp Bq Br Bs Bt Bu Bv Bw Bx Bg (([3] : List Int)) Bm Bj B2 B0).bind fun Ej => (if Ej = 0 then ((round_Fits.f Em Bo Bp Bq Br Bs Bt Bu Bv Bw Bx Bg (([3] : List Int)) 8 Bj B2 B0).bind fun E7 => (if E7 = 16 then ((round_Follows.f Em Bo Bp Bq Br Bs Bt Bu Bv Bw Bx Bg Bm Bj B2 B0 8 Bj B2 B0).bind fun Es => (if Es = true then ((round_Follows.f Em Bo Bp Bq Br Bs Bt Bu Bv Bw Bx Bg 8 Bj B2 B0 Bm Bj B2 B0).bind fun F2 => (some (!F2))) else (none))) else (none))) else (none))) else (none))) = some r := by first | (rw [hy445]; with_reducible exact H) | (have Dq := (Option.bind_some _ _).symm.trans H; rw [hy445]; with_reducible exact Dq) | (have Dq := (Option.bind_some _ _).symm.trans H; with_reducible exact Dq) | with_reducible exact H | (rw [hy445]; exact H) | exact H
        have Fg := am_ hy445
        clear hy445
        obtain ⟨y448, hy448⟩ : ∃ y_ : List (List (S45)), y_ = (([D9, []] : List (List (S45)))) := ⟨_, rfl⟩
        replace H : ((r38_Same.f Em 0 (⟨#[]⟩ : ByteArray) ([] : List ByteArray) y445 0 (⟨#[]⟩ : ByteArray) ([] : List ByteArray) y448).bind fun G2 => (if G2 = true then ((round_Fits.f Em Bo Bp Bq Br Bs Bt Bu Bv Bw Bx Bg (([3] : List Int)) Bm Bj B2 B0).bind fun Ej => (if Ej = 0 then ((round_Fits.f Em Bo Bp Bq Br Bs Bt Bu Bv Bw Bx Bg (([3] : List Int)) 8 Bj B2 B0).bind fun E7 => (if E7 = 16 then ((round_Follows.f Em Bo Bp Bq Br Bs Bt Bu Bv Bw Bx Bg Bm Bj B2 B0 8 Bj B2 B0).bind fun Es => (if Es = true then ((round_Follows.f Em Bo Bp Bq Br Bs Bt Bu Bv Bw Bx Bg 8 Bj B2 B0 Bm Bj B2 B0).bind fun F2 => (some (!F2))) else (none))) else (none))) else (none))) else (none))) = some r := by first | (rw [hy448]; with_reducible exact H) | (have Dq := (Option.bind_some _ _).symm.trans H; rw [hy448]; with_reducible exact Dq) | (have Dq := (Option.bind_some _ _).symm.trans H; with_reducible exact Dq) | with_reducible exact H | (rw [hy448]; exact H) | exact H
        have Fh := am_ hy448
        clear hy448
        obtain ⟨G2, Rj, H⟩ := bes_ H
        try dsimp only at H
        by_cases Mh : G2 = true
        ·subst Mh
         rw [if_pos rfl] at H
         obtain ⟨y452, hy452⟩ : ∃ y_ : List Int, y_ = (([3] : List Int)) := ⟨_, rfl⟩
         replace H : ((round_Fits.f Em Bo Bp Bq Br Bs Bt Bu Bv Bw Bx Bg y452 Bm Bj B2 B0).bind fun Ej => (if Ej = 0 then ((round_Fits.f Em Bo Bp Bq Br Bs Bt Bu Bv Bw Bx Bg (([3] : List Int)) 8 Bj B2 B0).bind fun E7 => (if E7 = 16 then ((round_Follows.f Em Bo Bp Bq Br Bs Bt Bu Bv Bw Bx Bg Bm Bj B2 B0 8 Bj B2 B0).bind fun Es => (if Es = true then ((round_Follows.f Em Bo Bp Bq Br Bs Bt Bu Bv Bw Bx Bg 8 Bj B2 B0 Bm Bj B2 B0).bind fun F2 => (some (!F2))) else (none))) else (none))) else (none))) = some r := by first | (rw [hy452]; with_reducible exact H) | (have Dq := (Option.bind_some _ _).symm.trans H; rw [hy452]; with_reducible exact Dq) | (have Dq := (Option.bind_some _ _).symm.trans H; with_reducible exact Dq) | with_reducible exact H | (rw [hy452]; exact H) | exact H
         have Jk := am_ hy452
         clear hy452
         obtain ⟨Ej, Rk, H⟩ := bes_ H
         try dsimp only at H
         by_cases Ju : Ej = 0
         ·rw [if_pos Ju] at H
          have Ls : (Ej == 0) = true := beq_iff_eq.mpr Ju
          have Lt : (Ej != 0) = false := bne_eq_false_iff_eq.mpr Ju
          clear Ju
          obtain ⟨y456, hy456⟩ : ∃ y_ : List Int, y_ = (([3] : List Int)) := ⟨_, rfl⟩
          replace H : ((round_Fits.f Em Bo Bp Bq Br Bs Bt Bu Bv Bw Bx Bg y456 8 Bj B2 B0).bind fun E7 => (if E7 = 16 then ((round_Follows.f Em Bo Bp Bq Br Bs Bt Bu Bv Bw Bx Bg Bm Bj B2 B0 8 Bj B2 B0).bind fun Es => (if Es = true then ((round_Follows.f Em Bo Bp Bq Br Bs Bt Bu Bv Bw Bx Bg 8 Bj B2 B0 Bm Bj B2 B0).bind fun F2 => (some (!F2))) else (none))) else (none))) = some r := by first | (rw [hy456]; with_reducible exact H) | (have Dq := (Option.bind_some _ _).symm.trans H; rw [hy456]; with_reducible exact Dq) | (have Dq := (Option.bind_some _ _).symm.trans H; with_reducible exact Dq) | with_reducible exact H | (rw [hy456]; exact H) | exact H
          have Jl := am_ hy456
          clear hy456
          obtain ⟨E7, Rl, H⟩ := bes_ H
          try dsimp only at H
          by_cases Jv : E7 = 16
          ·rw [if_pos Jv] at H
           have Lu : (E7 == 16) = true := beq_iff_eq.mpr Jv
           have Lv : (E7 != 16) = false := bne_eq_false_iff_eq.mpr Jv
           clear Jv
           obtain ⟨Es, Rm, H⟩ := bes_ H
           try dsimp only at H
           by_cases Mi : Es = true
           ·subst Mi
            rw [if_pos rfl] at H
            obtain ⟨F2, Rn, H⟩ := bes_ H
            try dsimp only at H
            obtain rfl := Option.some.inj H
            try go_wp2
            replace Dv := am_ (Kd.R_drew Dv.out)
            replace B6 := am_ (Kd.R_drew B6.out)
            replace Bb := am_ (Kd.R_drew Bb.out)
            replace B4 := am_ (Kd.N_drew B4.out)
            replace Bc := am_ (Kd.R_drew Bc.out)
            replace Bd := am_ (Kd.N_drew Bd.out)
            replace Ba := am_ (blk_drew Ba.out)
            replace B1 := am_ (blk_drew B1.out)
            replace B9 := am_ (blk_drew B9.out)
            replace HB := am_ (below_drew1 HB.out)
            have J4 : 0 ≤ (1 : Int) := (by omega)
            have J5 : 1 < (B0.length : Int) := of_decide_eq_true (by first | (with_reducible assumption) | assumption)
            obtain ⟨Bh, Dl, Dm, O4, E0, Fi, Fj⟩ := at_L3 (Kd.N_reads' B4.out).2.2 1 J4 J5
            cases O4
            obtain ⟨R2, Jw, Jx, G3⟩ := Kd.N_get B4.out [] 1 J4 (by first | exact J5 | exact of_decide_eq_true (by first | (with_reducible assumption) | assumption) | (have e_ := (Kd.N_reads' B4.out).1; omega))
            obtain ⟨Mj, Mk, rfl, Et, Eu⟩ := Kd.FK_slice_open Jx
            have Eg := G3 0 _ rfl
            rw [Nat.add_zero, show ((Kd.slice 45 k45)).sz = 1 from rfl, Nat.mul_one] at Eg
            replace Eg := Option.some.inj (Eg.symm.trans E0)
            injection Eg with hva_ hvn_ hvc_
            rw [hva_] at Eu
            rw [hvc_] at Et
            have Bk := am_ (show Kd.V k45 45 _ w.heap.size _ _ (rd_L3 B0 1) from Kd.V_mk Et Eu)
            clear hva_ hvn_ hvc_ Eu Et
            clear G3 Jw
            (try simp only [show (1 : Int).toNat = 1 from rfl, Nat.reduceMul, Nat.reduceEqDiff, Go.Addr.add, ↓reduceIte] at E0)
            have R3 : (1 < B0.length) = True := eq_true (by omega)
            (try rw [show ((1 : Int)).toNat = 1 from rfl] at E0)
            have D6 := am_ Fj
            have Ml := am_ Fi
            clear Fj Fi
            replace J4 := eq_true J4
            replace J5 := eq_true J5
            have J6 : 0 ≤ (3 : Int) := (by omega)
            have J7 : 3 < (B0.length : Int) := of_decide_eq_true (by first | (with_reducible assumption) | assumption)
            obtain ⟨Lw, Dn, Do, O5, E1, Fk, Fl⟩ := at_L3 (Kd.N_reads' B4.out).2.2 3 J6 J7
            obtain rfl : Bh = Lw := (by injection O5)
            obtain ⟨R4, Jy, Jz, G4⟩ := Kd.N_get B4.out [] 3 J6 (by first | exact J7 | exact of_decide_eq_true (by first | (with_reducible assumption) | assumption) | (have e_ := (Kd.N_reads' B4.out).1; omega))
            obtain ⟨Mm, Mn, rfl, Ev, Ew⟩ := Kd.FK_slice_open Jz
            have Eh := G4 0 _ rfl
            rw [Nat.add_zero, show ((Kd.slice 45 k45)).sz = 1 from rfl, Nat.mul_one] at Eh
            replace Eh := Option.some.inj (Eh.symm.trans E1)
            injection Eh with hva_ hvn_ hvc_
            rw [hva_] at Ew
            rw [hvc_] at Ev
            have Bl := am_ (show Kd.V k45 45 _ w.heap.size _ _ (rd_L3 B0 3) from Kd.V_mk Ev Ew)
            clear hva_ hvn_ hvc_ Ew Ev
            clear G4 Jy
            (try simp only [show (3 : Int).toNat = 3 from rfl, Nat.reduceMul, Nat.reduceEqDiff, Go.Addr.add, ↓reduceIte] at E1)
            have R5 : (3 < B0.length) = True := eq_true (by omega)
            (try rw [show ((3 : Int)).toNat = 3 from rfl] at E1)
            have D7 := am_ Fl
            have Mo := am_ Fk
            clear Fl Fk
            replace J6 := eq_true J6
            replace J7 := eq_true J7
            refine start_ (n := 52) (S := fun w' => ce_ w' B7 0 (.int .i64 Bm) ∧ ce_ w' B7 1 (.string Bj) ∧ ce_ w' B7 2 (.slice Be B2.length Bf) ∧ ce_ w' B7 3 (.slice (some Bh) B0.length Bi) ∧ ce_ w' B5 0 (.int .i64 Bo) ∧ ce_ w' B5 1 (.int .i64 Bp) ∧ ce_ w' B5 2 (.int .i64 Bq) ∧ ce_ w' B5 3 (.int .i64 Br) ∧ ce_ w' B5 4 (.int .i64 Bs) ∧ ce_ w' B5 5 (.int .i64 Bt) ∧ ce_ w' B5 6 (.int .i64 Bu) ∧ ce_ w' B5 7 (.int .i64 Bv) ∧ ce_ w' B5 8 (.int .i64 Bw) ∧ ce_ w' B5 9 (.int .i64 Bx) ∧ ce_ w' B5 10 (.slice D3 Bg.length D4) ∧ ce_ w' B8 0 (.int .i64 8) ∧ ce_ w' B8 1 (.string Bj) ∧ ce_ w' B8 2 (.slice Be B2.length Bf) ∧ ce_ w' B8 3 (.slice (some Bh) B0.length Bi) ∧ w'.cell? ⟨Bh.block, Bh.off + 1, none⟩ = some (.slice Dl (rd_L3 B0 1).length Dm) ∧ w'.cell? ⟨Bh.block, Bh.off + 3, none⟩ = some (.slice Dn (rd_L3 B0 3).length Do)) (ds := []) #[false, false, false, false, false, false, false, false, false, false, false, false, false, false, false, false, false, false, false, false, false, false, false, false, false, false, false, false, false, false, false, false, false, false, false, false, false, false, false, false, false, false, false, false, false, false, false, false, false, false, false, false] (by kernel_rfl) rfl rfl ⟨(blk_cell B1.out 0).trans rfl, (blk_cell B1.out 1).trans rfl, (blk_cell B1.out 2).trans rfl, (blk_cell B1.out 3).trans rfl, (blk_cell Ba.out 0).trans rfl, (blk_cell Ba.out 1).trans rfl, (blk_cell Ba.out 2).trans rfl, (blk_cell Ba.out 3).trans rfl, (blk_cell Ba.out 4).trans rfl, (blk_cell Ba.out 5).trans rfl, (blk_cell Ba.out 6).trans rfl, (blk_cell Ba.out 7).trans rfl, (blk_cell Ba.out 8).trans rfl, (blk_cell Ba.out 9).trans rfl, (blk_cell Ba.out 10).trans rfl, (blk_cell B9.out 0).trans rfl, (blk_cell B9.out 1).trans rfl, (blk_cell B9.out 2).trans rfl, (blk_cell B9.out 3).trans rfl, E0, E1⟩ (fun hHeld => ?_); refine with_tabW l38_known.tab8 l38_known.bits8 (fun HT_ HW_ => ?_)
            generalize wc.drew = w65 at Dv B6 Bb B4 Bc Bd Ba B1 B9 HB Bk Bl D6 D7 E0 E1 hHeld ⊢
            refine pur_ 0 (some 41) rfl rfl (any_of HT_.out (by kernel_rfl)) ?_
            refine tak_ 1 (some 42) rfl rfl (take_ofW HT_.out HW_.out (by kernel_rfl)) hHeld ?_ (by rintro w' ⟨s0, s1, s2, s3, s4, s5, s6, s7, s8, s9, s10, s11, s12, s13, s14, s15, s16, s17, s18, s19, s20⟩; (first | (refine load_cells_11 (ty := 24) (x := .tmp 1) (g := B5) ?hlo_ ?hx_ Try.underlying24 ?hd_ ?hi_ s4 s5 s6 s7 s8 s9 s10 s11 s12 s13 s14; (case hlo_ => rfl); (case hx_ => rfl); (case hd_ => rfl); (case hi_ => kernel_rfl)) | (go_simp; with_reducible rfl)))
            refine pur_ 2 (some 43) rfl rfl (any_of HT_.out (by kernel_rfl)) ?_
            refine pur_ 3 (some 44) rfl rfl (any_of HT_.out (by kernel_rfl)) ?_
            refine pur_ 4 (some 45) rfl rfl (any_of HT_.out (by kernel_rfl)) ?_
            refine tak_ 5 (some 46) rfl rfl (take_ofW HT_.out HW_.out (by kernel_rfl)) hHeld ?_ (by rintro w' ⟨s0, s1, s2, s3, s4, s5, s6, s7, s8, s9, s10, s11, s12, s13, s14, s15, s16, s17, s18, s19, s20⟩; (first | (refine load_cells_11 (ty := 24) (x := .tmp 1) (g := B5) ?hlo_ ?hx_ Try.underlying24 ?hd_ ?hi_ s4 s5 s6 s7 s8 s9 s10 s11 s12 s13 s14; (case hlo_ => rfl); (case hx_ => rfl); (case hd_ => rfl); (case hi_ => kernel_rfl)) | (go_simp; with_reducible rfl)))
            refine pur_ 6 (some 47) rfl rfl (any_of HT_.out (by kernel_rfl)) ?_
            refine pur_ 7 (some 48) rfl rfl (any_of HT_.out (by kernel_rfl)) ?_
            refine pur_ 8 (some 49) rfl rfl (any_of HT_.out (by kernel_rfl)) ?_
            refine pur_ 9 (some 50) rfl rfl (any_of HT_.out (by kernel_rfl)) ?_
            refine pur_ 13 (some 54) rfl rfl (any_of HT_.out (by kernel_rfl)) ?_
            refine pur_ 19 (some 60) rfl rfl (any_of HT_.out (by kernel_rfl)) ?_
            refine tak_ 10 (some 51) rfl rfl (take_ofW HT_.out HW_.out (by kernel_rfl)) hHeld ?_ (by rintro w' ⟨s0, s1, s2, s3, s4, s5, s6, s7, s8, s9, s10, s11, s12, s13, s14, s15, s16, s17, s18, s19, s20⟩; (first | (refine load_cells_11 (ty := 24) (x := .tmp 1) (g := B5) ?hlo_ ?hx_ Try.underlying24 ?hd_ ?hi_ s4 s5 s6 s7 s8 s9 s10 s11 s12 s13 s14; (case hlo_ => rfl); (case hx_ => rfl); (case hd_ => rfl); (case hi_ => kernel_rfl)) | (go_simp; with_reducible rfl)))
            refine pur_ 11 (some 52) rfl rfl (any_of HT_.out (by kernel_rfl)) ?_
            refine tak_ 12 (some 53) rfl rfl (take_ofW HT_.out HW_.out (by kernel_rfl)) hHeld ?_ (by rintro w' ⟨s0, s1, s2, s3, s4, s5, s6, s7, s8, s9, s10, s11, s12, s13, s14, s15, s16, s17, s18, s19, s20⟩; (first | (refine load_cells_11 (ty := 24) (x := .tmp 1) (g := B5) ?hlo_ ?hx_ Try.underlying24 ?hd_ ?hi_ s4 s5 s6 s7 s8 s9 s10 s11 s12 s13 s14; (case hlo_ => rfl); (case hx_ => rfl); (case hd_ => rfl); (case hi_ => kernel_rfl)) | (go_simp; with_reducible rfl)))
            refine tak_ 14 (some 55) rfl rfl (take_ofW HT_.out HW_.out (by kernel_rfl)) hHeld ?_ (by rintro w' ⟨s0, s1, s2, s3, s4, s5, s6, s7, s8, s9, s10, s11, s12, s13, s14, s15, s16, s17, s18, s19, s20⟩; (first | (refine load_cells_11 (ty := 24) (x := .tmp 1) (g := B5) ?hlo_ ?hx_ Try.underlying24 ?hd_ ?hi_ s4 s5 s6 s7 s8 s9 s10 s11 s12 s13 s14; (case hlo_ => rfl); (case hx_ => rfl); (case hd_ => rfl); (case hi_ => kernel_rfl)) | (go_simp; with_reducible rfl)))
            refine pur_ 15 (some 56) rfl rfl (any_of HT_.out (by kernel_rfl)) ?_
            refine tak_ 16 (some 57) rfl rfl (take_ofW HT_.out HW_.out (by kernel_rfl)) hHeld ?_ (by rintro w' ⟨s0, s1, s2, s3, s4, s5, s6, s7, s8, s9, s10, s11, s12, s13, s14, s15, s16, s17, s18, s19, s20⟩; (first | (refine load_cells_11 (ty := 24) (x := .tmp 1) (g := B5) ?hlo_ ?hx_ Try.underlying24 ?hd_ ?hi_ s4 s5 s6 s7 s8 s9 s10 s11 s12 s13 s14; (case hlo_ => rfl); (case hx_ => rfl); (case hd_ => rfl); (case hi_ => kernel_rfl)) | (go_simp; with_reducible rfl)))
            refine join_ (σ := Value × Value) 30 #[true, true, true, true, true, true, true, true, true, true, true, true, true, true, true, true, true, true, true, true, true, true, false, false, false, false, false, false, false, false, false, false, false, false, false, false, false, false, false, false, false, false, false, false, false, false, false, false, false, false, false, false] (fun s_ => [(58, s_.1), (61, s_.2), (59, .agg #[.int .i64 0, .string (⟨#[]⟩ : ByteArray), .slice none 0 0, s_.1]), (62, .agg #[.int .i64 0, .string (⟨#[]⟩ : ByteArray), .slice none 0 0, s_.2])]) (fun s_ w' => (ce_ w' B7 0 (.int .i64 Bm) ∧ ce_ w' B7 1 (.string Bj) ∧ ce_ w' B7 2 (.slice Be B2.length Bf) ∧ ce_ w' B7 3 (.slice (some Bh) B0.length Bi) ∧ ce_ w' B5 0 (.int .i64 Bo) ∧ ce_ w' B5 1 (.int .i64 Bp) ∧ ce_ w' B5 2 (.int .i64 Bq) ∧ ce_ w' B5 3 (.int .i64 Br) ∧ ce_ w' B5 4 (.int .i64 Bs) ∧ ce_ w' B5 5 (.int .i64 Bt) ∧ ce_ w' B5 6 (.int .i64 Bu) ∧ ce_ w' B5 7 (.int .i64 Bv) ∧ ce_ w' B5 8 (.int .i64 Bw) ∧ ce_ w' B5 9 (.int .i64 Bx) ∧ ce_ w' B5 10 (.slice D3 Bg.length D4) ∧ ce_ w' B8 0 (.int .i64 8) ∧ ce_ w' B8 1 (.string Bj) ∧ ce_ w' B8 2 (.slice Be B2.length Bf) ∧ ce_ w' B8 3 (.slice (some Bh) B0.length Bi) ∧ w'.cell? ⟨Bh.block, Bh.off + 1, none⟩ = some (.slice Dl (rd_L3 B0 1).length Dm) ∧ w'.cell? ⟨Bh.block, Bh.off + 3, none⟩ = some (.slice Dn (rd_L3 B0 3).length Do)) ∧ (Kd.V k45 45 w' w.heap.size (fun k_ => some k_ ≠ (s_.1 : Value).ownBlock ∧ some k_ ≠ (s_.2 : Value).ownBlock ∧ some k_ ≠ (.slice D3 Bg.length D4 : Value).ownBlock ∧ some k_ ≠ (.slice Be B2.length Bf : Value).ownBlock ∧ some k_ ≠ (.slice (some Bh) B0.length Bi : Value).ownBlock ∧ some k_ ≠ (.slice Be B2.length Bf : Value).ownBlock ∧ k_ ≠ B5 ∧ k_ ≠ B7 ∧ k_ ≠ B8) (.slice Dl (rd_L3 B0 1).length Dm) (rd_L3 B0 1)) ∧ (Kd.V k45 45 w' w.heap.size (fun k_ => some k_ ≠ (s_.1 : Value).ownBlock ∧ some k_ ≠ (s_.2 : Value).ownBlock ∧ some k_ ≠ (.slice D3 Bg.length D4 : Value).ownBlock ∧ some k_ ≠ (.slice Be B2.length Bf : Value).ownBlock ∧ some k_ ≠ (.slice (some Bh) B0.length Bi : Value).ownBlock ∧ some k_ ≠ (.slice Be B2.length Bf : Value).ownBlock ∧ k_ ≠ B5 ∧ k_ ≠ B7 ∧ k_ ≠ B8) (.slice Dn (rd_L3 B0 3).length Do) (rd_L3 B0 3)) ∧ (Kd.N (Kd.slice 45 k45) 42 w' w.heap.size (fun k_ => some k_ ≠ (s_.2 : Value).ownBlock ∧ some k_ ≠ (.slice D3 Bg.length D4 : Value).ownBlock ∧ some k_ ≠ (.slice Be B2.length Bf : Value).ownBlock ∧ some k_ ≠ (.slice (some Bh) B0.length Bi : Value).ownBlock ∧ some k_ ≠ (.slice Be B2.length Bf : Value).ownBlock ∧ k_ ≠ B5 ∧ k_ ≠ B7 ∧ k_ ≠ B8) s_.1 y445) ∧ (Kd.N (Kd.slice 45 k45) 42 w' w.heap.size (fun k_ => some k_ ≠ (s_.1 : Value).ownBlock ∧ some k_ ≠ (.slice D3 Bg.length D4 : Value).ownBlock ∧ some k_ ≠ (.slice Be B2.length Bf : Value).ownBlock ∧ some k_ ≠ (.slice (some Bh) B0.length Bi : Value).ownBlock ∧ some k_ ≠ (.slice Be B2.length Bf : Value).ownBlock ∧ some k_ ≠ (.slice (some Bh) B0.length Bi : Value).ownBlock ∧ k_ ≠ B5 ∧ k_ ≠ B7 ∧ k_ ≠ B8) s_.2 y448) ∧ (Kd.R (Kd.int .i64) 3 w' w.heap.size (fun _ => True) (.slice D3 Bg.length D4) Bg) ∧ (Kd.R Kd.string 9 w' w.heap.size (fun _ => True) (.slice Be B2.length Bf) B2) ∧ (Kd.N (Kd.slice 45 k45) 42 w' w.heap.size (fun k_ => some k_ ≠ (s_.1 : Value).ownBlock ∧ some k_ ≠ (s_.2 : Value).ownBlock ∧ some k_ ≠ (.slice D3 Bg.length D4 : Value).ownBlock ∧ some k_ ≠ (.slice Be B2.length Bf : Value).ownBlock ∧ some k_ ≠ (.slice Be B2.length Bf : Value).ownBlock ∧ k_ ≠ B5 ∧ k_ ≠ B7 ∧ k_ ≠ B8) (.slice (some Bh) B0.length Bi) B0) ∧ (Kd.R Kd.string 9 w' w.heap.size (fun _ => True) (.slice Be B2.length Bf) B2) ∧ (Kd.N (Kd.slice 45 k45) 42 w' w.heap.size (fun k_ => some k_ ≠ (s_.1 : Value).ownBlock ∧ some k_ ≠ (s_.2 : Value).ownBlock ∧ some k_ ≠ (.slice D3 Bg.length D4 : Value).ownBlock ∧ some k_ ≠ (.slice Be B2.length Bf : Value).ownBlock ∧ some k_ ≠ (.slice Be B2.length Bf : Value).ownBlock ∧ k_ ≠ B5 ∧ k_ ≠ B7 ∧ k_ ≠ B8) (.slice (some Bh) B0.length Bi) B0) ∧ (w'.heap[B5]? = some (.cells #[.int .i64 Bo, .int .i64 Bp, .int .i64 Bq, .int .i64 Br, .int .i64 Bs, .int .i64 Bt, .int .i64 Bu, .int .i64 Bv, .int .i64 Bw, .int .i64 Bx, .slice D3 Bg.length D4] 24 (0, 0))) ∧ (w'.heap[B7]? = some (.cells #[.int .i64 Bm, .string Bj, .slice Be B2.length Bf, .slice (some Bh) B0.length Bi] 32 (0, 0))) ∧ (w'.heap[B8]? = some (.cells #[.int .i64 8, .string Bj, .slice Be B2.length Bf, .slice (some Bh) B0.length Bi] 32 (0, 0))) ∧ (Below w.heap.size w w')) ?_ ?_
            rotate_left
            ·intro hCont
             refine two_ (i := 17) (j := 20) (Ni := some 58) (Nj := some 61) #[true, true, true, true, true, true, true, true, true, true, true, true, true, true, true, true, true, true, false, true, false, false, false, false, false, false, false, false, false, false, false, false, false, false, false, false, false, false, false, false, false, false, false, false, false, false, false, false, false, false, false, false] #[true, true, true, true, true, true, true, true, true, true, true, true, true, true, true, true, true, false, false, true, true, false, false, false, false, false, false, false, false, false, false, false, false, false, false, false, false, false, false, false, false, false, false, false, false, false, false, false, false, false, false, false] rfl rfl rfl rfl (two_of HT_.out (by kernel_rfl)) (by decide) (by decide) (fun K hK => ?_) (fun K hK => ?_)
             ·skip
              refine Kd.N_lit_step (Kd.slice 45 k45) _ 42 ?hg (N' := 58) ?hd (xs := ([rd_L3 B0 1, rd_L3 B0 3] : List (List (S45)))) (inner := [.slice Dl (rd_L3 B0 1).length Dm, .slice Dn (rd_L3 B0 3).length Do]) (ok := (fun k_ => some k_ ≠ (v437 : Value).ownBlock ∧ some k_ ≠ (.slice D3 Bg.length D4 : Value).ownBlock ∧ some k_ ≠ (.slice Be B2.length Bf : Value).ownBlock ∧ some k_ ≠ (.slice (some Bh) B0.length Bi : Value).ownBlock ∧ some k_ ≠ (.slice Be B2.length Bf : Value).ownBlock ∧ k_ ≠ B5 ∧ k_ ≠ B7 ∧ k_ ≠ B8)) (okp := (fun k_ => some k_ ≠ (v437 : Value).ownBlock ∧ some k_ ≠ (.slice D3 Bg.length D4 : Value).ownBlock ∧ some k_ ≠ (.slice Be B2.length Bf : Value).ownBlock ∧ some k_ ≠ (.slice (some Bh) B0.length Bi : Value).ownBlock ∧ some k_ ≠ (.slice Be B2.length Bf : Value).ownBlock ∧ k_ ≠ B5 ∧ k_ ≠ B7 ∧ k_ ≠ B8)) ?hr ?hp (fun _ hk => hk) ((show ∀ k_, w65.heap.size ≤ k_ → (fun k_ => some k_ ≠ (v437 : Value).ownBlock ∧ some k_ ≠ (.slice D3 Bg.length D4 : Value).ownBlock ∧ some k_ ≠ (.slice Be B2.length Bf : Value).ownBlock ∧ some k_ ≠ (.slice (some Bh) B0.length Bi : Value).ownBlock ∧ some k_ ≠ (.slice Be B2.length Bf : Value).ownBlock ∧ k_ ≠ B5 ∧ k_ ≠ B7 ∧ k_ ≠ B8) k_ from fun k_ hk => ⟨Kd.fresh' (Kd.R_lt (by (with_reducible repeat (first | apply Kd.R_alloc | apply Kd.R_drewN | apply Kd.R_drew)); exact Dv.out)) k_ hk, Kd.fresh' (Kd.R_lt (by (with_reducible repeat (first | apply Kd.R_alloc | apply Kd.R_drewN | apply Kd.R_drew)); exact B6.out)) k_ hk, Kd.fresh' (Kd.R_lt (by (with_reducible repeat (first | apply Kd.R_alloc | apply Kd.R_drewN | apply Kd.R_drew)); exact Bb.out)) k_ hk, Kd.fresh' (Kd.N_lt (by (with_reducible repeat (first | apply Kd.N_alloc | apply Kd.N_drewN | apply Kd.N_drew)); exact B4.out)) k_ hk, Kd.fresh' (Kd.R_lt (by (with_reducible repeat (first | apply Kd.R_alloc | apply Kd.R_drewN | apply Kd.R_drew)); exact Bc.out)) k_ hk, Kd.freshB (g := B5) (o := .cells #[.int .i64 Bo, .int .i64 Bp, .int .i64 Bq, .int .i64 Br, .int .i64 Bs, .int .i64 Bt, .int .i64 Bu, .int .i64 Bv, .int .i64 Bw, .int .i64 Bx, .slice D3 Bg.length D4] 24 (0, 0)) (by (with_reducible repeat (first | apply kn_ | apply kd_ | apply ka_)); exact Ba.out) k_ hk, Kd.freshB (g := B7) (o := .cells #[.int .i64 Bm, .string Bj, .slice Be B2.length Bf, .slice (some Bh) B0.length Bi] 32 (0, 0)) (by (with_reducible repeat (first | apply kn_ | apply kd_ | apply ka_)); exact B1.out) k_ hk, Kd.freshB (g := B8) (o := .cells #[.int .i64 8, .string Bj, .slice Be B2.length Bf, .slice (some Bh) B0.length Bi] 32 (0, 0)) (by (with_reducible repeat (first | apply kn_ | apply kd_ | apply ka_)); exact B9.out) k_ hk⟩) _ (Nat.le_refl _)) (Below.refl _ _) (Nat.le_refl _) (by simp) ?_; (case hd => rfl); (case hg => rfl); (case hr => first | (go_simp; done) | (go_simp; rfl)); (case hp => exact (Reps.one (show Kd.FK (Kd.slice 45 k45) _ _ (rd_L3 B0 1) [.slice Dl (rd_L3 B0 1).length Dm] from (Kd.FK_slice_mk (Kd.V_reads' (Kd.V_mono (ok' := (fun k_ => some k_ ≠ (v437 : Value).ownBlock ∧ some k_ ≠ (.slice D3 Bg.length D4 : Value).ownBlock ∧ some k_ ≠ (.slice Be B2.length Bf : Value).ownBlock ∧ some k_ ≠ (.slice (some Bh) B0.length Bi : Value).ownBlock ∧ some k_ ≠ (.slice Be B2.length Bf : Value).ownBlock ∧ k_ ≠ B5 ∧ k_ ≠ B7 ∧ k_ ≠ B8)) (Bk.out) (fun k_ hk => ⟨hk.1.1, ⟨hk.1.2.1, ⟨hk.1.2.2.1, ⟨hk.2, ⟨hk.1.2.2.2.1, ⟨hk.1.2.2.2.2.1, ⟨hk.1.2.2.2.2.2.1, hk.1.2.2.2.2.2.2⟩⟩⟩⟩⟩⟩⟩))).2.1 (Kd.V_F (Kd.V_mono (ok' := (fun k_ => some k_ ≠ (v437 : Value).ownBlock ∧ some k_ ≠ (.slice D3 Bg.length D4 : Value).ownBlock ∧ some k_ ≠ (.slice Be B2.length Bf : Value).ownBlock ∧ some k_ ≠ (.slice (some Bh) B0.length Bi : Value).ownBlock ∧ some k_ ≠ (.slice Be B2.length Bf : Value).ownBlock ∧ k_ ≠ B5 ∧ k_ ≠ B7 ∧ k_ ≠ B8)) (Bk.out) (fun k_ hk => ⟨hk.1.1, ⟨hk.1.2.1, ⟨hk.1.2.2.1, ⟨hk.2, ⟨hk.1.2.2.2.1, ⟨hk.1.2.2.2.2.1, ⟨hk.1.2.2.2.2.2.1, hk.1.2.2.2.2.2.2⟩⟩⟩⟩⟩⟩⟩))))) (Reps.one (show Kd.FK (Kd.slice 45 k45) _ _ (rd_L3 B0 3) [.slice Dn (rd_L3 B0 3).length Do] from (Kd.FK_slice_mk (Kd.V_reads' (Kd.V_mono (ok' := (fun k_ => some k_ ≠ (v437 : Value).ownBlock ∧ some k_ ≠ (.slice D3 Bg.length D4 : Value).ownBlock ∧ some k_ ≠ (.slice Be B2.length Bf : Value).ownBlock ∧ some k_ ≠ (.slice (some Bh) B0.length Bi : Value).ownBlock ∧ some k_ ≠ (.slice Be B2.length Bf : Value).ownBlock ∧ k_ ≠ B5 ∧ k_ ≠ B7 ∧ k_ ≠ B8)) (Bl.out) (fun k_ hk => ⟨hk.1.1, ⟨hk.1.2.1, ⟨hk.1.2.2.1, ⟨hk.2, ⟨hk.1.2.2.2.1, ⟨hk.1.2.2.2.2.1, ⟨hk.1.2.2.2.2.2.1, hk.1.2.2.2.2.2.2⟩⟩⟩⟩⟩⟩⟩))).2.1 (Kd.V_F (Kd.V_mono (ok' := (fun k_ => some k_ ≠ (v437 : Value).ownBlock ∧ some k_ ≠ (.slice D3 Bg.length D4 : Value).ownBlock ∧ some k_ ≠ (.slice Be B2.length Bf : Value).ownBlock ∧ some k_ ≠ (.slice (some Bh) B0.length Bi : Value).ownBlock ∧ some k_ ≠ (.slice Be B2.length Bf : Value).ownBlock ∧ k_ ≠ B5 ∧ k_ ≠ B7 ∧ k_ ≠ B8)) (Bl.out) (fun k_ hk => ⟨hk.1.1, ⟨hk.1.2.1, ⟨hk.1.2.2.1, ⟨hk.2, ⟨hk.1.2.2.2.1, ⟨hk.1.2.2.2.2.1, ⟨hk.1.2.2.2.2.2.1, hk.1.2.2.2.2.2.2⟩⟩⟩⟩⟩⟩⟩))))) (Reps.none _ _))))
              intro v446 w66 Ex hb hg_ hnew_
              have Db := (hb.cell (World.block_lt_of_cell? _ _ (hHeld.2.2.2.2.2.2.2.2.2.2.2.2.2.2.2.2.2.2.2.1))).trans (hHeld.2.2.2.2.2.2.2.2.2.2.2.2.2.2.2.2.2.2.2.1)
              have Dc := (hb.cell (World.block_lt_of_cell? _ _ (hHeld.2.2.2.2.2.2.2.2.2.2.2.2.2.2.2.2.2.2.2.2))).trans (hHeld.2.2.2.2.2.2.2.2.2.2.2.2.2.2.2.2.2.2.2.2)
              clear hg_ hnew_
              (first | rw [← Fg.out] at Ex | (simp only [Int.reduceToNat] at Ex; rw [← Fg.out] at Ex))
              replace Dv := am_ (Kd.R_below Dv.out hb)
              replace B6 := am_ (Kd.R_below B6.out hb)
              replace Bb := am_ (Kd.R_below Bb.out hb)
              replace B4 := am_ (Kd.N_elder' (by (with_reducible repeat (first | apply Kd.N_alloc | apply Kd.N_drewN | apply Kd.N_drew)); exact B4.out) (Kd.N_base Ex) hb)
              replace Bc := am_ (Kd.R_below Bc.out hb)
              replace Bd := am_ (Kd.N_elder' (by (with_reducible repeat (first | apply Kd.N_alloc | apply Kd.N_drewN | apply Kd.N_drew)); exact Bd.out) (Kd.N_base Ex) hb)
              replace Bk := am_ (Kd.V_elder' (by (with_reducible repeat (first | apply Kd.V_alloc | apply Kd.V_drewN | apply Kd.V_drew)); exact Bk.out) (Kd.N_base Ex) hb)
              replace Bl := am_ (Kd.V_elder' (by (with_reducible repeat (first | apply Kd.V_alloc | apply Kd.V_drewN | apply Kd.V_drew)); exact Bl.out) (Kd.N_base Ex) hb)
              have D1 := am_ (Kd.N_lower Ex (below_size HB.out))
              replace Ba := bkb_ Ba hb
              replace B1 := bkb_ B1 hb
              replace B9 := bkb_ B9 hb
              replace D6 := am_ (Kd.C_below (by repeat (first | (with_reducible exact D6.out) | (with_reducible refine Kd.C_alloc ?_ _) | (with_reducible refine Kd.C_drewN ?_ _) | (with_reducible refine Kd.C_drew ?_) | exact D6.out)) hb)
              replace D7 := am_ (Kd.C_below (by repeat (first | (with_reducible exact D7.out) | (with_reducible refine Kd.C_alloc ?_ _) | (with_reducible refine Kd.C_drewN ?_ _) | (with_reducible refine Kd.C_drew ?_) | exact D7.out)) hb)
              replace HB := bst_ HB hb
              clear hb Ex
              obtain ⟨Fo, Fp, Lx⟩ := Kd.N_slice D1.out
              (first | subst Lx | (injection Lx with f1_ f2_ f3_; have Ey := f1_.symm; have Ez := f3_.symm; clear f1_ f2_ f3_; subst Ey; subst Ez))
              obtain ⟨Ek, El, G5⟩ := Kd.R_slice Dv.out
              (first | subst G5 | (injection G5 with f1_ f2_ f3_; have Ey := f1_.symm; have Ez := f3_.symm; clear f1_ f2_ f3_; subst Ey; subst Ez))
              refine hK.out _ _ ⟨(blk_cell B1.out 0).trans rfl, (blk_cell B1.out 1).trans rfl, (blk_cell B1.out 2).trans rfl, (blk_cell B1.out 3).trans rfl, (and_11 Ba.out ⟨(blk_cell B9.out 0).trans rfl, (blk_cell B9.out 1).trans rfl, (blk_cell B9.out 2).trans rfl, (blk_cell B9.out 3).trans rfl, Db, Dc⟩)⟩ (fun hHeld => ?_)
              clear hK K
              refine nor_ 58 ?_
              refine pur_ 18 (some 59) rfl rfl (any_of HT_.out (by kernel_rfl)) ?_
              refine oon_ 20 (some 61) rfl rfl (one_of HT_.out (by kernel_rfl)) (fun K hK => ?_)
              refine Kd.N_lit_step (Kd.slice 45 k45) _ 42 ?hg (N' := 61) ?hd (xs := ([D9, []] : List (List (S45)))) (inner := [.slice Ek D9.length El, .slice none 0 0]) (ok := (fun k_ => some k_ ≠ (.slice D3 Bg.length D4 : Value).ownBlock ∧ some k_ ≠ (.slice Be B2.length Bf : Value).ownBlock ∧ some k_ ≠ (.slice (some Bh) B0.length Bi : Value).ownBlock ∧ some k_ ≠ (.slice Be B2.length Bf : Value).ownBlock ∧ some k_ ≠ (.slice (some Bh) B0.length Bi : Value).ownBlock ∧ some k_ ≠ (.slice Fo y445.length Fp : Value).ownBlock ∧ k_ ≠ B5 ∧ k_ ≠ B7 ∧ k_ ≠ B8)) (okp := (fun k_ => some k_ ≠ (.slice D3 Bg.length D4 : Value).ownBlock ∧ some k_ ≠ (.slice Be B2.length Bf : Value).ownBlock ∧ some k_ ≠ (.slice (some Bh) B0.length Bi : Value).ownBlock ∧ some k_ ≠ (.slice Be B2.length Bf : Value).ownBlock ∧ some k_ ≠ (.slice (some Bh) B0.length Bi : Value).ownBlock ∧ some k_ ≠ (.slice Fo y445.length Fp : Value).ownBlock ∧ k_ ≠ B5 ∧ k_ ≠ B7 ∧ k_ ≠ B8)) ?hr ?hp (fun _ hk => hk) ((show ∀ k_, w66.heap.size ≤ k_ → (fun k_ => some k_ ≠ (.slice D3 Bg.length D4 : Value).ownBlock ∧ some k_ ≠ (.slice Be B2.length Bf : Value).ownBlock ∧ some k_ ≠ (.slice (some Bh) B0.length Bi : Value).ownBlock ∧ some k_ ≠ (.slice Be B2.length Bf : Value).ownBlock ∧ some k_ ≠ (.slice (some Bh) B0.length Bi : Value).ownBlock ∧ some k_ ≠ (.slice Fo y445.length Fp : Value).ownBlock ∧ k_ ≠ B5 ∧ k_ ≠ B7 ∧ k_ ≠ B8) k_ from fun k_ hk => ⟨Kd.fresh' (Kd.R_lt (by (with_reducible repeat (first | apply Kd.R_alloc | apply Kd.R_drewN | apply Kd.R_drew)); exact B6.out)) k_ hk, Kd.fresh' (Kd.R_lt (by (with_reducible repeat (first | apply Kd.R_alloc | apply Kd.R_drewN | apply Kd.R_drew)); exact Bb.out)) k_ hk, Kd.fresh' (Kd.N_lt (by (with_reducible repeat (first | apply Kd.N_alloc | apply Kd.N_drewN | apply Kd.N_drew)); exact B4.out)) k_ hk, Kd.fresh' (Kd.R_lt (by (with_reducible repeat (first | apply Kd.R_alloc | apply Kd.R_drewN | apply Kd.R_drew)); exact Bc.out)) k_ hk, Kd.fresh' (Kd.N_lt (by (with_reducible repeat (first | apply Kd.N_alloc | apply Kd.N_drewN | apply Kd.N_drew)); exact Bd.out)) k_ hk, Kd.fresh' (Kd.N_lt (by (with_reducible repeat (first | apply Kd.N_alloc | apply Kd.N_drewN | apply Kd.N_drew)); exact D1.out)) k_ hk, Kd.freshB (g := B5) (o := .cells #[.int .i64 Bo, .int .i64 Bp, .int .i64 Bq, .int .i64 Br, .int .i64 Bs, .int .i64 Bt, .int .i64 Bu, .int .i64 Bv, .int .i64 Bw, .int .i64 Bx, .slice D3 Bg.length D4] 24 (0, 0)) (by (with_reducible repeat (first | apply kn_ | apply kd_ | apply ka_)); exact Ba.out) k_ hk, Kd.freshB (g := B7) (o := .cells #[.int .i64 Bm, .string Bj, .slice Be B2.length Bf, .slice (some Bh) B0.length Bi] 32 (0, 0)) (by (with_reducible repeat (first | apply kn_ | apply kd_ | apply ka_)); exact B1.out) k_ hk, Kd.freshB (g := B8) (o := .cells #[.int .i64 8, .string Bj, .slice Be B2.length Bf, .slice (some Bh) B0.length Bi] 32 (0, 0)) (by (with_reducible repeat (first | apply kn_ | apply kd_ | apply ka_)); exact B9.out) k_ hk⟩) _ (Nat.le_refl _)) (Below.refl _ _) (Nat.le_refl _) (by simp) ?_; (case hd => rfl); (case hg => rfl); (case hr => first | (go_simp; done) | (go_simp; rfl)); (case hp => exact (Reps.one (show Kd.FK (Kd.slice 45 k45) _ _ D9 [.slice Ek D9.length El] from (Kd.FK_slice_mk (Kd.R_reads' (Kd.R_mono (ok' := (fun k_ => some k_ ≠ (.slice D3 Bg.length D4 : Value).ownBlock ∧ some k_ ≠ (.slice Be B2.length Bf : Value).ownBlock ∧ some k_ ≠ (.slice (some Bh) B0.length Bi : Value).ownBlock ∧ some k_ ≠ (.slice Be B2.length Bf : Value).ownBlock ∧ some k_ ≠ (.slice (some Bh) B0.length Bi : Value).ownBlock ∧ some k_ ≠ (.slice Fo y445.length Fp : Value).ownBlock ∧ k_ ≠ B5 ∧ k_ ≠ B7 ∧ k_ ≠ B8)) (Kd.R_types (Kd.R_types (Kd.R_types (Kd.R_apart' (Kd.R_apart' (Kd.R_apart' (Kd.R_apart' (Kd.R_apart' (Kd.R_apart' (Dv.out) (Kd.R_typed B6.out) (by decide)) (Kd.R_typed Bb.out) (by decide)) (Kd.N_typed B4.out) (by decide)) (Kd.R_typed Bc.out) (by decide)) (Kd.N_typed Bd.out) (by decide)) (Kd.N_typed D1.out) (by decide)) Ba.out (by decide)) B1.out (by decide)) B9.out (by decide)) (fun k_ hk => ⟨hk.1.1.1.1.1.1.1.1.2, ⟨hk.1.1.1.1.1.1.1.2, ⟨hk.1.1.1.1.1.1.2, ⟨hk.1.1.1.1.1.2, ⟨hk.1.1.1.1.2, ⟨hk.1.1.1.2, ⟨hk.1.1.2, ⟨hk.1.2, hk.2⟩⟩⟩⟩⟩⟩⟩⟩))).2.1 (Kd.R_F (Kd.R_mono (ok' := (fun k_ => some k_ ≠ (.slice D3 Bg.length D4 : Value).ownBlock ∧ some k_ ≠ (.slice Be B2.length Bf : Value).ownBlock ∧ some k_ ≠ (.slice (some Bh) B0.length Bi : Value).ownBlock ∧ some k_ ≠ (.slice Be B2.length Bf : Value).ownBlock ∧ some k_ ≠ (.slice (some Bh) B0.length Bi : Value).ownBlock ∧ some k_ ≠ (.slice Fo y445.length Fp : Value).ownBlock ∧ k_ ≠ B5 ∧ k_ ≠ B7 ∧ k_ ≠ B8)) (Kd.R_types (Kd.R_types (Kd.R_types (Kd.R_apart' (Kd.R_apart' (Kd.R_apart' (Kd.R_apart' (Kd.R_apart' (Kd.R_apart' (Dv.out) (Kd.R_typed B6.out) (by decide)) (Kd.R_typed Bb.out) (by decide)) (Kd.N_typed B4.out) (by decide)) (Kd.R_typed Bc.out) (by decide)) (Kd.N_typed Bd.out) (by decide)) (Kd.N_typed D1.out) (by decide)) Ba.out (by decide)) B1.out (by decide)) B9.out (by decide)) (fun k_ hk => ⟨hk.1.1.1.1.1.1.1.1.2, ⟨hk.1.1.1.1.1.1.1.2, ⟨hk.1.1.1.1.1.1.2, ⟨hk.1.1.1.1.1.2, ⟨hk.1.1.1.1.2, ⟨hk.1.1.1.2, ⟨hk.1.1.2, ⟨hk.1.2, hk.2⟩⟩⟩⟩⟩⟩⟩⟩))))) (Reps.one (show Kd.FK (Kd.slice 45 k45) _ _ [] [.slice none 0 0] from (Kd.FK_slice_mk (Nat.le_refl _) (Kd.F_nil _ _ _))) (Reps.none _ _))))
              intro v449 w70 Di hb hg_ hnew_
              have Db := (hb.cell (World.block_lt_of_cell? _ _ (hHeld.2.2.2.2.2.2.2.2.2.2.2.2.2.2.2.2.2.2.2.1))).trans (hHeld.2.2.2.2.2.2.2.2.2.2.2.2.2.2.2.2.2.2.2.1)
              have Dc := (hb.cell (World.block_lt_of_cell? _ _ (hHeld.2.2.2.2.2.2.2.2.2.2.2.2.2.2.2.2.2.2.2.2))).trans (hHeld.2.2.2.2.2.2.2.2.2.2.2.2.2.2.2.2.2.2.2.2)
              clear hg_ hnew_
              (first | rw [← Fh.out] at Di | (simp only [Int.reduceToNat] at Di; rw [← Fh.out] at Di))
              replace B6 := am_ (Kd.R_below B6.out hb)
              replace Bb := am_ (Kd.R_below Bb.out hb)
              replace B4 := am_ (Kd.N_elder' (by (with_reducible repeat (first | apply Kd.N_alloc | apply Kd.N_drewN | apply Kd.N_drew)); exact B4.out) (Kd.N_base Di) hb)
              replace Bc := am_ (Kd.R_below Bc.out hb)
              replace Bd := am_ (Kd.N_elder' (by (with_reducible repeat (first | apply Kd.N_alloc | apply Kd.N_drewN | apply Kd.N_drew)); exact Bd.out) (Kd.N_base Di) hb)
              replace Bk := am_ (Kd.V_elder' (by (with_reducible repeat (first | apply Kd.V_alloc | apply Kd.V_drewN | apply Kd.V_drew)); exact Bk.out) (Kd.N_base Di) hb)
              replace Bl := am_ (Kd.V_elder' (by (with_reducible repeat (first | apply Kd.V_alloc | apply Kd.V_drewN | apply Kd.V_drew)); exact Bl.out) (Kd.N_base Di) hb)
              replace D1 := am_ (Kd.N_elder' (by (with_reducible repeat (first | apply Kd.N_alloc | apply Kd.N_drewN | apply Kd.N_drew)); exact D1.out) (Kd.N_base Di) hb)
              have D2 := am_ (Kd.N_lower Di (below_size HB.out))
              replace Ba := bkb_ Ba hb
              replace B1 := bkb_ B1 hb
              replace B9 := bkb_ B9 hb
              replace D6 := am_ (Kd.C_below (by repeat (first | (with_reducible exact D6.out) | (with_reducible refine Kd.C_alloc ?_ _) | (with_reducible refine Kd.C_drewN ?_ _) | (with_reducible refine Kd.C_drew ?_) | exact D6.out)) hb)
              replace D7 := am_ (Kd.C_below (by repeat (first | (with_reducible exact D7.out) | (with_reducible refine Kd.C_alloc ?_ _) | (with_reducible refine Kd.C_drewN ?_ _) | (with_reducible refine Kd.C_drew ?_) | exact D7.out)) hb)
              replace HB := bst_ HB hb
              clear Dv
              clear hb Di
              obtain ⟨L0, L1, G6⟩ := Kd.N_slice D2.out
              (first | subst G6 | (injection G6 with f1_ f2_ f3_; have Ey := f1_.symm; have Ez := f3_.symm; clear f1_ f2_ f3_; subst Ey; subst Ez))
              refine hK.out _ _ ⟨(blk_cell B1.out 0).trans rfl, (blk_cell B1.out 1).trans rfl, (blk_cell B1.out 2).trans rfl, (blk_cell B1.out 3).trans rfl, (and_11 Ba.out ⟨(blk_cell B9.out 0).trans rfl, (blk_cell B9.out 1).trans rfl, (blk_cell B9.out 2).trans rfl, (blk_cell B9.out 3).trans rfl, Db, Dc⟩)⟩ (fun hHeld => ?_)
              clear hK K
              refine nor_ 61 ?_
              refine pur_ 21 (some 62) rfl rfl (any_of HT_.out (by kernel_rfl)) ?_
              exact norm_ (by simp only [putAll, Act.put, zs_]) (hCont (.slice Fo y445.length Fp, .slice L0 y448.length L1) _ ⟨hHeld, (by (with_reducible repeat (first | apply Kd.V_alloc | apply Kd.V_drewN | apply Kd.V_drew)); exact Kd.V_mono Bk.out (fun _ hk => ⟨hk.1.2, ⟨hk.2, ⟨hk.1.1.1.2.1, ⟨hk.1.1.1.2.2.1, ⟨hk.1.1.2, ⟨hk.1.1.1.2.2.2.1, ⟨hk.1.1.1.2.2.2.2.1, ⟨hk.1.1.1.2.2.2.2.2.1, hk.1.1.1.2.2.2.2.2.2⟩⟩⟩⟩⟩⟩⟩⟩)), (by (with_reducible repeat (first | apply Kd.V_alloc | apply Kd.V_drewN | apply Kd.V_drew)); exact Kd.V_mono Bl.out (fun _ hk => ⟨hk.1.2, ⟨hk.2, ⟨hk.1.1.1.2.1, ⟨hk.1.1.1.2.2.1, ⟨hk.1.1.2, ⟨hk.1.1.1.2.2.2.1, ⟨hk.1.1.1.2.2.2.2.1, ⟨hk.1.1.1.2.2.2.2.2.1, hk.1.1.1.2.2.2.2.2.2⟩⟩⟩⟩⟩⟩⟩⟩)), (by (with_reducible repeat (first | apply Kd.N_alloc | apply Kd.N_drewN | apply Kd.N_drew)); exact Kd.N_mono D1.out (fun _ hk => ⟨hk.2, ⟨hk.1.2.1, ⟨hk.1.2.2.1, ⟨hk.1.2.2.2.1, ⟨hk.1.2.2.2.2.1, ⟨hk.1.2.2.2.2.2.1, ⟨hk.1.2.2.2.2.2.2.1, hk.1.2.2.2.2.2.2.2⟩⟩⟩⟩⟩⟩⟩)), (by (with_reducible repeat (first | apply Kd.N_alloc | apply Kd.N_drewN | apply Kd.N_drew)); exact Kd.N_mono D2.out (fun _ hk => ⟨hk.2.2.2.2.2.1, ⟨hk.1, ⟨hk.2.1, ⟨hk.2.2.1, ⟨hk.2.2.2.1, ⟨hk.2.2.2.2.1, ⟨hk.2.2.2.2.2.2.1, ⟨hk.2.2.2.2.2.2.2.1, hk.2.2.2.2.2.2.2.2⟩⟩⟩⟩⟩⟩⟩⟩)), (by (with_reducible repeat (first | apply Kd.R_alloc | apply Kd.R_drewN | apply Kd.R_drew)); exact B6.out), (by (with_reducible repeat (first | apply Kd.R_alloc | apply Kd.R_drewN | apply Kd.R_drew)); exact Bb.out), (by (with_reducible repeat (first | apply Kd.N_alloc | apply Kd.N_drewN | apply Kd.N_drew)); exact Kd.N_mono B4.out (fun _ hk => ⟨hk.1.2, ⟨hk.2, ⟨hk.1.1.2.1, ⟨hk.1.1.2.2.1, ⟨hk.1.1.2.2.2.1, ⟨hk.1.1.2.2.2.2.1, ⟨hk.1.1.2.2.2.2.2.1, hk.1.1.2.2.2.2.2.2⟩⟩⟩⟩⟩⟩⟩)), (by (with_reducible repeat (first | apply Kd.R_alloc | apply Kd.R_drewN | apply Kd.R_drew)); exact Bc.out), (by (with_reducible repeat (first | apply Kd.N_alloc | apply Kd.N_drewN | apply Kd.N_drew)); exact Kd.N_mono Bd.out (fun _ hk => ⟨hk.1.2, ⟨hk.2, ⟨hk.1.1.2.1, ⟨hk.1.1.2.2.1, ⟨hk.1.1.2.2.2.1, ⟨hk.1.1.2.2.2.2.1, ⟨hk.1.1.2.2.2.2.2.1, hk.1.1.2.2.2.2.2.2⟩⟩⟩⟩⟩⟩⟩)), (by (with_reducible repeat (first | apply kn_ | apply kd_ | apply ka_)); exact Ba.out), (by (with_reducible repeat (first | apply kn_ | apply kd_ | apply ka_)); exact B1.out), (by (with_reducible repeat (first | apply kn_ | apply kd_ | apply ka_)); exact B9.out), (by repeat (first | (with_reducible first | exact HB.out | apply ba_ | apply bn_ | apply bd_ | refine bs_ ?_ Dp.out | refine bs_ ?_ Dw.out | refine bs_ ?_ E9.out) | exact HB.out))⟩)
             ·skip
              obtain ⟨Ly, Lz, M0⟩ := Kd.R_slice Dv.out
              (first | subst M0 | (injection M0 with f1_ f2_ f3_; have Ey := f1_.symm; have Ez := f3_.symm; clear f1_ f2_ f3_; subst Ey; subst Ez))
              refine Kd.N_lit_step (Kd.slice 45 k45) _ 42 ?hg (N' := 61) ?hd (xs := ([D9, []] : List (List (S45)))) (inner := [.slice Ly D9.length Lz, .slice none 0 0]) (ok := (fun k_ => some k_ ≠ (.slice D3 Bg.length D4 : Value).ownBlock ∧ some k_ ≠ (.slice Be B2.length Bf : Value).ownBlock ∧ some k_ ≠ (.slice (some Bh) B0.length Bi : Value).ownBlock ∧ some k_ ≠ (.slice Be B2.length Bf : Value).ownBlock ∧ some k_ ≠ (.slice (some Bh) B0.length Bi : Value).ownBlock ∧ k_ ≠ B5 ∧ k_ ≠ B7 ∧ k_ ≠ B8)) (okp := (fun k_ => some k_ ≠ (.slice D3 Bg.length D4 : Value).ownBlock ∧ some k_ ≠ (.slice Be B2.length Bf : Value).ownBlock ∧ some k_ ≠ (.slice (some Bh) B0.length Bi : Value).ownBlock ∧ some k_ ≠ (.slice Be B2.length Bf : Value).ownBlock ∧ some k_ ≠ (.slice (some Bh) B0.length Bi : Value).ownBlock ∧ k_ ≠ B5 ∧ k_ ≠ B7 ∧ k_ ≠ B8)) ?hr ?hp (fun _ hk => hk) ((show ∀ k_, w65.heap.size ≤ k_ → (fun k_ => some k_ ≠ (.slice D3 Bg.length D4 : Value).ownBlock ∧ some k_ ≠ (.slice Be B2.length Bf : Value).ownBlock ∧ some k_ ≠ (.slice (some Bh) B0.length Bi : Value).ownBlock ∧ some k_ ≠ (.slice Be B2.length Bf : Value).ownBlock ∧ some k_ ≠ (.slice (some Bh) B0.length Bi : Value).ownBlock ∧ k_ ≠ B5 ∧ k_ ≠ B7 ∧ k_ ≠ B8) k_ from fun k_ hk => ⟨Kd.fresh' (Kd.R_lt (by (with_reducible repeat (first | apply Kd.R_alloc | apply Kd.R_drewN | apply Kd.R_drew)); exact B6.out)) k_ hk, Kd.fresh' (Kd.R_lt (by (with_reducible repeat (first | apply Kd.R_alloc | apply Kd.R_drewN | apply Kd.R_drew)); exact Bb.out)) k_ hk, Kd.fresh' (Kd.N_lt (by (with_reducible repeat (first | apply Kd.N_alloc | apply Kd.N_drewN | apply Kd.N_drew)); exact B4.out)) k_ hk, Kd.fresh' (Kd.R_lt (by (with_reducible repeat (first | apply Kd.R_alloc | apply Kd.R_drewN | apply Kd.R_drew)); exact Bc.out)) k_ hk, Kd.fresh' (Kd.N_lt (by (with_reducible repeat (first | apply Kd.N_alloc | apply Kd.N_drewN | apply Kd.N_drew)); exact Bd.out)) k_ hk, Kd.freshB (g := B5) (o := .cells #[.int .i64 Bo, .int .i64 Bp, .int .i64 Bq, .int .i64 Br, .int .i64 Bs, .int .i64 Bt, .int .i64 Bu, .int .i64 Bv, .int .i64 Bw, .int .i64 Bx, .slice D3 Bg.length D4] 24 (0, 0)) (by (with_reducible repeat (first | apply kn_ | apply kd_ | apply ka_)); exact Ba.out) k_ hk, Kd.freshB (g := B7) (o := .cells #[.int .i64 Bm, .string Bj, .slice Be B2.length Bf, .slice (some Bh) B0.length Bi] 32 (0, 0)) (by (with_reducible repeat (first | apply kn_ | apply kd_ | apply ka_)); exact B1.out) k_ hk, Kd.freshB (g := B8) (o := .cells #[.int .i64 8, .string Bj, .slice Be B2.length Bf, .slice (some Bh) B0.length Bi] 32 (0, 0)) (by (with_reducible repeat (first | apply kn_ | apply kd_ | apply ka_)); exact B9.out) k_ hk⟩) _ (Nat.le_refl _)) (Below.refl _ _) (Nat.le_refl _) (by simp) ?_; (case hd => rfl); (case hg => rfl); (case hr => first | (go_simp; done) | (go_simp; rfl)); (case hp => exact (Reps.one (show Kd.FK (Kd.slice 45 k45) _ _ D9 [.slice Ly D9.length Lz] from (Kd.FK_slice_mk (Kd.R_reads' (Kd.R_mono (ok' := (fun k_ => some k_ ≠ (.slice D3 Bg.length D4 : Value).ownBlock ∧ some k_ ≠ (.slice Be B2.length Bf : Value).ownBlock ∧ some k_ ≠ (.slice (some Bh) B0.length Bi : Value).ownBlock ∧ some k_ ≠ (.slice Be B2.length Bf : Value).ownBlock ∧ some k_ ≠ (.slice (some Bh) B0.length Bi : Value).ownBlock ∧ k_ ≠ B5 ∧ k_ ≠ B7 ∧ k_ ≠ B8)) (Kd.R_types (Kd.R_types (Kd.R_types (Kd.R_apart' (Kd.R_apart' (Kd.R_apart' (Kd.R_apart' (Kd.R_apart' (Dv.out) (Kd.R_typed B6.out) (by decide)) (Kd.R_typed Bb.out) (by decide)) (Kd.N_typed B4.out) (by decide)) (Kd.R_typed Bc.out) (by decide)) (Kd.N_typed Bd.out) (by decide)) Ba.out (by decide)) B1.out (by decide)) B9.out (by decide)) (fun k_ hk => ⟨hk.1.1.1.1.1.1.1.2, ⟨hk.1.1.1.1.1.1.2, ⟨hk.1.1.1.1.1.2, ⟨hk.1.1.1.1.2, ⟨hk.1.1.1.2, ⟨hk.1.1.2, ⟨hk.1.2, hk.2⟩⟩⟩⟩⟩⟩⟩))).2.1 (Kd.R_F (Kd.R_mono (ok' := (fun k_ => some k_ ≠ (.slice D3 Bg.length D4 : Value).ownBlock ∧ some k_ ≠ (.slice Be B2.length Bf : Value).ownBlock ∧ some k_ ≠ (.slice (some Bh) B0.length Bi : Value).ownBlock ∧ some k_ ≠ (.slice Be B2.length Bf : Value).ownBlock ∧ some k_ ≠ (.slice (some Bh) B0.length Bi : Value).ownBlock ∧ k_ ≠ B5 ∧ k_ ≠ B7 ∧ k_ ≠ B8)) (Kd.R_types (Kd.R_types (Kd.R_types (Kd.R_apart' (Kd.R_apart' (Kd.R_apart' (Kd.R_apart' (Kd.R_apart' (Dv.out) (Kd.R_typed B6.out) (by decide)) (Kd.R_typed Bb.out) (by decide)) (Kd.N_typed B4.out) (by decide)) (Kd.R_typed Bc.out) (by decide)) (Kd.N_typed Bd.out) (by decide)) Ba.out (by decide)) B1.out (by decide)) B9.out (by decide)) (fun k_ hk => ⟨hk.1.1.1.1.1.1.1.2, ⟨hk.1.1.1.1.1.1.2, ⟨hk.1.1.1.1.1.2, ⟨hk.1.1.1.1.2, ⟨hk.1.1.1.2, ⟨hk.1.1.2, ⟨hk.1.2, hk.2⟩⟩⟩⟩⟩⟩⟩))))) (Reps.one (show Kd.FK (Kd.slice 45 k45) _ _ [] [.slice none 0 0] from (Kd.FK_slice_mk (Nat.le_refl _) (Kd.F_nil _ _ _))) (Reps.none _ _))))
              intro v449 w67 F0 hb hg_ hnew_
              have Db := (hb.cell (World.block_lt_of_cell? _ _ (hHeld.2.2.2.2.2.2.2.2.2.2.2.2.2.2.2.2.2.2.2.1))).trans (hHeld.2.2.2.2.2.2.2.2.2.2.2.2.2.2.2.2.2.2.2.1)
              have Dc := (hb.cell (World.block_lt_of_cell? _ _ (hHeld.2.2.2.2.2.2.2.2.2.2.2.2.2.2.2.2.2.2.2.2))).trans (hHeld.2.2.2.2.2.2.2.2.2.2.2.2.2.2.2.2.2.2.2.2)
              clear hg_ hnew_
              (first | rw [← Fh.out] at F0 | (simp only [Int.reduceToNat] at F0; rw [← Fh.out] at F0))
              replace B6 := am_ (Kd.R_below B6.out hb)
              replace Bb := am_ (Kd.R_below Bb.out hb)
              replace B4 := am_ (Kd.N_elder' (by (with_reducible repeat (first | apply Kd.N_alloc | apply Kd.N_drewN | apply Kd.N_drew)); exact B4.out) (Kd.N_base F0) hb)
              replace Bc := am_ (Kd.R_below Bc.out hb)
              replace Bd := am_ (Kd.N_elder' (by (with_reducible repeat (first | apply Kd.N_alloc | apply Kd.N_drewN | apply Kd.N_drew)); exact Bd.out) (Kd.N_base F0) hb)
              replace Bk := am_ (Kd.V_elder' (by (with_reducible repeat (first | apply Kd.V_alloc | apply Kd.V_drewN | apply Kd.V_drew)); exact Bk.out) (Kd.N_base F0) hb)
              replace Bl := am_ (Kd.V_elder' (by (with_reducible repeat (first | apply Kd.V_alloc | apply Kd.V_drewN | apply Kd.V_drew)); exact Bl.out) (Kd.N_base F0) hb)
              have D2 := am_ (Kd.N_lower F0 (below_size HB.out))
              replace Ba := bkb_ Ba hb
              replace B1 := bkb_ B1 hb
              replace B9 := bkb_ B9 hb
              replace D6 := am_ (Kd.C_below (by repeat (first | (with_reducible exact D6.out) | (with_reducible refine Kd.C_alloc ?_ _) | (with_reducible refine Kd.C_drewN ?_ _) | (with_reducible refine Kd.C_drew ?_) | exact D6.out)) hb)
              replace D7 := am_ (Kd.C_below (by repeat (first | (with_reducible exact D7.out) | (with_reducible refine Kd.C_alloc ?_ _) | (with_reducible refine Kd.C_drewN ?_ _) | (with_reducible refine Kd.C_drew ?_) | exact D7.out)) hb)
              replace HB := bst_ HB hb
              clear Dv
              clear hb F0
              obtain ⟨Ek, El, G5⟩ := Kd.N_slice D2.out
              (first | subst G5 | (injection G5 with f1_ f2_ f3_; have Ey := f1_.symm; have Ez := f3_.symm; clear f1_ f2_ f3_; subst Ey; subst Ez))
              refine hK.out _ _ ⟨(blk_cell B1.out 0).trans rfl, (blk_cell B1.out 1).trans rfl, (blk_cell B1.out 2).trans rfl, (blk_cell B1.out 3).trans rfl, (and_11 Ba.out ⟨(blk_cell B9.out 0).trans rfl, (blk_cell B9.out 1).trans rfl, (blk_cell B9.out 2).trans rfl, (blk_cell B9.out 3).trans rfl, Db, Dc⟩)⟩ (fun hHeld => ?_)
              clear hK K
              refine nor_ 61 ?_
              refine pur_ 21 (some 62) rfl rfl (any_of HT_.out (by kernel_rfl)) ?_
              refine oon_ 17 (some 58) rfl rfl (one_of HT_.out (by kernel_rfl)) (fun K hK => ?_)
              refine Kd.N_lit_step (Kd.slice 45 k45) _ 42 ?hg (N' := 58) ?hd (xs := ([rd_L3 B0 1, rd_L3 B0 3] : List (List (S45)))) (inner := [.slice Dl (rd_L3 B0 1).length Dm, .slice Dn (rd_L3 B0 3).length Do]) (ok := (fun k_ => some k_ ≠ (.slice D3 Bg.length D4 : Value).ownBlock ∧ some k_ ≠ (.slice Be B2.length Bf : Value).ownBlock ∧ some k_ ≠ (.slice (some Bh) B0.length Bi : Value).ownBlock ∧ some k_ ≠ (.slice Be B2.length Bf : Value).ownBlock ∧ some k_ ≠ (.slice Ek y448.length El : Value).ownBlock ∧ k_ ≠ B5 ∧ k_ ≠ B7 ∧ k_ ≠ B8)) (okp := (fun k_ => some k_ ≠ (.slice D3 Bg.length D4 : Value).ownBlock ∧ some k_ ≠ (.slice Be B2.length Bf : Value).ownBlock ∧ some k_ ≠ (.slice (some Bh) B0.length Bi : Value).ownBlock ∧ some k_ ≠ (.slice Be B2.length Bf : Value).ownBlock ∧ some k_ ≠ (.slice Ek y448.length El : Value).ownBlock ∧ k_ ≠ B5 ∧ k_ ≠ B7 ∧ k_ ≠ B8)) ?hr ?hp (fun _ hk => hk) ((show ∀ k_, w67.heap.size ≤ k_ → (fun k_ => some k_ ≠ (.slice D3 Bg.length D4 : Value).ownBlock ∧ some k_ ≠ (.slice Be B2.length Bf : Value).ownBlock ∧ some k_ ≠ (.slice (some Bh) B0.length Bi : Value).ownBlock ∧ some k_ ≠ (.slice Be B2.length Bf : Value).ownBlock ∧ some k_ ≠ (.slice Ek y448.length El : Value).ownBlock ∧ k_ ≠ B5 ∧ k_ ≠ B7 ∧ k_ ≠ B8) k_ from fun k_ hk => ⟨Kd.fresh' (Kd.R_lt (by (with_reducible repeat (first | apply Kd.R_alloc | apply Kd.R_drewN | apply Kd.R_drew)); exact B6.out)) k_ hk, Kd.fresh' (Kd.R_lt (by (with_reducible repeat (first | apply Kd.R_alloc | apply Kd.R_drewN | apply Kd.R_drew)); exact Bb.out)) k_ hk, Kd.fresh' (Kd.N_lt (by (with_reducible repeat (first | apply Kd.N_alloc | apply Kd.N_drewN | apply Kd.N_drew)); exact B4.out)) k_ hk, Kd.fresh' (Kd.R_lt (by (with_reducible repeat (first | apply Kd.R_alloc | apply Kd.R_drewN | apply Kd.R_drew)); exact Bc.out)) k_ hk, Kd.fresh' (Kd.N_lt (by (with_reducible repeat (first | apply Kd.N_alloc | apply Kd.N_drewN | apply Kd.N_drew)); exact D2.out)) k_ hk, Kd.freshB (g := B5) (o := .cells #[.int .i64 Bo, .int .i64 Bp, .int .i64 Bq, .int .i64 Br, .int .i64 Bs, .int .i64 Bt, .int .i64 Bu, .int .i64 Bv, .int .i64 Bw, .int .i64 Bx, .slice D3 Bg.length D4] 24 (0, 0)) (by (with_reducible repeat (first | apply kn_ | apply kd_ | apply ka_)); exact Ba.out) k_ hk, Kd.freshB (g := B7) (o := .cells #[.int .i64 Bm, .string Bj, .slice Be B2.length Bf, .slice (some Bh) B0.length Bi] 32 (0, 0)) (by (with_reducible repeat (first | apply kn_ | apply kd_ | apply ka_)); exact B1.out) k_ hk, Kd.freshB (g := B8) (o := .cells #[.int .i64 8, .string Bj, .slice Be B2.length Bf, .slice (some Bh) B0.length Bi] 32 (0, 0)) (by (with_reducible repeat (first | apply kn_ | apply kd_ | apply ka_)); exact B9.out) k_ hk⟩) _ (Nat.le_refl _)) (Below.refl _ _) (Nat.le_refl _) (by simp) ?_; (case hd => rfl); (case hg => rfl); (case hr => first | (go_simp; done) | (go_simp; rfl)); (case hp => exact (Reps.one (show Kd.FK (Kd.slice 45 k45) _ _ (rd_L3 B0 1) [.slice Dl (rd_L3 B0 1).length Dm] from (Kd.FK_slice_mk (Kd.V_reads' (Kd.V_mono (ok' := (fun k_ => some k_ ≠ (.slice D3 Bg.length D4 : Value).ownBlock ∧ some k_ ≠ (.slice Be B2.length Bf : Value).ownBlock ∧ some k_ ≠ (.slice (some Bh) B0.length Bi : Value).ownBlock ∧ some k_ ≠ (.slice Be B2.length Bf : Value).ownBlock ∧ some k_ ≠ (.slice Ek y448.length El : Value).ownBlock ∧ k_ ≠ B5 ∧ k_ ≠ B7 ∧ k_ ≠ B8)) (Bk.out) (fun k_ hk => ⟨hk.1.1.2.1, ⟨hk.1.1.2.2.1, ⟨hk.1.2, ⟨hk.1.1.2.2.2.1, ⟨hk.2, ⟨hk.1.1.2.2.2.2.1, ⟨hk.1.1.2.2.2.2.2.1, hk.1.1.2.2.2.2.2.2⟩⟩⟩⟩⟩⟩⟩))).2.1 (Kd.V_F (Kd.V_mono (ok' := (fun k_ => some k_ ≠ (.slice D3 Bg.length D4 : Value).ownBlock ∧ some k_ ≠ (.slice Be B2.length Bf : Value).ownBlock ∧ some k_ ≠ (.slice (some Bh) B0.length Bi : Value).ownBlock ∧ some k_ ≠ (.slice Be B2.length Bf : Value).ownBlock ∧ some k_ ≠ (.slice Ek y448.length El : Value).ownBlock ∧ k_ ≠ B5 ∧ k_ ≠ B7 ∧ k_ ≠ B8)) (Bk.out) (fun k_ hk => ⟨hk.1.1.2.1, ⟨hk.1.1.2.2.1, ⟨hk.1.2, ⟨hk.1.1.2.2.2.1, ⟨hk.2, ⟨hk.1.1.2.2.2.2.1, ⟨hk.1.1.2.2.2.2.2.1, hk.1.1.2.2.2.2.2.2⟩⟩⟩⟩⟩⟩⟩))))) (Reps.one (show Kd.FK (Kd.slice 45 k45) _ _ (rd_L3 B0 3) [.slice Dn (rd_L3 B0 3).length Do] from (Kd.FK_slice_mk (Kd.V_reads' (Kd.V_mono (ok' := (fun k_ => some k_ ≠ (.slice D3 Bg.length D4 : Value).ownBlock ∧ some k_ ≠ (.slice Be B2.length Bf : Value).ownBlock ∧ some k_ ≠ (.slice (some Bh) B0.length Bi : Value).ownBlock ∧ some k_ ≠ (.slice Be B2.length Bf : Value).ownBlock ∧ some k_ ≠ (.slice Ek y448.length El : Value).ownBlock ∧ k_ ≠ B5 ∧ k_ ≠ B7 ∧ k_ ≠ B8)) (Bl.out) (fun k_ hk => ⟨hk.1.1.2.1, ⟨hk.1.1.2.2.1, ⟨hk.1.2, ⟨hk.1.1.2.2.2.1, ⟨hk.2, ⟨hk.1.1.2.2.2.2.1, ⟨hk.1.1.2.2.2.2.2.1, hk.1.1.2.2.2.2.2.2⟩⟩⟩⟩⟩⟩⟩))).2.1 (Kd.V_F (Kd.V_mono (ok' := (fun k_ => some k_ ≠ (.slice D3 Bg.length D4 : Value).ownBlock ∧ some k_ ≠ (.slice Be B2.length Bf : Value).ownBlock ∧ some k_ ≠ (.slice (some Bh) B0.length Bi : Value).ownBlock ∧ some k_ ≠ (.slice Be B2.length Bf : Value).ownBlock ∧ some k_ ≠ (.slice Ek y448.length El : Value).ownBlock ∧ k_ ≠ B5 ∧ k_ ≠ B7 ∧ k_ ≠ B8)) (Bl.out) (fun k_ hk => ⟨hk.1.1.2.1, ⟨hk.1.1.2.2.1, ⟨hk.1.2, ⟨hk.1.1.2.2.2.1, ⟨hk.2, ⟨hk.1.1.2.2.2.2.1, ⟨hk.1.1.2.2.2.2.2.1, hk.1.1.2.2.2.2.2.2⟩⟩⟩⟩⟩⟩⟩))))) (Reps.none _ _))))
              intro v446 w70 Di hb hg_ hnew_
              have Db := (hb.cell (World.block_lt_of_cell? _ _ (hHeld.2.2.2.2.2.2.2.2.2.2.2.2.2.2.2.2.2.2.2.1))).trans (hHeld.2.2.2.2.2.2.2.2.2.2.2.2.2.2.2.2.2.2.2.1)
              have Dc := (hb.cell (World.block_lt_of_cell? _ _ (hHeld.2.2.2.2.2.2.2.2.2.2.2.2.2.2.2.2.2.2.2.2))).trans (hHeld.2.2.2.2.2.2.2.2.2.2.2.2.2.2.2.2.2.2.2.2)
              clear hg_ hnew_
              (first | rw [← Fg.out] at Di | (simp only [Int.reduceToNat] at Di; rw [← Fg.out] at Di))
              replace B6 := am_ (Kd.R_below B6.out hb)
              replace Bb := am_ (Kd.R_below Bb.out hb)
              replace B4 := am_ (Kd.N_elder' (by (with_reducible repeat (first | apply Kd.N_alloc | apply Kd.N_drewN | apply Kd.N_drew)); exact B4.out) (Kd.N_base Di) hb)
              replace Bc := am_ (Kd.R_below Bc.out hb)
              replace Bd := am_ (Kd.N_elder' (by (with_reducible repeat (first | apply Kd.N_alloc | apply Kd.N_drewN | apply Kd.N_drew)); exact Bd.out) (Kd.N_base Di) hb)
              replace Bk := am_ (Kd.V_elder' (by (with_reducible repeat (first | apply Kd.V_alloc | apply Kd.V_drewN | apply Kd.V_drew)); exact Bk.out) (Kd.N_base Di) hb)
              replace Bl := am_ (Kd.V_elder' (by (with_reducible repeat (first | apply Kd.V_alloc | apply Kd.V_drewN | apply Kd.V_drew)); exact Bl.out) (Kd.N_base Di) hb)
              replace D2 := am_ (Kd.N_elder' (by (with_reducible repeat (first | apply Kd.N_alloc | apply Kd.N_drewN | apply Kd.N_drew)); exact D2.out) (Kd.N_base Di) hb)
              have D1 := am_ (Kd.N_lower Di (below_size HB.out))
              replace Ba := bkb_ Ba hb
              replace B1 := bkb_ B1 hb
              replace B9 := bkb_ B9 hb
              replace D6 := am_ (Kd.C_below (by repeat (first | (with_reducible exact D6.out) | (with_reducible refine Kd.C_alloc ?_ _) | (with_reducible refine Kd.C_drewN ?_ _) | (with_reducible refine Kd.C_drew ?_) | exact D6.out)) hb)
              replace D7 := am_ (Kd.C_below (by repeat (first | (with_reducible exact D7.out) | (with_reducible refine Kd.C_alloc ?_ _) | (with_reducible refine Kd.C_drewN ?_ _) | (with_reducible refine Kd.C_drew ?_) | exact D7.out)) hb)
              replace HB := bst_ HB hb
              clear hb Di
              obtain ⟨L0, L1, G6⟩ := Kd.N_slice D1.out
              (first | subst G6 | (injection G6 with f1_ f2_ f3_; have Ey := f1_.symm; have Ez := f3_.symm; clear f1_ f2_ f3_; subst Ey; subst Ez))
              refine hK.out _ _ ⟨(blk_cell B1.out 0).trans rfl, (blk_cell B1.out 1).trans rfl, (blk_cell B1.out 2).trans rfl, (blk_cell B1.out 3).trans rfl, (and_11 Ba.out ⟨(blk_cell B9.out 0).trans rfl, (blk_cell B9.out 1).trans rfl, (blk_cell B9.out 2).trans rfl, (blk_cell B9.out 3).trans rfl, Db, Dc⟩)⟩ (fun hHeld => ?_)
              clear hK K
              refine nor_ 58 ?_
              refine pur_ 18 (some 59) rfl rfl (any_of HT_.out (by kernel_rfl)) ?_
              exact norm_ (by simp only [putAll, Act.put, zs_]) (hCont (.slice L0 y445.length L1, .slice Ek y448.length El) _ ⟨hHeld, (by (with_reducible repeat (first | apply Kd.V_alloc | apply Kd.V_drewN | apply Kd.V_drew)); exact Kd.V_mono Bk.out (fun _ hk => ⟨hk.2, ⟨hk.1.2, ⟨hk.1.1.1.2.1, ⟨hk.1.1.1.2.2.1, ⟨hk.1.1.2, ⟨hk.1.1.1.2.2.2.1, ⟨hk.1.1.1.2.2.2.2.1, ⟨hk.1.1.1.2.2.2.2.2.1, hk.1.1.1.2.2.2.2.2.2⟩⟩⟩⟩⟩⟩⟩⟩)), (by (with_reducible repeat (first | apply Kd.V_alloc | apply Kd.V_drewN | apply Kd.V_drew)); exact Kd.V_mono Bl.out (fun _ hk => ⟨hk.2, ⟨hk.1.2, ⟨hk.1.1.1.2.1, ⟨hk.1.1.1.2.2.1, ⟨hk.1.1.2, ⟨hk.1.1.1.2.2.2.1, ⟨hk.1.1.1.2.2.2.2.1, ⟨hk.1.1.1.2.2.2.2.2.1, hk.1.1.1.2.2.2.2.2.2⟩⟩⟩⟩⟩⟩⟩⟩)), (by (with_reducible repeat (first | apply Kd.N_alloc | apply Kd.N_drewN | apply Kd.N_drew)); exact Kd.N_mono D1.out (fun _ hk => ⟨hk.2.2.2.2.1, ⟨hk.1, ⟨hk.2.1, ⟨hk.2.2.1, ⟨hk.2.2.2.1, ⟨hk.2.2.2.2.2.1, ⟨hk.2.2.2.2.2.2.1, hk.2.2.2.2.2.2.2⟩⟩⟩⟩⟩⟩⟩)), (by (with_reducible repeat (first | apply Kd.N_alloc | apply Kd.N_drewN | apply Kd.N_drew)); exact Kd.N_mono D2.out (fun _ hk => ⟨hk.2, ⟨hk.1.1, ⟨hk.1.2.1, ⟨hk.1.2.2.1, ⟨hk.1.2.2.2.1, ⟨hk.1.2.2.2.2.1, ⟨hk.1.2.2.2.2.2.1, ⟨hk.1.2.2.2.2.2.2.1, hk.1.2.2.2.2.2.2.2⟩⟩⟩⟩⟩⟩⟩⟩)), (by (with_reducible repeat (first | apply Kd.R_alloc | apply Kd.R_drewN | apply Kd.R_drew)); exact B6.out), (by (with_reducible repeat (first | apply Kd.R_alloc | apply Kd.R_drewN | apply Kd.R_drew)); exact Bb.out), (by (with_reducible repeat (first | apply Kd.N_alloc | apply Kd.N_drewN | apply Kd.N_drew)); exact Kd.N_mono B4.out (fun _ hk => ⟨hk.2, ⟨hk.1.2, ⟨hk.1.1.2.1, ⟨hk.1.1.2.2.1, ⟨hk.1.1.2.2.2.1, ⟨hk.1.1.2.2.2.2.1, ⟨hk.1.1.2.2.2.2.2.1, hk.1.1.2.2.2.2.2.2⟩⟩⟩⟩⟩⟩⟩)), (by (with_reducible repeat (first | apply Kd.R_alloc | apply Kd.R_drewN | apply Kd.R_drew)); exact Bc.out), (by (with_reducible repeat (first | apply Kd.N_alloc | apply Kd.N_drewN | apply Kd.N_drew)); exact Kd.N_mono Bd.out (fun _ hk => ⟨hk.2, ⟨hk.1.2, ⟨hk.1.1.2.1, ⟨hk.1.1.2.2.1, ⟨hk.1.1.2.2.2.1, ⟨hk.1.1.2.2.2.2.1, ⟨hk.1.1.2.2.2.2.2.1, hk.1.1.2.2.2.2.2.2⟩⟩⟩⟩⟩⟩⟩)), (by (with_reducible repeat (first | apply kn_ | apply kd_ | apply ka_)); exact Ba.out), (by (with_reducible repeat (first | apply kn_ | apply kd_ | apply ka_)); exact B1.out), (by (with_reducible repeat (first | apply kn_ | apply kd_ | apply ka_)); exact B9.out), (by repeat (first | (with_reducible first | exact HB.out | apply ba_ | apply bn_ | apply bd_ | refine bs_ ?_ Dp.out | refine bs_ ?_ Dw.out | refine bs_ ?_ E9.out) | exact HB.out))⟩)
            rintro ⟨v446, v449⟩ w73 ⟨hS_, R6, R7, R8, R9, Ra, Rb, Rc, Rd, Re, Rf, M1, M2, M3⟩
            have F8 : Aside0 (Kd.V k45 45 w73 w.heap.size (fun k_ => some k_ ≠ (v446 : Value).ownBlock ∧ some k_ ≠ (v449 : Value).ownBlock ∧ some k_ ≠ (.slice D3 Bg.length D4 : Value).ownBlock ∧ some k_ ≠ (.slice Be B2.length Bf : Value).ownBlock ∧ some k_ ≠ (.slice (some Bh) B0.length Bi : Value).ownBlock ∧ some k_ ≠ (.slice Be B2.length Bf : Value).ownBlock ∧ k_ ≠ B5 ∧ k_ ≠ B7 ∧ k_ ≠ B8) (.slice Dl (rd_L3 B0 1).length Dm) (rd_L3 B0 1)) := ⟨R6⟩
            have F9 : Aside0 (Kd.V k45 45 w73 w.heap.size (fun k_ => some k_ ≠ (v446 : Value).ownBlock ∧ some k_ ≠ (v449 : Value).ownBlock ∧ some k_ ≠ (.slice D3 Bg.length D4 : Value).ownBlock ∧ some k_ ≠ (.slice Be B2.length Bf : Value).ownBlock ∧ some k_ ≠ (.slice (some Bh) B0.length Bi : Value).ownBlock ∧ some k_ ≠ (.slice Be B2.length Bf : Value).ownBlock ∧ k_ ≠ B5 ∧ k_ ≠ B7 ∧ k_ ≠ B8) (.slice Dn (rd_L3 B0 3).length Do) (rd_L3 B0 3)) := ⟨R7⟩
            have Fa : Aside0 (Kd.N (Kd.slice 45 k45) 42 w73 w.heap.size (fun k_ => some k_ ≠ (v449 : Value).ownBlock ∧ some k_ ≠ (.slice D3 Bg.length D4 : Value).ownBlock ∧ some k_ ≠ (.slice Be B2.length Bf : Value).ownBlock ∧ some k_ ≠ (.slice (some Bh) B0.length Bi : Value).ownBlock ∧ some k_ ≠ (.slice Be B2.length Bf : Value).ownBlock ∧ k_ ≠ B5 ∧ k_ ≠ B7 ∧ k_ ≠ B8) v446 y445) := ⟨R8⟩
            have Ft : Aside0 (Kd.N (Kd.slice 45 k45) 42 w73 w.heap.size (fun k_ => some k_ ≠ (v446 : Value).ownBlock ∧ some k_ ≠ (.slice D3 Bg.length D4 : Value).ownBlock ∧ some k_ ≠ (.slice Be B2.length Bf : Value).ownBlock ∧ some k_ ≠ (.slice (some Bh) B0.length Bi : Value).ownBlock ∧ some k_ ≠ (.slice Be B2.length Bf : Value).ownBlock ∧ some k_ ≠ (.slice (some Bh) B0.length Bi : Value).ownBlock ∧ k_ ≠ B5 ∧ k_ ≠ B7 ∧ k_ ≠ B8) v449 y448) := ⟨R9⟩
            have Fu : Aside0 (Kd.R (Kd.int .i64) 3 w73 w.heap.size (fun _ => True) (.slice D3 Bg.length D4) Bg) := ⟨Ra⟩
            have Fv : Aside0 (Kd.R Kd.string 9 w73 w.heap.size (fun _ => True) (.slice Be B2.length Bf) B2) := ⟨Rb⟩
            have Fw : Aside0 (Kd.N (Kd.slice 45 k45) 42 w73 w.heap.size (fun k_ => some k_ ≠ (v446 : Value).ownBlock ∧ some k_ ≠ (v449 : Value).ownBlock ∧ some k_ ≠ (.slice D3 Bg.length D4 : Value).ownBlock ∧ some k_ ≠ (.slice Be B2.length Bf : Value).ownBlock ∧ some k_ ≠ (.slice Be B2.length Bf : Value).ownBlock ∧ k_ ≠ B5 ∧ k_ ≠ B7 ∧ k_ ≠ B8) (.slice (some Bh) B0.length Bi) B0) := ⟨Rc⟩
            have Fx : Aside0 (Kd.R Kd.string 9 w73 w.heap.size (fun _ => True) (.slice Be B2.length Bf) B2) := ⟨Rd⟩
            have Fy : Aside0 (Kd.N (Kd.slice 45 k45) 42 w73 w.heap.size (fun k_ => some k_ ≠ (v446 : Value).ownBlock ∧ some k_ ≠ (v449 : Value).ownBlock ∧ some k_ ≠ (.slice D3 Bg.length D4 : Value).ownBlock ∧ some k_ ≠ (.slice Be B2.length Bf : Value).ownBlock ∧ some k_ ≠ (.slice Be B2.length Bf : Value).ownBlock ∧ k_ ≠ B5 ∧ k_ ≠ B7 ∧ k_ ≠ B8) (.slice (some Bh) B0.length Bi) B0) := ⟨Re⟩
            have Jd : Aside0 (w73.heap[B5]? = some (.cells #[.int .i64 Bo, .int .i64 Bp, .int .i64 Bq, .int .i64 Br, .int .i64 Bs, .int .i64 Bt, .int .i64 Bu, .int .i64 Bv, .int .i64 Bw, .int .i64 Bx, .slice D3 Bg.length D4] 24 (0, 0))) := ⟨Rf⟩
            have F1 : Aside0 (w73.heap[B7]? = some (.cells #[.int .i64 Bm, .string Bj, .slice Be B2.length Bf, .slice (some Bh) B0.length Bi] 32 (0, 0))) := ⟨M1⟩
            have M4 : Aside0 (w73.heap[B8]? = some (.cells #[.int .i64 8, .string Bj, .slice Be B2.length Bf, .slice (some Bh) B0.length Bi] 32 (0, 0))) := ⟨M2⟩
            have M5 : Aside0 (Below w.heap.size w w73) := ⟨M3⟩
            clear Dv
            clear B6
            clear Bb
            clear B4
            clear Bc
            clear Bd
            clear Ba
            clear B1
            clear B9
            clear HB
            clear R6 R7 R8 R9 Ra Rb Rc Rd Re Rf M1 M2 M3
            have Bk := F8
            have Bl := F9
            have D1 := Fa
            have D2 := Ft
            have B6 := Fu
            have Bb := Fv
            have B4 := Fw
            have Bc := Fx
            have Bd := Fy
            have Ba := Jd
            have B1 := F1
            have B9 := M4
            have HB := M5
            clear F8 F9 Fa Ft Fu Fv Fw Fx Fy Jd F1 M4 M5
            have hHeld : ce_ w73 B7 0 (.int .i64 Bm) ∧ ce_ w73 B7 1 (.string Bj) ∧ ce_ w73 B7 2 (.slice Be B2.length Bf) ∧ ce_ w73 B7 3 (.slice (some Bh) B0.length Bi) ∧ ce_ w73 B5 0 (.int .i64 Bo) ∧ ce_ w73 B5 1 (.int .i64 Bp) ∧ ce_ w73 B5 2 (.int .i64 Bq) ∧ ce_ w73 B5 3 (.int .i64 Br) ∧ ce_ w73 B5 4 (.int .i64 Bs) ∧ ce_ w73 B5 5 (.int .i64 Bt) ∧ ce_ w73 B5 6 (.int .i64 Bu) ∧ ce_ w73 B5 7 (.int .i64 Bv) ∧ ce_ w73 B5 8 (.int .i64 Bw) ∧ ce_ w73 B5 9 (.int .i64 Bx) ∧ ce_ w73 B5 10 (.slice D3 Bg.length D4) ∧ ce_ w73 B8 0 (.int .i64 8) ∧ ce_ w73 B8 1 (.string Bj) ∧ ce_ w73 B8 2 (.slice Be B2.length Bf) ∧ ce_ w73 B8 3 (.slice (some Bh) B0.length Bi) ∧ w73.cell? ⟨Bh.block, Bh.off + 1, none⟩ = some (.slice Dl (rd_L3 B0 1).length Dm) ∧ w73.cell? ⟨Bh.block, Bh.off + 3, none⟩ = some (.slice Dn (rd_L3 B0 3).length Do) := hS_
            obtain ⟨O6, O7, M6⟩ := Kd.N_slice D1.out
            (first | subst M6 | (injection M6 with f1_ f2_ f3_; have Ey := f1_.symm; have Ez := f3_.symm; clear f1_ f2_ f3_; subst Ey; subst Ez))
            obtain ⟨O8, O9, M7⟩ := Kd.N_slice D2.out
            (first | subst M7 | (injection M7 with f1_ f2_ f3_; have Ey := f1_.symm; have Ez := f3_.symm; clear f1_ f2_ f3_; subst Ey; subst Ez))
            refine norm_ (a' := ?_) ?_ ?_
            rotate_left
            ·simp only [putAll, Act.put, zs_]
             rfl
            refine oon_ 22 (some 63) rfl rfl (one_of HT_.out (by kernel_rfl)) (fun K hK => ?_)
            refine goes_ Try.func11 (by kernel_rfl) rfl #[.agg #[.int .i64 0, .string (⟨#[]⟩ : ByteArray), .slice none 0 0, .slice O6 y445.length O7], .agg #[.int .i64 0, .string (⟨#[]⟩ : ByteArray), .slice none 0 0, .slice O8 y448.length O9]] (by rfl) rfl rfl (by (try simp only [ms_]); first | done | rfl) ?_
            refine (r38_Same.calls Em 0 (⟨#[]⟩ : ByteArray) _ _ ([] : List ByteArray) _ _ y445 0 (⟨#[]⟩ : ByteArray) _ _ ([] : List ByteArray) _ _ y448 _ _ ?side1 ?side2 (Kd.N_reads' D1.out).2.2 (Kd.N_reads' D1.out).2.1 ?side5 ?side6 (Kd.N_reads' D2.out).2.2 (Kd.N_reads' D2.out).2.1 Rj.out).mono ?_
            (case side1 => exact Kd.C_nil _ _)
            (case side2 => exact Nat.le_refl _)
            (case side5 => exact Kd.C_nil _ _)
            (case side6 => exact Nat.le_refl _)
            rintro e w76 ⟨rfl, hb⟩
            have Db := (hb.cell (World.block_lt_of_cell? _ _ (hHeld.2.2.2.2.2.2.2.2.2.2.2.2.2.2.2.2.2.2.2.1))).trans (hHeld.2.2.2.2.2.2.2.2.2.2.2.2.2.2.2.2.2.2.2.1)
            have Dc := (hb.cell (World.block_lt_of_cell? _ _ (hHeld.2.2.2.2.2.2.2.2.2.2.2.2.2.2.2.2.2.2.2.2))).trans (hHeld.2.2.2.2.2.2.2.2.2.2.2.2.2.2.2.2.2.2.2.2)
            refine ⟨_, rfl, ?_⟩
            replace B6 := am_ (Kd.R_below B6.out hb)
            replace Bb := am_ (Kd.R_below Bb.out hb)
            replace B4 := am_ (Kd.N_below B4.out hb)
            replace Bc := am_ (Kd.R_below Bc.out hb)
            replace Bd := am_ (Kd.N_below Bd.out hb)
            replace Bk := am_ (Kd.V_below (by (with_reducible repeat (first | apply Kd.V_alloc | apply Kd.V_drewN | apply Kd.V_drew)); exact Bk.out) hb)
            replace Bl := am_ (Kd.V_below (by (with_reducible repeat (first | apply Kd.V_alloc | apply Kd.V_drewN | apply Kd.V_drew)); exact Bl.out) hb)
            replace D1 := am_ (Kd.N_below D1.out hb)
            replace D2 := am_ (Kd.N_below D2.out hb)
            replace Ba := bkb_ Ba hb
            replace B1 := bkb_ B1 hb
            replace B9 := bkb_ B9 hb
            replace HB := bst_ HB hb
            (try clear hb)
            (try clear hb2)
            (try clear hk)
            (try clear hi)
            refine hK.out _ _ ⟨(blk_cell B1.out 0).trans rfl, (blk_cell B1.out 1).trans rfl, (blk_cell B1.out 2).trans rfl, (blk_cell B1.out 3).trans rfl, (and_11 Ba.out ⟨(blk_cell B9.out 0).trans rfl, (blk_cell B9.out 1).trans rfl, (blk_cell B9.out 2).trans rfl, (blk_cell B9.out 3).trans rfl, Db, Dc⟩)⟩ (fun hHeld => ?_)
            clear hK K
            refine nor_ 63 ?_
            refine pur_ 23 (some 64) rfl rfl (any_of HT_.out (by kernel_rfl)) ?_
            refine pur_ 24 (some 65) rfl rfl (any_of HT_.out (by kernel_rfl)) ?_
            refine tak_ 25 (some 66) rfl rfl (take_ofW HT_.out HW_.out (by kernel_rfl)) hHeld ?_ (by rintro w' ⟨s0, s1, s2, s3, s4, s5, s6, s7, s8, s9, s10, s11, s12, s13, s14, s15, s16, s17, s18, s19, s20⟩; (first | (refine load_cells_11 (ty := 24) (x := .tmp 1) (g := B5) ?hlo_ ?hx_ Try.underlying24 ?hd_ ?hi_ s4 s5 s6 s7 s8 s9 s10 s11 s12 s13 s14; (case hlo_ => rfl); (case hx_ => rfl); (case hd_ => rfl); (case hi_ => kernel_rfl)) | (go_simp; with_reducible rfl)))
            refine tak_ 27 (some 68) rfl rfl (take_ofW HT_.out HW_.out (by kernel_rfl)) hHeld ?_ (by rintro w' ⟨s0, s1, s2, s3, s4, s5, s6, s7, s8, s9, s10, s11, s12, s13, s14, s15, s16, s17, s18, s19, s20⟩; (first | (refine load_cells_11 (ty := 24) (x := .tmp 1) (g := B5) ?hlo_ ?hx_ Try.underlying24 ?hd_ ?hi_ s4 s5 s6 s7 s8 s9 s10 s11 s12 s13 s14; (case hlo_ => rfl); (case hx_ => rfl); (case hd_ => rfl); (case hi_ => kernel_rfl)) | (go_simp; with_reducible rfl)))
            refine oon_ 26 (some 67) rfl rfl (one_of HT_.out (by kernel_rfl)) (fun K hK => ?_)
            refine Kd.R_lit_step (Kd.int .i64) _ 3 ?hg (N := 67) ?hd (xs := ([3] : List Int)) (inner := [.int .i64 3]) (ok := fun _ => True) (okp := fun _ => True) ?hr ?hp (fun _ hk => hk) trivial (Below.refl _ _) (Nat.le_refl _) (by simp) ?_; (case hd => rfl); (case hg => rfl); (case hr => first | (go_simp; done) | (go_simp; rfl)); (case hp => exact (Reps.one (show Kd.M (Kd.int .i64) _ _ _ 3 [.int .i64 3] from rfl) (Reps.none _ _)))
            intro v453 w77 Ea hb hg_ hnew_
            have Db := (hb.cell (World.block_lt_of_cell? _ _ (hHeld.2.2.2.2.2.2.2.2.2.2.2.2.2.2.2.2.2.2.2.1))).trans (hHeld.2.2.2.2.2.2.2.2.2.2.2.2.2.2.2.2.2.2.2.1)
            have Dc := (hb.cell (World.block_lt_of_cell? _ _ (hHeld.2.2.2.2.2.2.2.2.2.2.2.2.2.2.2.2.2.2.2.2))).trans (hHeld.2.2.2.2.2.2.2.2.2.2.2.2.2.2.2.2.2.2.2.2)
            clear hg_ hnew_
            (first | rw [← Jk.out] at Ea | (simp only [Int.reduceToNat] at Ea; rw [← Jk.out] at Ea))
            replace Bb := am_ (Kd.R_below Bb.out hb)
            replace B4 := am_ (Kd.N_elder' (by (with_reducible repeat (first | apply Kd.N_alloc | apply Kd.N_drewN | apply Kd.N_drew)); exact B4.out) (Kd.R_base Ea) hb)
            replace Bc := am_ (Kd.R_below Bc.out hb)
            replace Bd := am_ (Kd.N_elder' (by (with_reducible repeat (first | apply Kd.N_alloc | apply Kd.N_drewN | apply Kd.N_drew)); exact Bd.out) (Kd.R_base Ea) hb)
            replace Bk := am_ (Kd.V_elder' (by (with_reducible repeat (first | apply Kd.V_alloc | apply Kd.V_drewN | apply Kd.V_drew)); exact Bk.out) (Kd.R_base Ea) hb)
            replace Bl := am_ (Kd.V_elder' (by (with_reducible repeat (first | apply Kd.V_alloc | apply Kd.V_drewN | apply Kd.V_drew)); exact Bl.out) (Kd.R_base Ea) hb)
            replace D1 := am_ (Kd.N_elder' (by (with_reducible repeat (first | apply Kd.N_alloc | apply Kd.N_drewN | apply Kd.N_drew)); exact D1.out) (Kd.R_base Ea) hb)
            replace D2 := am_ (Kd.N_elder' (by (with_reducible repeat (first | apply Kd.N_alloc | apply Kd.N_drewN | apply Kd.N_drew)); exact D2.out) (Kd.R_base Ea) hb)
            have Dh := am_ (Kd.R_lower (Kd.R_new' Ea (Kd.R_lt (by (with_reducible repeat (first | apply Kd.R_alloc | apply Kd.R_drewN | apply Kd.R_drew)); exact B6.out))) (below_size HB.out))
            replace B6 := am_ (Kd.R_elder' (by (with_reducible repeat (first | apply Kd.R_alloc | apply Kd.R_drewN | apply Kd.R_drew)); exact B6.out) (Kd.R_base Ea) hb)
            replace Ba := bkb_ Ba hb
            replace B1 := bkb_ B1 hb
            replace B9 := bkb_ B9 hb
            replace HB := bst_ HB hb
            clear hb Ea
            obtain ⟨Ro, Rp, M8⟩ := Kd.R_slice Dh.out
            (first | subst M8 | (injection M8 with f1_ f2_ f3_; have Ey := f1_.symm; have Ez := f3_.symm; clear f1_ f2_ f3_; subst Ey; subst Ez))
            refine hK.out _ _ ⟨(blk_cell B1.out 0).trans rfl, (blk_cell B1.out 1).trans rfl, (blk_cell B1.out 2).trans rfl, (blk_cell B1.out 3).trans rfl, (and_11 Ba.out ⟨(blk_cell B9.out 0).trans rfl, (blk_cell B9.out 1).trans rfl, (blk_cell B9.out 2).trans rfl, (blk_cell B9.out 3).trans rfl, Db, Dc⟩)⟩ (fun hHeld => ?_)
            clear hK K
            refine nor_ 67 ?_
            refine oon_ 28 (some 69) rfl rfl (one_of HT_.out (by kernel_rfl)) (fun K hK => ?_)
            refine gos_ Try.func14 (round_Fits.calls Em Bo Bp Bq Br Bs Bt Bu Bv Bw Bx _ _ Bg _ _ y452 Bm Bj _ _ B2 _ _ B0 _ _ (Kd.R_reads' B6.out).2.2 (Kd.R_reads' B6.out).2.1 (Kd.R_reads' Dh.out).2.2 (Kd.R_reads' Dh.out).2.1 (Kd.R_reads' Bb.out).2.2 (Kd.R_reads' Bb.out).2.1 (Kd.N_reads' B4.out).2.2 (Kd.N_reads' B4.out).2.1 Rk.out) ?_
            rintro e w80 ⟨rfl, hb⟩
            have Db := (hb.cell (World.block_lt_of_cell? _ _ (hHeld.2.2.2.2.2.2.2.2.2.2.2.2.2.2.2.2.2.2.2.1))).trans (hHeld.2.2.2.2.2.2.2.2.2.2.2.2.2.2.2.2.2.2.2.1)
            have Dc := (hb.cell (World.block_lt_of_cell? _ _ (hHeld.2.2.2.2.2.2.2.2.2.2.2.2.2.2.2.2.2.2.2.2))).trans (hHeld.2.2.2.2.2.2.2.2.2.2.2.2.2.2.2.2.2.2.2.2)
            refine ⟨_, rfl, ?_⟩
            replace B6 := am_ (Kd.R_below B6.out hb)
            replace Bb := am_ (Kd.R_below Bb.out hb)
            replace B4 := am_ (Kd.N_below B4.out hb)
            replace Bc := am_ (Kd.R_below Bc.out hb)
            replace Bd := am_ (Kd.N_below Bd.out hb)
            replace Bk := am_ (Kd.V_below (by (with_reducible repeat (first | apply Kd.V_alloc | apply Kd.V_drewN | apply Kd.V_drew)); exact Bk.out) hb)
            replace Bl := am_ (Kd.V_below (by (with_reducible repeat (first | apply Kd.V_alloc | apply Kd.V_drewN | apply Kd.V_drew)); exact Bl.out) hb)
            replace D1 := am_ (Kd.N_below D1.out hb)
            replace D2 := am_ (Kd.N_below D2.out hb)
            replace Dh := am_ (Kd.R_below Dh.out hb)
            replace Ba := bkb_ Ba hb
            replace B1 := bkb_ B1 hb
            replace B9 := bkb_ B9 hb
            replace HB := bst_ HB hb
            (try clear hb)
            (try clear hb2)
            (try clear hk)
            (try clear hi)
            refine hK.out _ _ ⟨(blk_cell B1.out 0).trans rfl, (blk_cell B1.out 1).trans rfl, (blk_cell B1.out 2).trans rfl, (blk_cell B1.out 3).trans rfl, (and_11 Ba.out ⟨(blk_cell B9.out 0).trans rfl, (blk_cell B9.out 1).trans rfl, (blk_cell B9.out 2).trans rfl, (blk_cell B9.out 3).trans rfl, Db, Dc⟩)⟩ (fun hHeld => ?_)
            clear hK K
            refine nor_ 69 ?_
            refine pur_ 29 (some 70) rfl rfl (any_of HT_.out (by kernel_rfl)) ?_
            refine pur_ 30 (some 71) rfl rfl (any_of HT_.out (by kernel_rfl)) ?_
            refine pur_ 31 (some 72) rfl rfl (any_of HT_.out (by kernel_rfl)) ?_
            refine tak_ 32 (some 73) rfl rfl (take_ofW HT_.out HW_.out (by kernel_rfl)) hHeld ?_ (by rintro w' ⟨s0, s1, s2, s3, s4, s5, s6, s7, s8, s9, s10, s11, s12, s13, s14, s15, s16, s17, s18, s19, s20⟩; (first | (refine load_cells_11 (ty := 24) (x := .tmp 1) (g := B5) ?hlo_ ?hx_ Try.underlying24 ?hd_ ?hi_ s4 s5 s6 s7 s8 s9 s10 s11 s12 s13 s14; (case hlo_ => rfl); (case hx_ => rfl); (case hd_ => rfl); (case hi_ => kernel_rfl)) | (go_simp; with_reducible rfl)))
            refine tak_ 34 (some 75) rfl rfl (take_ofW HT_.out HW_.out (by kernel_rfl)) hHeld ?_ (by rintro w' ⟨s0, s1, s2, s3, s4, s5, s6, s7, s8, s9, s10, s11, s12, s13, s14, s15, s16, s17, s18, s19, s20⟩; (first | (refine load_cells_11 (ty := 24) (x := .tmp 1) (g := B5) ?hlo_ ?hx_ Try.underlying24 ?hd_ ?hi_ s4 s5 s6 s7 s8 s9 s10 s11 s12 s13 s14; (case hlo_ => rfl); (case hx_ => rfl); (case hd_ => rfl); (case hi_ => kernel_rfl)) | (go_simp; with_reducible rfl)))
            refine oon_ 33 (some 74) rfl rfl (one_of HT_.out (by kernel_rfl)) (fun K hK => ?_)
            refine Kd.R_lit_step (Kd.int .i64) _ 3 ?hg (N := 74) ?hd (xs := ([3] : List Int)) (inner := [.int .i64 3]) (ok := fun _ => True) (okp := fun _ => True) ?hr ?hp (fun _ hk => hk) trivial (Below.refl _ _) (Nat.le_refl _) (by simp) ?_; (case hd => rfl); (case hg => rfl); (case hr => first | (go_simp; done) | (go_simp; rfl)); (case hp => exact (Reps.one (show Kd.M (Kd.int .i64) _ _ _ 3 [.int .i64 3] from rfl) (Reps.none _ _)))
            intro v457 w81 E8 hb hg_ hnew_
            have Db := (hb.cell (World.block_lt_of_cell? _ _ (hHeld.2.2.2.2.2.2.2.2.2.2.2.2.2.2.2.2.2.2.2.1))).trans (hHeld.2.2.2.2.2.2.2.2.2.2.2.2.2.2.2.2.2.2.2.1)
            have Dc := (hb.cell (World.block_lt_of_cell? _ _ (hHeld.2.2.2.2.2.2.2.2.2.2.2.2.2.2.2.2.2.2.2.2))).trans (hHeld.2.2.2.2.2.2.2.2.2.2.2.2.2.2.2.2.2.2.2.2)
            clear hg_ hnew_
            (first | rw [← Jl.out] at E8 | (simp only [Int.reduceToNat] at E8; rw [← Jl.out] at E8))
            replace Bb := am_ (Kd.R_below Bb.out hb)
            replace B4 := am_ (Kd.N_elder' (by (with_reducible repeat (first | apply Kd.N_alloc | apply Kd.N_drewN | apply Kd.N_drew)); exact B4.out) (Kd.R_base E8) hb)
            replace Bc := am_ (Kd.R_below Bc.out hb)
            replace Bd := am_ (Kd.N_elder' (by (with_reducible repeat (first | apply Kd.N_alloc | apply Kd.N_drewN | apply Kd.N_drew)); exact Bd.out) (Kd.R_base E8) hb)
            replace Bk := am_ (Kd.V_elder' (by (with_reducible repeat (first | apply Kd.V_alloc | apply Kd.V_drewN | apply Kd.V_drew)); exact Bk.out) (Kd.R_base E8) hb)
            replace Bl := am_ (Kd.V_elder' (by (with_reducible repeat (first | apply Kd.V_alloc | apply Kd.V_drewN | apply Kd.V_drew)); exact Bl.out) (Kd.R_base E8) hb)
            replace D1 := am_ (Kd.N_elder' (by (with_reducible repeat (first | apply Kd.N_alloc | apply Kd.N_drewN | apply Kd.N_drew)); exact D1.out) (Kd.R_base E8) hb)
            replace D2 := am_ (Kd.N_elder' (by (with_reducible repeat (first | apply Kd.N_alloc | apply Kd.N_drewN | apply Kd.N_drew)); exact D2.out) (Kd.R_base E8) hb)
            have E2 := am_ (Kd.R_lower (Kd.R_new' (Kd.R_new' E8 (Kd.R_lt (by (with_reducible repeat (first | apply Kd.R_alloc | apply Kd.R_drewN | apply Kd.R_drew)); exact B6.out))) (Kd.R_lt (by (with_reducible repeat (first | apply Kd.R_alloc | apply Kd.R_drewN | apply Kd.R_drew)); exact Dh.out))) (below_size HB.out))
            replace B6 := am_ (Kd.R_elder' (by (with_reducible repeat (first | apply Kd.R_alloc | apply Kd.R_drewN | apply Kd.R_drew)); exact B6.out) (Kd.R_base E8) hb)
            replace Dh := am_ (Kd.R_elder' (by (with_reducible repeat (first | apply Kd.R_alloc | apply Kd.R_drewN | apply Kd.R_drew)); exact Dh.out) (Kd.R_base E8) hb)
            replace Ba := bkb_ Ba hb
            replace B1 := bkb_ B1 hb
            replace B9 := bkb_ B9 hb
            replace HB := bst_ HB hb
            clear hb E8
            obtain ⟨Rq, Rr, M9⟩ := Kd.R_slice E2.out
            (first | subst M9 | (injection M9 with f1_ f2_ f3_; have Ey := f1_.symm; have Ez := f3_.symm; clear f1_ f2_ f3_; subst Ey; subst Ez))
            refine hK.out _ _ ⟨(blk_cell B1.out 0).trans rfl, (blk_cell B1.out 1).trans rfl, (blk_cell B1.out 2).trans rfl, (blk_cell B1.out 3).trans rfl, (and_11 Ba.out ⟨(blk_cell B9.out 0).trans rfl, (blk_cell B9.out 1).trans rfl, (blk_cell B9.out 2).trans rfl, (blk_cell B9.out 3).trans rfl, Db, Dc⟩)⟩ (fun hHeld => ?_)
            clear hK K
            refine nor_ 74 ?_
            refine oon_ 35 (some 76) rfl rfl (one_of HT_.out (by kernel_rfl)) (fun K hK => ?_)
            refine gos_ Try.func14 (round_Fits.calls Em Bo Bp Bq Br Bs Bt Bu Bv Bw Bx _ _ Bg _ _ y456 8 Bj _ _ B2 _ _ B0 _ _ (Kd.R_reads' B6.out).2.2 (Kd.R_reads' B6.out).2.1 (Kd.R_reads' E2.out).2.2 (Kd.R_reads' E2.out).2.1 (Kd.R_reads' Bc.out).2.2 (Kd.R_reads' Bc.out).2.1 (Kd.N_reads' Bd.out).2.2 (Kd.N_reads' Bd.out).2.1 Rl.out) ?_
            rintro e w84 ⟨rfl, hb⟩
            have Db := (hb.cell (World.block_lt_of_cell? _ _ (hHeld.2.2.2.2.2.2.2.2.2.2.2.2.2.2.2.2.2.2.2.1))).trans (hHeld.2.2.2.2.2.2.2.2.2.2.2.2.2.2.2.2.2.2.2.1)
            have Dc := (hb.cell (World.block_lt_of_cell? _ _ (hHeld.2.2.2.2.2.2.2.2.2.2.2.2.2.2.2.2.2.2.2.2))).trans (hHeld.2.2.2.2.2.2.2.2.2.2.2.2.2.2.2.2.2.2.2.2)
            refine ⟨_, rfl, ?_⟩
            replace B6 := am_ (Kd.R_below B6.out hb)
            replace Bb := am_ (Kd.R_below Bb.out hb)
            replace B4 := am_ (Kd.N_below B4.out hb)
            replace Bc := am_ (Kd.R_below Bc.out hb)
            replace Bd := am_ (Kd.N_below Bd.out hb)
            replace Bk := am_ (Kd.V_below (by (with_reducible repeat (first | apply Kd.V_alloc | apply Kd.V_drewN | apply Kd.V_drew)); exact Bk.out) hb)
            replace Bl := am_ (Kd.V_below (by (with_reducible repeat (first | apply Kd.V_alloc | apply Kd.V_drewN | apply Kd.V_drew)); exact Bl.out) hb)
            replace D1 := am_ (Kd.N_below D1.out hb)
            replace D2 := am_ (Kd.N_below D2.out hb)
            replace Dh := am_ (Kd.R_below Dh.out hb)
            replace E2 := am_ (Kd.R_below E2.out hb)
            replace Ba := bkb_ Ba hb
            replace B1 := bkb_ B1 hb
            replace B9 := bkb_ B9 hb
            replace HB := bst_ HB hb
            (try clear hb)
            (try clear hb2)
            (try clear hk)
            (try clear hi)
            refine hK.out _ _ ⟨(blk_cell B1.out 0).trans rfl, (blk_cell B1.out 1).trans rfl, (blk_cell B1.out 2).trans rfl, (blk_cell B1.out 3).trans rfl, (and_11 Ba.out ⟨(blk_cell B9.out 0).trans rfl, (blk_cell B9.out 1).trans rfl, (blk_cell B9.out 2).trans rfl, (blk_cell B9.out 3).trans rfl, Db, Dc⟩)⟩ (fun hHeld => ?_)
            clear hK K
            refine nor_ 76 ?_
            refine pur_ 36 (some 77) rfl rfl (any_of HT_.out (by kernel_rfl)) ?_
            refine pur_ 37 (some 78) rfl rfl (any_of HT_.out (by kernel_rfl)) ?_
            refine pur_ 38 (some 79) rfl rfl (any_of HT_.out (by kernel_rfl)) ?_
            refine tak_ 39 (some 80) rfl rfl (take_ofW HT_.out HW_.out (by kernel_rfl)) hHeld ?_ (by rintro w' ⟨s0, s1, s2, s3, s4, s5, s6, s7, s8, s9, s10, s11, s12, s13, s14, s15, s16, s17, s18, s19, s20⟩; (first | (refine load_cells_11 (ty := 24) (x := .tmp 1) (g := B5) ?hlo_ ?hx_ Try.underlying24 ?hd_ ?hi_ s4 s5 s6 s7 s8 s9 s10 s11 s12 s13 s14; (case hlo_ => rfl); (case hx_ => rfl); (case hd_ => rfl); (case hi_ => kernel_rfl)) | (go_simp; with_reducible rfl)))
            refine tak_ 40 (some 81) rfl rfl (take_ofW HT_.out HW_.out (by kernel_rfl)) hHeld ?_ (by rintro w' ⟨s0, s1, s2, s3, s4, s5, s6, s7, s8, s9, s10, s11, s12, s13, s14, s15, s16, s17, s18, s19, s20⟩; (first | (refine load_cells_11 (ty := 24) (x := .tmp 1) (g := B5) ?hlo_ ?hx_ Try.underlying24 ?hd_ ?hi_ s4 s5 s6 s7 s8 s9 s10 s11 s12 s13 s14; (case hlo_ => rfl); (case hx_ => rfl); (case hd_ => rfl); (case hi_ => kernel_rfl)) | (go_simp; with_reducible rfl)))
            refine tak_ 41 (some 82) rfl rfl (take_ofW HT_.out HW_.out (by kernel_rfl)) hHeld ?_ (by rintro w' ⟨s0, s1, s2, s3, s4, s5, s6, s7, s8, s9, s10, s11, s12, s13, s14, s15, s16, s17, s18, s19, s20⟩; (first | (refine load_cells_11 (ty := 24) (x := .tmp 1) (g := B5) ?hlo_ ?hx_ Try.underlying24 ?hd_ ?hi_ s4 s5 s6 s7 s8 s9 s10 s11 s12 s13 s14; (case hlo_ => rfl); (case hx_ => rfl); (case hd_ => rfl); (case hi_ => kernel_rfl)) | (go_simp; with_reducible rfl)))
            refine oon_ 42 (some 83) rfl rfl (one_of HT_.out (by kernel_rfl)) (fun K hK => ?_)
            refine gos_ Try.func12 (round_Follows.calls Em Bo Bp Bq Br Bs Bt Bu Bv Bw Bx _ _ Bg Bm Bj _ _ B2 _ _ B0 8 Bj _ _ B2 _ _ B0 _ _ (Kd.R_reads' B6.out).2.2 (Kd.R_reads' B6.out).2.1 (Kd.R_reads' Bb.out).2.2 (Kd.R_reads' Bb.out).2.1 (Kd.N_reads' B4.out).2.2 (Kd.N_reads' B4.out).2.1 (Kd.R_reads' Bc.out).2.2 (Kd.R_reads' Bc.out).2.1 (Kd.N_reads' Bd.out).2.2 (Kd.N_reads' Bd.out).2.1 Rm.out) ?_
            rintro e w85 ⟨rfl, hb⟩
            have Db := (hb.cell (World.block_lt_of_cell? _ _ (hHeld.2.2.2.2.2.2.2.2.2.2.2.2.2.2.2.2.2.2.2.1))).trans (hHeld.2.2.2.2.2.2.2.2.2.2.2.2.2.2.2.2.2.2.2.1)
            have Dc := (hb.cell (World.block_lt_of_cell? _ _ (hHeld.2.2.2.2.2.2.2.2.2.2.2.2.2.2.2.2.2.2.2.2))).trans (hHeld.2.2.2.2.2.2.2.2.2.2.2.2.2.2.2.2.2.2.2.2)
            refine ⟨_, rfl, ?_⟩
            replace B6 := am_ (Kd.R_below B6.out hb)
            replace Bb := am_ (Kd.R_below Bb.out hb)
            replace B4 := am_ (Kd.N_below B4.out hb)
            replace Bc := am_ (Kd.R_below Bc.out hb)
            replace Bd := am_ (Kd.N_below Bd.out hb)
            replace Bk := am_ (Kd.V_below (by (with_reducible repeat (first | apply Kd.V_alloc | apply Kd.V_drewN | apply Kd.V_drew)); exact Bk.out) hb)
            replace Bl := am_ (Kd.V_below (by (with_reducible repeat (first | apply Kd.V_alloc | apply Kd.V_drewN | apply Kd.V_drew)); exact Bl.out) hb)
            replace D1 := am_ (Kd.N_below D1.out hb)
            replace D2 := am_ (Kd.N_below D2.out hb)
            replace Dh := am_ (Kd.R_below Dh.out hb)
            replace E2 := am_ (Kd.R_below E2.out hb)
            replace Ba := bkb_ Ba hb
            replace B1 := bkb_ B1 hb
            replace B9 := bkb_ B9 hb
            replace HB := bst_ HB hb
            (try clear hb)
            (try clear hb2)
            (try clear hk)
            (try clear hi)
            refine hK.out _ _ ⟨(blk_cell B1.out 0).trans rfl, (blk_cell B1.out 1).trans rfl, (blk_cell B1.out 2).trans rfl, (blk_cell B1.out 3).trans rfl, (and_11 Ba.out ⟨(blk_cell B9.out 0).trans rfl, (blk_cell B9.out 1).trans rfl, (blk_cell B9.out 2).trans rfl, (blk_cell B9.out 3).trans rfl, Db, Dc⟩)⟩ (fun hHeld => ?_)
            clear hK K
            refine nor_ 83 ?_
            refine pur_ 43 (some 84) rfl rfl (any_of HT_.out (by kernel_rfl)) ?_
            refine pur_ 44 (some 85) rfl rfl (any_of HT_.out (by kernel_rfl)) ?_
            refine tak_ 45 (some 86) rfl rfl (take_ofW HT_.out HW_.out (by kernel_rfl)) hHeld ?_ (by rintro w' ⟨s0, s1, s2, s3, s4, s5, s6, s7, s8, s9, s10, s11, s12, s13, s14, s15, s16, s17, s18, s19, s20⟩; (first | (refine load_cells_11 (ty := 24) (x := .tmp 1) (g := B5) ?hlo_ ?hx_ Try.underlying24 ?hd_ ?hi_ s4 s5 s6 s7 s8 s9 s10 s11 s12 s13 s14; (case hlo_ => rfl); (case hx_ => rfl); (case hd_ => rfl); (case hi_ => kernel_rfl)) | (go_simp; with_reducible rfl)))
            refine tak_ 46 (some 87) rfl rfl (take_ofW HT_.out HW_.out (by kernel_rfl)) hHeld ?_ (by rintro w' ⟨s0, s1, s2, s3, s4, s5, s6, s7, s8, s9, s10, s11, s12, s13, s14, s15, s16, s17, s18, s19, s20⟩; (first | (refine load_cells_11 (ty := 24) (x := .tmp 1) (g := B5) ?hlo_ ?hx_ Try.underlying24 ?hd_ ?hi_ s4 s5 s6 s7 s8 s9 s10 s11 s12 s13 s14; (case hlo_ => rfl); (case hx_ => rfl); (case hd_ => rfl); (case hi_ => kernel_rfl)) | (go_simp; with_reducible rfl)))
            refine tak_ 47 (some 88) rfl rfl (take_ofW HT_.out HW_.out (by kernel_rfl)) hHeld ?_ (by rintro w' ⟨s0, s1, s2, s3, s4, s5, s6, s7, s8, s9, s10, s11, s12, s13, s14, s15, s16, s17, s18, s19, s20⟩; (first | (refine load_cells_11 (ty := 24) (x := .tmp 1) (g := B5) ?hlo_ ?hx_ Try.underlying24 ?hd_ ?hi_ s4 s5 s6 s7 s8 s9 s10 s11 s12 s13 s14; (case hlo_ => rfl); (case hx_ => rfl); (case hd_ => rfl); (case hi_ => kernel_rfl)) | (go_simp; with_reducible rfl)))
            refine oon_ 48 (some 89) rfl rfl (one_of HT_.out (by kernel_rfl)) (fun K hK => ?_)
            refine gos_ Try.func12 (round_Follows.calls Em Bo Bp Bq Br Bs Bt Bu Bv Bw Bx _ _ Bg 8 Bj _ _ B2 _ _ B0 Bm Bj _ _ B2 _ _ B0 _ _ (Kd.R_reads' B6.out).2.2 (Kd.R_reads' B6.out).2.1 (Kd.R_reads' Bc.out).2.2 (Kd.R_reads' Bc.out).2.1 (Kd.N_reads' Bd.out).2.2 (Kd.N_reads' Bd.out).2.1 (Kd.R_reads' Bb.out).2.2 (Kd.R_reads' Bb.out).2.1 (Kd.N_reads' B4.out).2.2 (Kd.N_reads' B4.out).2.1 Rn.out) ?_
            rintro e w86 ⟨rfl, hb⟩
            have Db := (hb.cell (World.block_lt_of_cell? _ _ (hHeld.2.2.2.2.2.2.2.2.2.2.2.2.2.2.2.2.2.2.2.1))).trans (hHeld.2.2.2.2.2.2.2.2.2.2.2.2.2.2.2.2.2.2.2.1)
            have Dc := (hb.cell (World.block_lt_of_cell? _ _ (hHeld.2.2.2.2.2.2.2.2.2.2.2.2.2.2.2.2.2.2.2.2))).trans (hHeld.2.2.2.2.2.2.2.2.2.2.2.2.2.2.2.2.2.2.2.2)
            refine ⟨_, rfl, ?_⟩
            replace B6 := am_ (Kd.R_below B6.out hb)
            replace Bb := am_ (Kd.R_below Bb.out hb)
            replace B4 := am_ (Kd.N_below B4.out hb)
            replace Bc := am_ (Kd.R_below Bc.out hb)
            replace Bd := am_ (Kd.N_below Bd.out hb)
            replace Bk := am_ (Kd.V_below (by (with_reducible repeat (first | apply Kd.V_alloc | apply Kd.V_drewN | apply Kd.V_drew)); exact Bk.out) hb)
            replace Bl := am_ (Kd.V_below (by (with_reducible repeat (first | apply Kd.V_alloc | apply Kd.V_drewN | apply Kd.V_drew)); exact Bl.out) hb)
            replace D1 := am_ (Kd.N_below D1.out hb)
            replace D2 := am_ (Kd.N_below D2.out hb)
            replace Dh := am_ (Kd.R_below Dh.out hb)
            replace E2 := am_ (Kd.R_below E2.out hb)
            replace Ba := bkb_ Ba hb
            replace B1 := bkb_ B1 hb
            replace B9 := bkb_ B9 hb
            replace HB := bst_ HB hb
            (try clear hb)
            (try clear hb2)
            (try clear hk)
            (try clear hi)
            refine hK.out _ _ ⟨(blk_cell B1.out 0).trans rfl, (blk_cell B1.out 1).trans rfl, (blk_cell B1.out 2).trans rfl, (blk_cell B1.out 3).trans rfl, (and_11 Ba.out ⟨(blk_cell B9.out 0).trans rfl, (blk_cell B9.out 1).trans rfl, (blk_cell B9.out 2).trans rfl, (blk_cell B9.out 3).trans rfl, Db, Dc⟩)⟩ (fun hHeld => ?_)
            clear hK K
            refine nor_ 89 ?_
            refine pur_ 49 (some 90) rfl rfl (any_of HT_.out (by kernel_rfl)) ?_
            refine pur_ 50 (some 91) rfl rfl (any_of HT_.out (by kernel_rfl)) ?_
            refine pur_ 51 (some 0) rfl rfl (any_of HT_.out (by kernel_rfl)) ?_
            refine done_ (done_of HT_.out (by kernel_rfl)) ?_
            try go_wp2
            go_ret
            exact ⟨by first | rfl | (simp [*] <;> rfl), by repeat (first | (with_reducible first | exact HB.out | apply ba_ | apply bn_ | apply bd_ | refine bs_ ?_ Dp.out | refine bs_ ?_ Dw.out | refine bs_ ?_ E9.out) | exact HB.out)⟩
           ·replace Mi := Bool.eq_false_iff.mpr Mi
            subst Mi
            rw [if_neg (show ¬ (false = true) by decide)] at H
            exact absurd H (by simp)
          ·rw [if_neg Jv] at H
           have Lu : (E7 == 16) = false := beq_eq_false_iff_ne.mpr Jv
           have Lv : (E7 != 16) = true := bne_iff_ne.mpr Jv
           exact absurd H (by simp)
         ·rw [if_neg Ju] at H
          have Ls : (Ej == 0) = false := beq_eq_false_iff_ne.mpr Ju
          have Lt : (Ej != 0) = true := bne_iff_ne.mpr Ju
          exact absurd H (by simp)
        ·replace Mh := Bool.eq_false_iff.mpr Mh
         subst Mh
         rw [if_neg (show ¬ (false = true) by decide)] at H
         exact absurd H (by simp)
       ·rw [if_neg Mg] at H
        exact absurd H (by simp)
      ·rw [if_neg Mf] at H
       exact absurd H (by simp)
     ·rw [if_neg Jt] at H
      have Lq : (Bj.toList == ([49, 49, 49, 48] : List UInt8)) = false := beq_eq_false_iff_ne.mpr Jt
      have Lr : (Bj.toList != ([49, 49, 49, 48] : List UInt8)) = true := bne_iff_ne.mpr Jt
      exact absurd H (by simp)
    ·rw [if_neg Js] at H
     have Lo : (Bm == 7) = false := beq_eq_false_iff_ne.mpr Js
     have Lp : (Bm != 7) = true := bne_iff_ne.mpr Js
     exact absurd H (by simp)
end Go.Proofs.Ytdnccjlfongdeaa.Gn
