import Derived.Test.YtdnccjlfongdeaaZRoundPlaysGn0
import Derived.Test.YtdnccjlfongdeaaZRoundPlaysGn2
import Derived.Test.YtdnccjlfongdeaaZRoundPlaysGn24
import Derived.Test.YtdnccjlfongdeaaZRoundPlaysGn25
import Derived.Test.YtdnccjlfongdeaaZRoundPlaysGn30
import Derived.Test.YtdnccjlfongdeaaZRoundPlaysGn31
namespace Go.Proofs.Ytdnccjlfongdeaa.Gn
open Go.RowKit Go.Proofs.YtdnccjlfongdeaaW.PrintWords Go.Proofs.YtdnccjlfongdeaaW.PrintLast Go.Proofs.YtdnccjlfongdeaaW.PrintMore
attribute [local go_sem] max2_int min2_int max_two min_two max_three min_three max_four min_four   -- for this text's walks alone
set_option linter.unusedVariables false
set_option linter.unusedSimpArgs false
mutual
def r38_Play.l0 : Nat → List Int → ByteArray → List ByteArray → List (List (S45)) → List Int → Int → Int → Int → Int → Int → Int → Int → Int → Int → Int → Int → List Int → Int → ByteArray → List ByteArray → Option (Int × ByteArray × List ByteArray × (List (List (S45))))
 | 0, _, _, _, _, _, _, _, _, _, _, _, _, _, _, _, _, _, _, _, _ => none
 | k + 1, x1, x3, x4, x5, Bl, Bh, B2, B4, B5, B6, B7, B8, B9, Ba, Bb, Bc, B0, B3, Bd, B1 => if Bh < B2 then ((r14_In.f k x1 Bh).bind fun Bm => (if Bm = true then (if B1.length < 8796093022208 then (r38_Play.l0 k x1 x3 x4 x5 Bl (wrap64 (Bh + 1)) B2 B4 B5 B6 B7 B8 B9 Ba Bb Bc B0 B3 Bd (B1 ++ [(⟨#[]⟩ : ByteArray)])) else (none)) else (if Bl.length < 17592186044416 then ((some (Bl ++ [Bh] : List Int)).bind fun Bj => (if Bh < (x4.length : Int) then (if 0 ≤ Bh then ((r38_cut.f (rdOf ByteArray.empty x4 Bh)).bind fun Bn => (if B1.length < 8796093022208 then (r38_Play.l0 k x1 x3 x4 x5 Bj (wrap64 (Bh + 1)) B2 B4 B5 B6 B7 B8 B9 Ba Bb Bc B0 B3 Bd (B1 ++ [Bn])) else (none))) else (none)) else (if B1.length < 8796093022208 then (r38_Play.l0 k x1 x3 x4 x5 Bj (wrap64 (Bh + 1)) B2 B4 B5 B6 B7 B8 B9 Ba Bb Bc B0 B3 Bd (B1 ++ [(⟨#[]⟩ : ByteArray)])) else (none)))) else (none)))) else ((r25_Mark.f k B2 B4 B5 B6 B7 B8 B9 Ba Bb Bc B0 x3 Bl).bind fun Bo => (r38_Play.l1 k x1 x5 0 B2 B4 B5 B6 B7 B8 B9 Ba Bb Bc B0 B3 Bo B1 ([] : List (List (S45)))))
def r38_Play.l1 : Nat → List Int → List (List (S45)) → Int → Int → Int → Int → Int → Int → Int → Int → Int → Int → Int → List Int → Int → ByteArray → List ByteArray → List (List (S45)) → Option (Int × ByteArray × List ByteArray × (List (List (S45))))
 | 0, _, _, _, _, _, _, _, _, _, _, _, _, _, _, _, _, _, _ => none
 | k + 1, x1, x5, Bg, B2, B4, B5, B6, B7, B8, B9, Ba, Bb, Bc, B0, B3, Bd, B1, Be => if Bg < B2 then (r38_Play.l2 k x1 x5 Bg ([] : List (S45)) 0 B2 B4 B5 B6 B7 B8 B9 Ba Bb Bc B0 B3 Bd B1 Be) else (some (B3, Bd, B1, Be))
def r38_Play.l2 : Nat → List Int → List (List (S45)) → Int → List (S45) → Int → Int → Int → Int → Int → Int → Int → Int → Int → Int → Int → List Int → Int → ByteArray → List ByteArray → List (List (S45)) → Option (Int × ByteArray × List ByteArray × (List (List (S45))))
 | 0, _, _, _, _, _, _, _, _, _, _, _, _, _, _, _, _, _, _, _, _ => none
 | k + 1, x1, x5, Bg, Bi, Bf, B2, B4, B5, B6, B7, B8, B9, Ba, Bb, Bc, B0, B3, Bd, B1, Be => if Bf < (B0.length : Int) then ((r14_In.f k x1 Bg).bind fun Bp => (r38_Play.j3 k x1 x5 Bg Bi Bf (!Bp) B2 B4 B5 B6 B7 B8 B9 Ba Bb Bc B0 B3 Bd B1 Be)) else (r38_Play.j3 k x1 x5 Bg Bi Bf false B2 B4 B5 B6 B7 B8 B9 Ba Bb Bc B0 B3 Bd B1 Be)
def r38_Play.j3 : Nat → List Int → List (List (S45)) → Int → List (S45) → Int → Bool → Int → Int → Int → Int → Int → Int → Int → Int → Int → Int → List Int → Int → ByteArray → List ByteArray → List (List (S45)) → Option (Int × ByteArray × List ByteArray × (List (List (S45))))
 | 0, _, _, _, _, _, _, _, _, _, _, _, _, _, _, _, _, _, _, _, _, _ => none
 | k + 1, x1, x5, Bg, Bi, Bf, Br, B2, B4, B5, B6, B7, B8, B9, Ba, Bb, Bc, B0, B3, Bd, B1, Be => if Br = true then (if 0 ≤ Bf then (if Bf < (B0.length : Int) then ((r14_In.f k x1 (rd B0 Bf)).bind fun Bq => (if Bq = true then (if Bg < (x5.length : Int) then (if 0 ≤ Bg then ((r38_lie.f k (rd_L3 x5 Bg) (rd B0 Bf) Bf B3).bind fun Bk => (if Bi.length + Bk.length < 3518437208883 then (r38_Play.l2 k x1 x5 Bg (Bi ++ Bk) (wrap64 (Bf + 1)) B2 B4 B5 B6 B7 B8 B9 Ba Bb Bc B0 B3 Bd B1 Be) else (none))) else (none)) else (r38_Play.l2 k x1 x5 Bg Bi (wrap64 (Bf + 1)) B2 B4 B5 B6 B7 B8 B9 Ba Bb Bc B0 B3 Bd B1 Be)) else (if 0 ≤ (rd B0 Bf) then (if (rd B0 Bf) < (B1.length : Int) then (if Bi.length < 3518437208883 then (r38_Play.l2 k x1 x5 Bg (Bi ++ [(⟨rd B0 Bf, Bf, B3, rdOf ByteArray.empty B1 (rd B0 Bf)⟩ : S45)]) (wrap64 (Bf + 1)) B2 B4 B5 B6 B7 B8 B9 Ba Bb Bc B0 B3 Bd B1 Be) else (none)) else (none)) else (none)))) else (none)) else (none)) else (if Be.length < 5864062014805 then (r38_Play.l1 k x1 x5 (wrap64 (Bg + 1)) B2 B4 B5 B6 B7 B8 B9 Ba Bb Bc B0 B3 Bd B1 (Be ++ [Bi])) else (none))
end
def r38_Play.f (k : Nat) (B2 B3 B4 B5 B6 B7 B8 B9 B1 Ba : Int) (B0 l1 : List Int) (a2 : Int) (a3 : ByteArray) (l4 : List ByteArray) (l5 : List (List (S45))) : Option (Int × ByteArray × List ByteArray × (List (List (S45)))) := (r03_Plain.f k B2 B3 B4 B5 B6 B7 B8 B9 B1 Ba B0).bind fun Bb => (if Bb = 0 then ((r01_Mod.f a2 B1).bind fun Bc => (r38_Play.l0 k l1 a3 l4 l5 ([] : List Int) 0 B2 B3 B4 B5 B6 B7 B8 B9 B1 Ba B0 Bc (⟨#[]⟩ : ByteArray) ([] : List ByteArray))) else (some (0, (⟨#[]⟩ : ByteArray), ([] : List ByteArray), ([] : List (List (S45))))))
def r38_Play.T24 : Bool × List (List Nat × List Nat) := (true, [([], []), ([], []), ([], []), ([], []), ([3], [3]), ([], []), ([5], [5]), ([], []), ([6, 7], [6, 7]), ([8], [8]), ([1, 2, 4, 9], [1, 2, 4, 9]), ([10], [10]), ([0, 11], [0, 11]), ([12, 12, 0, 1, 2, 3, 4, 5, 6, 7, 8, 9, 10, 11, 12], [0, 12])])
def r38_Play.B24 : List Nat := [0, 0, 0, 0, 8, 0, 32, 0, 224, 480, 1022, 2046, 4095, 8191]
theorem r38_Play.tab24 : rtab .any (opsOf Try.f10 24) = r38_Play.T24 := by kernel_rfl
theorem r38_Play.bits24 : waitsOk r38_Play.T24.2 r38_Play.B24 = true := by kernel_rfl
def r38_Play.T26 : Bool × List (List Nat × List Nat) := (true, [([], []), ([], []), ([], []), ([1, 2], [1, 2]), ([3], [3]), ([], []), ([], []), ([], []), ([7], [7]), ([4, 5, 6, 8], [4, 5, 6, 8]), ([0, 9, 9], [0, 9]), ([10, 10, 0, 1, 2, 3, 4, 5, 6, 7, 8, 9, 10], [0, 10])])
def r38_Play.B26 : List Nat := [0, 0, 0, 6, 14, 0, 0, 0, 128, 510, 1023, 2047]
theorem r38_Play.tab26 : rtab .any (opsOf Try.f10 26) = r38_Play.T26 := by kernel_rfl
theorem r38_Play.bits26 : waitsOk r38_Play.T26.2 r38_Play.B26 = true := by kernel_rfl
set_option maxHeartbeats 8000000 in
set_option maxRecDepth 100000 in
theorem r38_Play.calls (k : Nat) (Bm Bp Bq Br Bs Bt Bu Bv Bo Bw : Int) (D1 : Option Addr) (By : Nat) (B6 : List Int) (A1 : Option Addr) (c1 : Nat) (l1 : List Int) (a2 : Int) (a3 : ByteArray) (A4 : Option Addr) (c4 : Nat) (l4 : List ByteArray) (A5 : Option Addr) (c5 : Nat) (l5 : List (List (S45))) (r1 : Int) (r2 : ByteArray) (r3 : List ByteArray) (r4 : List (List (S45))) (w : World) (E8 : Kd.C (Kd.int .i64) w D1 B6.length B6) (E9 : B6.length ≤ By) (Me : Kd.C (Kd.int .i64) w A1 l1.length l1) (Mf : l1.length ≤ c1) (Mg : Kd.C Kd.string w A4 l4.length l4) (Mh : l4.length ≤ c4) (Mi : Kd.C (Kd.slice 45 k45) w A5 l5.length l5) (Mj : l5.length ≤ c5) (h : r38_Play.f k Bm Bp Bq Br Bs Bt Bu Bv Bo Bw B6 l1 a2 a3 l4 l5 = some (r1, r2, r3, r4)) :
  Calls Try.prog 10 #[.agg #[.int .i64 Bm, .int .i64 Bp, .int .i64 Bq, .int .i64 Br, .int .i64 Bs, .int .i64 Bt, .int .i64 Bu, .int .i64 Bv, .int .i64 Bo, .int .i64 Bw, .slice D1 B6.length By], .slice A1 l1.length c1, .int .i64 a2, .string a3, .slice A4 l4.length c4, .slice A5 l5.length c5] w fun e w' => ∃ Mk Ml : Value, e = .returned (.agg #[.int .i64 r1, .string r2, Mk, Ml]) ∧ Kd.R Kd.string 9 w' w.heap.size (fun _ => True) Mk r3 ∧ Kd.S (Kd.slice 45 k45) 42 w' w.heap.size (fun _ => True) Ml r4 ∧ Below w.heap.size w w' := by
 have Rb := Try.underlying24
 have Rc := Try.underlying32
 have Rd := Try.underlying45
 have Da := am_ E8
 have Do := am_ E9
 clear E8 E9
 have Fu := am_ Me
 have Fv := am_ Mf
 clear Me Mf
 have Re := am_ Mg
 have Rm := am_ Mh
 clear Mg Mh
 have Rf := am_ Mi
 have Rn := am_ Mj
 clear Mi Mj
 have HB := am_ (Below.refl w.heap.size w)
 have H := h
 unfold r38_Play.f at H
 clear h
 obtain ⟨Ea, A7, H⟩ := bes_ H
 try dsimp only at H
 by_cases c8 : Ea = 0
 ·rw [if_pos c8] at H
  have Eb : (Ea == 0) = true := beq_iff_eq.mpr c8
  have Ec : (Ea != 0) = false := bne_eq_false_iff_eq.mpr c8
  clear c8
  obtain ⟨Bd, A9, H⟩ := bes_ H
  try dsimp only at H
  have H' := am_ H
  clear H
  go_enter Try.func10, Try.ntmps10
  go_wp2_with (first | ((with_reducible refine gate_dst (N := 6) rfl ?_); refine bxe_ 6 24 #[.int .i64 Bm, .int .i64 Bp, .int .i64 Bq, .int .i64 Br, .int .i64 Bs, .int .i64 Bt, .int .i64 Bu, .int .i64 Bv, .int .i64 Bo, .int .i64 Bw, .slice D1 B6.length By] ?_; intro Bz hg w10 hbox hb; have B2 := am_ (hbox); have Ed := gwk_ HB hg; have Bj := Ed; replace HB := bst_ HB hb; clear hb hbox hg) | ((with_reducible refine gate_dst (N := 12) rfl ?_); refine bxe_ 12 32 #[.int .i64 0, .string (⟨#[]⟩ : ByteArray), .slice none 0 0, .slice none 0 0] ?_; intro Bh hg w11 hbox hb; have B4 := am_ (hbox); have Ee := gwk_ HB hg; have Bk := Ee; replace HB := bst_ HB hb; have Bb := nbk_ B2 hg; have Be := nbs_ Bb; replace B2 := bkb_ B2 hb; clear hb hbox hg; have Mm := Bb.out; have Mn := Be.out; have Dp := cells_11 B2.out; have Dq := frozen_11 B2.out) | ((with_reducible refine gate_callee (f := 16) rfl ?_); refine gom_ (some 22) Try.func16 (r03_Plain.calls k Bm Bp Bq Br Bs Bt Bu Bv Bo Bw _ _ B6 _ _ (Kd.C_below Da.out HB.out) Do.out A7.out) ?_; rintro e w14 ⟨rfl, hb⟩; refine ⟨_, rfl, ?_⟩; replace B2 := bkb_ B2 hb; replace B4 := bkb_ B4 hb; replace HB := bst_ HB hb; (try clear hb); have Dr := cells_11 B2.out; have Ds := frozen_11 B2.out) | ((with_reducible refine gate_callee (f := 27) rfl ?_); refine gom_ (some 28) Try.func27 (r01_Mod.calls a2 Bo _ _ A9.out) ?_; rintro e w' ⟨rfl, ⟨nd, rfl⟩⟩; refine ⟨_, rfl, ?_⟩; (try (rw [drewN_self w14]; generalize hq_ : World.drewN w14 _ = w14; have Di : Aside0 (w14.heap[Bz]? = some (.cells #[.int .i64 Bm, .int .i64 Bp, .int .i64 Bq, .int .i64 Br, .int .i64 Bs, .int .i64 Bt, .int .i64 Bu, .int .i64 Bv, .int .i64 Bo, .int .i64 Bw, .slice D1 B6.length By] 24 (0, 0))) := ⟨by rw [← hq_]; exact (by (with_reducible repeat (first | apply kn_ | apply kd_ | apply ka_)); exact B2.out)⟩; have Dj : Aside0 (w14.heap[Bh]? = some (.cells #[.int .i64 0, .string (⟨#[]⟩ : ByteArray), .slice none 0 0, .slice none 0 0] 32 (0, 0))) := ⟨by rw [← hq_]; exact (by (with_reducible repeat (first | apply kn_ | apply kd_ | apply ka_)); exact B4.out)⟩; have Dk : Aside0 (Below w.heap.size w w14) := ⟨by rw [← hq_]; exact (by repeat (first | (with_reducible first | exact HB.out | apply ba_ | apply bn_ | apply bd_ | refine bs_ ?_ Bj.out | refine bs_ ?_ Bk.out) | exact HB.out))⟩; clear B2 B4 HB hq_; have B2 := Di; have B4 := Dj; have HB := Dk; clear Di Dj Dk))) | ((with_reducible refine gate_dst (N := 13) rfl ?_); refine bxe_ 13 32 #[.int .i64 0, .string (⟨#[]⟩ : ByteArray), .slice none 0 0, .slice none 0 0] ?_; intro B9 hg w16 hbox hb; have B1 := am_ (hbox); have Gi := gwk_ HB hg; have Bn := Gi; replace HB := bst_ HB hb; have B8 := nbk_ B2 hg; have Bi := nbs_ B8; replace B2 := bkb_ B2 hb; have Bf := nbk_ B4 hg; have D3 := nbs_ Bf; replace B4 := bkb_ B4 hb; clear hb hbox hg; have Mo := Bi.out; have Mp := B8.out; have Mq := D3.out; have Mr := Bf.out; have Dt := cells_4 B1.out; have Du := frozen_4 B1.out))
  go_loopg [14, 15] k (fun kq v14 v15 w' => ∃ (D5 : List Int) (Bg : Int) (B3 : List ByteArray) (u406002 : Value), v15 = .int .i64 Bg ∧ Aside0 (r38_Play.l0 kq l1 a3 l4 l5 D5 Bg Bm Bp Bq Br Bs Bt Bu Bv Bo Bw B6 Bd (⟨#[]⟩ : ByteArray) B3 = some (r1, r2, r3, r4)) ∧ Aside0 (kq ≤ k) ∧ Aside0 (Kd.R (Kd.int .i64) 3 w' w.heap.size (fun _ => True) v14 D5) ∧ Aside0 (Kd.R Kd.string 9 w' w.heap.size (fun _ => True) u406002 B3) ∧ Aside0 (w'.heap[Bz]? = some (.cells #[.int .i64 Bm, .int .i64 Bp, .int .i64 Bq, .int .i64 Br, .int .i64 Bs, .int .i64 Bt, .int .i64 Bu, .int .i64 Bv, .int .i64 Bo, .int .i64 Bw, (.slice D1 B6.length By)] 24 (0, 0))) ∧ Aside0 (w'.heap[Bh]? = some (.cells #[.int .i64 0, .string (⟨#[]⟩ : ByteArray), (.slice none 0 0), (.slice none 0 0)] 32 (0, 0))) ∧ Aside0 (w'.heap[B9]? = some (.cells #[.int .i64 Bd, .string (⟨#[]⟩ : ByteArray), u406002, (.slice none 0 0)] 32 (0, 0))) ∧ Aside0 (Below w.heap.size w w'))
  case atStart => exact ⟨(([] : List Int)), (0), (([] : List ByteArray)), (.slice none 0 0), (by first | rfl | (simp; done) | (simp [*]; done)), H', ⟨Nat.le_refl _⟩, ⟨by first | exact Kd.R_nil _ _ _ _ _ | exact Kd.N_nil _ _ _ _ _ | exact Kd.V_nil _ _ _ _ _ | exact Kd.Q_nil _ _ _ _ _ | exact Kd.S_nil _ _ _ _ _⟩, ⟨by first | exact Kd.R_nil _ _ _ _ _ | exact Kd.N_nil _ _ _ _ _ | exact Kd.V_nil _ _ _ _ _ | exact Kd.Q_nil _ _ _ _ _ | exact Kd.S_nil _ _ _ _ _⟩, ⟨by (iterate 4 ((with_reducible repeat (first | apply kn_ | apply kd_ | apply ka_)); refine blk_far ?_ B8.out _)); (with_reducible repeat (first | apply kn_ | apply kd_ | apply ka_)); exact B2.out⟩, ⟨by (iterate 4 ((with_reducible repeat (first | apply kn_ | apply kd_ | apply ka_)); refine blk_far ?_ Bf.out _)); (with_reducible repeat (first | apply kn_ | apply kd_ | apply ka_)); exact B4.out⟩, ⟨by (with_reducible repeat (first | apply kn_ | apply kd_ | apply ka_)); refine blk_put (cs := #[.int .i64 Bd, .string (⟨#[]⟩ : ByteArray), .slice none 0 0, .slice none 0 0]) ?_ 3 _ rfl; (with_reducible repeat (first | apply kn_ | apply kd_ | apply ka_)); refine blk_put (cs := #[.int .i64 Bd, .string (⟨#[]⟩ : ByteArray), .slice none 0 0, .slice none 0 0]) ?_ 2 _ rfl; (with_reducible repeat (first | apply kn_ | apply kd_ | apply ka_)); refine blk_put (cs := #[.int .i64 Bd, .string (⟨#[]⟩ : ByteArray), .slice none 0 0, .slice none 0 0]) ?_ 1 _ rfl; (with_reducible repeat (first | apply kn_ | apply kd_ | apply ka_)); refine blk_put (cs := #[.int .i64 0, .string (⟨#[]⟩ : ByteArray), .slice none 0 0, .slice none 0 0]) ?_ 0 _ rfl; (with_reducible repeat (first | apply kn_ | apply kd_ | apply ka_)); exact B1.out⟩, ⟨by repeat (first | (with_reducible first | exact HB.out | apply ba_ | apply bn_ | apply bd_ | refine bs_ ?_ Bj.out | refine bs_ ?_ Bk.out | refine bs_ ?_ Bn.out) | exact HB.out)⟩⟩
  case round =>
   clear H'
   try clear c1
   try clear c2
   try clear p2
   try clear c4
   try clear c5
   try clear c8
   try clear Eb
   try clear Ec
   try clear c10
   try clear c12
   try clear c16
   try clear c17
   try clear c18
   try clear Dp
   try clear Dr
   try clear Dt
   try clear Dq
   try clear Ds
   try clear Du
   obtain ⟨D5, Bg, B3, u406002, rfl, HA, Dn, Bl, B0, B2, B4, B1, HB⟩ := hrel
   cases gk with
   | zero => exact absurd HA.out (by simp [r38_Play.l0])
   | succ k1 =>
    have H := HA.out
    clear HA
    simp only [r38_Play.l0] at H
    by_cases Fd : Bg < Bm
    ·rw [if_pos Fd] at H
     have Dv : decide (Bg < Bm) = true := decide_eq_true Fd
     clear Fd
     obtain ⟨La, Lb, H⟩ := bes_ H
     try dsimp only at H
     by_cases Fw : La = true
     ·subst Fw
      rw [if_pos rfl] at H
      by_cases Fx : B3.length < 8796093022208
      ·rw [if_pos Fx] at H
       have Gj := am_ Fx
       clear Fx
       obtain ⟨y407, hy407⟩ : ∃ y_ : List ByteArray, y_ = (B3 ++ [(⟨#[]⟩ : ByteArray)]) := ⟨_, rfl⟩
       replace H : (r38_Play.l0 k1 l1 a3 l4 l5 D5 (wrap64 (Bg + 1)) Bm Bp Bq Br Bs Bt Bu Bv Bo Bw B6 Bd (⟨#[]⟩ : ByteArray) y407) = some (r1, r2, r3, r4) := by first | (rw [hy407]; with_reducible exact H) | (have Db := (Option.bind_some _ _).symm.trans H; rw [hy407]; with_reducible exact Db) | (have Db := (Option.bind_some _ _).symm.trans H; with_reducible exact Db) | with_reducible exact H | (rw [hy407]; exact H) | exact H
       have Gk := am_ hy407
       clear hy407
       have H' := am_ H
       clear H
       have Ms := Bb.out
       have Mt := Be.out
       have Mu := B8.out
       have Mv := Bi.out
       have Ef := cells_11 B2.out
       have Eg := frozen_11 B2.out
       go_wp2_with (first | ((with_reducible refine gate_callee (f := 28) rfl ?_); refine gom_ (some 38) Try.func28 (r14_In.calls k1 _ _ l1 Bg _ _ (Kd.C_below Fu.out HB.out) Fv.out Lb.out) ?_; rintro e w' ⟨rfl, ⟨nd, rfl⟩⟩; refine ⟨_, rfl, ?_⟩; (try (rw [drewN_self wr]; generalize hq_ : World.drewN wr _ = wr; have Di : Aside0 (Kd.R (Kd.int .i64) 3 wr w.heap.size (fun _ => True) u14 D5) := ⟨by rw [← hq_]; exact (by (with_reducible repeat (first | apply Kd.R_alloc | apply Kd.R_drewN | apply Kd.R_drew)); exact Bl.out)⟩; have Dj : Aside0 (Kd.R Kd.string 9 wr w.heap.size (fun _ => True) u406002 B3) := ⟨by rw [← hq_]; exact (by (with_reducible repeat (first | apply Kd.R_alloc | apply Kd.R_drewN | apply Kd.R_drew)); exact B0.out)⟩; have Dk : Aside0 (wr.heap[Bz]? = some (.cells #[.int .i64 Bm, .int .i64 Bp, .int .i64 Bq, .int .i64 Br, .int .i64 Bs, .int .i64 Bt, .int .i64 Bu, .int .i64 Bv, .int .i64 Bo, .int .i64 Bw, .slice D1 B6.length By] 24 (0, 0))) := ⟨by rw [← hq_]; exact (by (with_reducible repeat (first | apply kn_ | apply kd_ | apply ka_)); exact B2.out)⟩; have Dw : Aside0 (wr.heap[Bh]? = some (.cells #[.int .i64 0, .string (⟨#[]⟩ : ByteArray), .slice none 0 0, .slice none 0 0] 32 (0, 0))) := ⟨by rw [← hq_]; exact (by (with_reducible repeat (first | apply kn_ | apply kd_ | apply ka_)); exact B4.out)⟩; have Dx : Aside0 (wr.heap[B9]? = some (.cells #[.int .i64 Bd, .string (⟨#[]⟩ : ByteArray), u406002, .slice none 0 0] 32 (0, 0))) := ⟨by rw [← hq_]; exact (by (with_reducible repeat (first | apply kn_ | apply kd_ | apply ka_)); exact B1.out)⟩; have Dy : Aside0 (Below w.heap.size w wr) := ⟨by rw [← hq_]; exact (by repeat (first | (with_reducible first | exact HB.out | apply ba_ | apply bn_ | apply bd_ | refine bs_ ?_ Bj.out | refine bs_ ?_ Bk.out | refine bs_ ?_ Bn.out) | exact HB.out))⟩; clear Bl B0 B2 B4 B1 HB hq_; have Bl := Di; have B0 := Dj; have B2 := Dk; have B4 := Dw; have B1 := Dx; have HB := Dy; clear Di Dj Dk Dw Dx Dy)); have Mw := D3.out; have Mx := Bf.out; have Eh := cells_4 B1.out; have Ei := frozen_4 B1.out) | ((with_reducible refine gate_builtin (b := .append) (xs := #[.tmp 54, .tmp 56]) rfl ?_); at_builtin; refine Kd.R_append Kd.string (w0 := w) w.heap.size rfl (.tmp 54) (.tmp 56) 27 9 (.string ⟨#[]⟩) 16 rfl Try.underlying27 info9 rfl (by decide) (by omega) u406002 B3 (⟨#[]⟩ : ByteArray) [.string (⟨#[]⟩ : ByteArray)] (fun _ => True) (fun _ => False) rfl rfl ?aP (fun _ hk => hk.elim) ?aF ?aO ?aB ?aS ?aL ?_; (case aP => exact rfl); (case aB => exact (by repeat (first | (with_reducible first | exact HB.out | apply ba_ | apply bn_ | apply bd_ | refine bs_ ?_ Bj.out | refine bs_ ?_ Bk.out | refine bs_ ?_ Bn.out) | exact HB.out))); (case aF => exact (fun _ _ => trivial)); (case aO => exact (by (with_reducible repeat (first | apply Kd.R_alloc | apply Kd.R_drewN | apply Kd.R_drew)); exact B0.out)); (case aS => exact (below_size HB.out)); (case aL => have := Gj.out; omega); intro v408 w29 ho hb hg hat; rw [← Gk.out] at ho; replace Bl := am_ (Kd.R_over' (by (with_reducible repeat (first | apply Kd.R_alloc | apply Kd.R_drewN | apply Kd.R_drew)); exact Bl.out) (Kd.R_typed (by (with_reducible repeat (first | apply Kd.R_alloc | apply Kd.R_drewN | apply Kd.R_drew)); exact B0.out)) (by decide) hg); replace B2 := am_ (blk_grown (g := Bz) (o := .cells #[.int .i64 Bm, .int .i64 Bp, .int .i64 Bq, .int .i64 Br, .int .i64 Bs, .int .i64 Bt, .int .i64 Bu, .int .i64 Bv, .int .i64 Bo, .int .i64 Bw, .slice D1 B6.length By] 24 (0, 0)) (by (with_reducible repeat (first | apply kn_ | apply kd_ | apply ka_)); exact B2.out) hg (Kd.R_ne B0.out B2.out (by decide))); replace B4 := am_ (blk_grown (g := Bh) (o := .cells #[.int .i64 0, .string (⟨#[]⟩ : ByteArray), .slice none 0 0, .slice none 0 0] 32 (0, 0)) (by (with_reducible repeat (first | apply kn_ | apply kd_ | apply ka_)); exact B4.out) hg (Kd.R_ne B0.out B4.out (by decide))); replace B1 := am_ (blk_grown (g := B9) (o := .cells #[.int .i64 Bd, .string (⟨#[]⟩ : ByteArray), u406002, .slice none 0 0] 32 (0, 0)) (by (with_reducible repeat (first | apply kn_ | apply kd_ | apply ka_)); exact B1.out) hg (Kd.R_ne B0.out B1.out (by decide))); replace HB := am_ (hb); have Fh := am_ (ho); clear B0; clear ho hb hg hat; obtain ⟨Fy, Fz, Lc⟩ := Kd.R_slice Fh.out; subst Lc; have Ej := cells_4 B1.out; have Ek := frozen_4 B1.out))
       go_roundg k1
       case measure => have := Dn.out; omega
       case rel => exact ⟨(D5), (wrap64 (Bg + 1)), (y407), (.slice Fy y407.length Fz), (by first | rfl | (simp; done) | (simp [*]; done)), H', ⟨by have := Dn.out; omega⟩, ⟨by (with_reducible repeat (first | apply Kd.R_alloc | apply Kd.R_drewN | apply Kd.R_drew)); exact Kd.R_mono (Kd.R_far (p := ⟨B9, 2, none⟩) (Kd.R_types Bl.out B1.out (by decide)) (fun _ hk => hk.2) (.slice Fy y407.length Fz)) (fun _ hk => trivial)⟩, ⟨by (with_reducible repeat (first | apply Kd.R_alloc | apply Kd.R_drewN | apply Kd.R_drew)); exact Kd.R_mono (Kd.R_far (p := ⟨B9, 2, none⟩) (Kd.R_types Fh.out B1.out (by decide)) (fun _ hk => hk.2) (.slice Fy y407.length Fz)) (fun _ hk => trivial)⟩, ⟨by (with_reducible repeat (first | apply kn_ | apply kd_ | apply ka_)); refine blk_far ?_ B8.out _; (with_reducible repeat (first | apply kn_ | apply kd_ | apply ka_)); exact B2.out⟩, ⟨by (with_reducible repeat (first | apply kn_ | apply kd_ | apply ka_)); refine blk_far ?_ Bf.out _; (with_reducible repeat (first | apply kn_ | apply kd_ | apply ka_)); exact B4.out⟩, ⟨by (with_reducible repeat (first | apply kn_ | apply kd_ | apply ka_)); refine blk_put (cs := #[.int .i64 Bd, .string (⟨#[]⟩ : ByteArray), u406002, .slice none 0 0]) ?_ 2 _ rfl; (with_reducible repeat (first | apply kn_ | apply kd_ | apply ka_)); exact B1.out⟩, ⟨by repeat (first | (with_reducible first | exact HB.out | apply ba_ | apply bn_ | apply bd_ | refine bs_ ?_ Bj.out | refine bs_ ?_ Bk.out | refine bs_ ?_ Bn.out) | exact HB.out)⟩⟩
      ·rw [if_neg Fx] at H
       exact absurd H (by simp)
     ·replace Fw := Bool.eq_false_iff.mpr Fw
      subst Fw
      rw [if_neg (show ¬ (false = true) by decide)] at H
      by_cases G0 : D5.length < 17592186044416
      ·rw [if_pos G0] at H
       have Fi := am_ G0
       clear G0
       obtain ⟨y410, hy410⟩ : ∃ y_ : List Int, y_ = (D5 ++ [Bg]) := ⟨_, rfl⟩
       replace H : (if Bg < (l4.length : Int) then (if 0 ≤ Bg then ((r38_cut.f (rdOf ByteArray.empty l4 Bg)).bind fun El => (if B3.length < 8796093022208 then (r38_Play.l0 k1 l1 a3 l4 l5 y410 (wrap64 (Bg + 1)) Bm Bp Bq Br Bs Bt Bu Bv Bo Bw B6 Bd (⟨#[]⟩ : ByteArray) (B3 ++ [El])) else (none))) else (none)) else (if B3.length < 8796093022208 then (r38_Play.l0 k1 l1 a3 l4 l5 y410 (wrap64 (Bg + 1)) Bm Bp Bq Br Bs Bt Bu Bv Bo Bw B6 Bd (⟨#[]⟩ : ByteArray) (B3 ++ [(⟨#[]⟩ : ByteArray)])) else (none))) = some (r1, r2, r3, r4) := by first | (rw [hy410]; with_reducible exact H) | (have Db := (Option.bind_some _ _).symm.trans H; rw [hy410]; with_reducible exact Db) | (have Db := (Option.bind_some _ _).symm.trans H; with_reducible exact Db) | with_reducible exact H | (rw [hy410]; exact H) | exact H
       have Fj := am_ hy410
       clear hy410
       by_cases Fe : Bg < (l4.length : Int)
       ·rw [if_pos Fe] at H
        have Dz : decide (Bg < (l4.length : Int)) = true := decide_eq_true Fe
        clear Fe
        by_cases G1 : 0 ≤ Bg
        ·rw [if_pos G1] at H
         have Em : decide (0 ≤ Bg) = true := decide_eq_true G1
         clear G1
         obtain ⟨El, Rg, H⟩ := bes_ H
         try dsimp only at H
         by_cases G2 : B3.length < 8796093022208
         ·rw [if_pos G2] at H
          have Gl := am_ G2
          clear G2
          obtain ⟨y415, hy415⟩ : ∃ y_ : List ByteArray, y_ = (B3 ++ [El]) := ⟨_, rfl⟩
          replace H : (r38_Play.l0 k1 l1 a3 l4 l5 y410 (wrap64 (Bg + 1)) Bm Bp Bq Br Bs Bt Bu Bv Bo Bw B6 Bd (⟨#[]⟩ : ByteArray) y415) = some (r1, r2, r3, r4) := by first | (rw [hy415]; with_reducible exact H) | (have Db := (Option.bind_some _ _).symm.trans H; rw [hy415]; with_reducible exact Db) | (have Db := (Option.bind_some _ _).symm.trans H; with_reducible exact Db) | with_reducible exact H | (rw [hy415]; exact H) | exact H
          have Gm := am_ hy415
          clear hy415
          have H' := am_ H
          clear H
          have My := Bb.out
          have Mz := Be.out
          have O0 := B8.out
          have O1 := Bi.out
          have En := cells_11 B2.out
          have Eo := frozen_11 B2.out
          go_wp2_with (first | ((with_reducible refine gate_callee (f := 28) rfl ?_); refine gom_ (some 38) Try.func28 (r14_In.calls k1 _ _ l1 Bg _ _ (Kd.C_below Fu.out HB.out) Fv.out Lb.out) ?_; rintro e w' ⟨rfl, ⟨nd, rfl⟩⟩; refine ⟨_, rfl, ?_⟩; (try (rw [drewN_self wr]; generalize hq_ : World.drewN wr _ = wr; have Di : Aside0 (Kd.R (Kd.int .i64) 3 wr w.heap.size (fun _ => True) u14 D5) := ⟨by rw [← hq_]; exact (by (with_reducible repeat (first | apply Kd.R_alloc | apply Kd.R_drewN | apply Kd.R_drew)); exact Bl.out)⟩; have Dj : Aside0 (Kd.R Kd.string 9 wr w.heap.size (fun _ => True) u406002 B3) := ⟨by rw [← hq_]; exact (by (with_reducible repeat (first | apply Kd.R_alloc | apply Kd.R_drewN | apply Kd.R_drew)); exact B0.out)⟩; have Dk : Aside0 (wr.heap[Bz]? = some (.cells #[.int .i64 Bm, .int .i64 Bp, .int .i64 Bq, .int .i64 Br, .int .i64 Bs, .int .i64 Bt, .int .i64 Bu, .int .i64 Bv, .int .i64 Bo, .int .i64 Bw, .slice D1 B6.length By] 24 (0, 0))) := ⟨by rw [← hq_]; exact (by (with_reducible repeat (first | apply kn_ | apply kd_ | apply ka_)); exact B2.out)⟩; have Dw : Aside0 (wr.heap[Bh]? = some (.cells #[.int .i64 0, .string (⟨#[]⟩ : ByteArray), .slice none 0 0, .slice none 0 0] 32 (0, 0))) := ⟨by rw [← hq_]; exact (by (with_reducible repeat (first | apply kn_ | apply kd_ | apply ka_)); exact B4.out)⟩; have Dx : Aside0 (wr.heap[B9]? = some (.cells #[.int .i64 Bd, .string (⟨#[]⟩ : ByteArray), u406002, .slice none 0 0] 32 (0, 0))) := ⟨by rw [← hq_]; exact (by (with_reducible repeat (first | apply kn_ | apply kd_ | apply ka_)); exact B1.out)⟩; have Dy : Aside0 (Below w.heap.size w wr) := ⟨by rw [← hq_]; exact (by repeat (first | (with_reducible first | exact HB.out | apply ba_ | apply bn_ | apply bd_ | refine bs_ ?_ Bj.out | refine bs_ ?_ Bk.out | refine bs_ ?_ Bn.out) | exact HB.out))⟩; clear Bl B0 B2 B4 B1 HB hq_; have Bl := Di; have B0 := Dj; have B2 := Dk; have B4 := Dw; have B1 := Dx; have HB := Dy; clear Di Dj Dk Dw Dx Dy))) | ((with_reducible refine gate_builtin (b := .append) (xs := #[.tmp 40, .tmp 42]) rfl ?_); at_builtin; refine Kd.R_append (Kd.int .i64) (w0 := w) w.heap.size rfl (.tmp 40) (.tmp 42) 22 3 (.int .i64 0) 8 rfl Try.underlying22 info3 rfl (by decide) (by omega) u14 D5 Bg [.int .i64 Bg] (fun _ => True) (fun _ => False) rfl rfl ?aP (fun _ hk => hk.elim) ?aF ?aO ?aB ?aS ?aL ?_; (case aP => exact rfl); (case aB => exact (by repeat (first | (with_reducible first | exact HB.out | apply ba_ | apply bn_ | apply bd_ | refine bs_ ?_ Bj.out | refine bs_ ?_ Bk.out | refine bs_ ?_ Bn.out) | exact HB.out))); (case aF => exact (fun _ _ => trivial)); (case aO => exact (by (with_reducible repeat (first | apply Kd.R_alloc | apply Kd.R_drewN | apply Kd.R_drew)); exact Bl.out)); (case aS => exact (below_size HB.out)); (case aL => have := Fi.out; omega); intro v411 w40 ho hb hg hat; rw [← Fj.out] at ho; replace B0 := am_ (Kd.R_over' (by (with_reducible repeat (first | apply Kd.R_alloc | apply Kd.R_drewN | apply Kd.R_drew)); exact B0.out) (Kd.R_typed (by (with_reducible repeat (first | apply Kd.R_alloc | apply Kd.R_drewN | apply Kd.R_drew)); exact Bl.out)) (by decide) hg); replace B2 := am_ (blk_grown (g := Bz) (o := .cells #[.int .i64 Bm, .int .i64 Bp, .int .i64 Bq, .int .i64 Br, .int .i64 Bs, .int .i64 Bt, .int .i64 Bu, .int .i64 Bv, .int .i64 Bo, .int .i64 Bw, .slice D1 B6.length By] 24 (0, 0)) (by (with_reducible repeat (first | apply kn_ | apply kd_ | apply ka_)); exact B2.out) hg (Kd.R_ne Bl.out B2.out (by decide))); replace B4 := am_ (blk_grown (g := Bh) (o := .cells #[.int .i64 0, .string (⟨#[]⟩ : ByteArray), .slice none 0 0, .slice none 0 0] 32 (0, 0)) (by (with_reducible repeat (first | apply kn_ | apply kd_ | apply ka_)); exact B4.out) hg (Kd.R_ne Bl.out B4.out (by decide))); replace B1 := am_ (blk_grown (g := B9) (o := .cells #[.int .i64 Bd, .string (⟨#[]⟩ : ByteArray), u406002, .slice none 0 0] 32 (0, 0)) (by (with_reducible repeat (first | apply kn_ | apply kd_ | apply ka_)); exact B1.out) hg (Kd.R_ne Bl.out B1.out (by decide))); replace HB := am_ (hb); have D8 := am_ (ho); clear Bl; clear ho hb hg hat; have E6 : 0 ≤ (Bg : Int) := of_decide_eq_true (by first | (with_reducible assumption) | assumption); have E7 : Bg < (l4.length : Int) := of_decide_eq_true (by first | (with_reducible assumption) | assumption); obtain ⟨O2, Ld, D6⟩ := Kd.at_string Re.out Bg E6 E7; cases Ld; replace D6 := (HB.out.cell (World.block_lt_of_cell? w _ D6)).trans D6; replace E6 := eq_true E6; replace E7 := eq_true E7) | ((with_reducible refine gate_callee (f := 29) rfl ?_); refine gom_ (some 52) Try.func29 (r38_cut.calls (rdOf ByteArray.empty l4 Bg) _ _ Rg.out) ?_; rintro e w41 ⟨rfl, hb⟩; refine ⟨_, rfl, ?_⟩; replace B0 := am_ (Kd.R_below B0.out hb); replace D8 := am_ (Kd.R_below D8.out hb); replace B2 := bkb_ B2 hb; replace B4 := bkb_ B4 hb; replace B1 := bkb_ B1 hb; replace HB := bst_ HB hb; (try clear hb); have O3 := D3.out; have O4 := Bf.out; have Ep := cells_4 B1.out; have Eq := frozen_4 B1.out) | ((with_reducible refine gate_builtin (b := .append) (xs := #[.tmp 54, .tmp 56]) rfl ?_); at_builtin; refine Kd.R_append Kd.string (w0 := w) w.heap.size rfl (.tmp 54) (.tmp 56) 27 9 (.string ⟨#[]⟩) 16 rfl Try.underlying27 info9 rfl (by decide) (by omega) u406002 B3 El [.string El] (fun _ => True) (fun _ => False) rfl rfl ?aP (fun _ hk => hk.elim) ?aF ?aO ?aB ?aS ?aL ?_; (case aP => exact rfl); (case aB => exact (by repeat (first | (with_reducible first | exact HB.out | apply ba_ | apply bn_ | apply bd_ | refine bs_ ?_ Bj.out | refine bs_ ?_ Bk.out | refine bs_ ?_ Bn.out) | exact HB.out))); (case aF => exact (fun _ _ => trivial)); (case aO => exact (by (with_reducible repeat (first | apply Kd.R_alloc | apply Kd.R_drewN | apply Kd.R_drew)); exact B0.out)); (case aS => exact (below_size HB.out)); (case aL => have := Gl.out; omega); intro v416 w44 ho hb hg hat; rw [← Gm.out] at ho; replace B2 := am_ (blk_grown (g := Bz) (o := .cells #[.int .i64 Bm, .int .i64 Bp, .int .i64 Bq, .int .i64 Br, .int .i64 Bs, .int .i64 Bt, .int .i64 Bu, .int .i64 Bv, .int .i64 Bo, .int .i64 Bw, .slice D1 B6.length By] 24 (0, 0)) (by (with_reducible repeat (first | apply kn_ | apply kd_ | apply ka_)); exact B2.out) hg (Kd.R_ne B0.out B2.out (by decide))); replace B4 := am_ (blk_grown (g := Bh) (o := .cells #[.int .i64 0, .string (⟨#[]⟩ : ByteArray), .slice none 0 0, .slice none 0 0] 32 (0, 0)) (by (with_reducible repeat (first | apply kn_ | apply kd_ | apply ka_)); exact B4.out) hg (Kd.R_ne B0.out B4.out (by decide))); replace B1 := am_ (blk_grown (g := B9) (o := .cells #[.int .i64 Bd, .string (⟨#[]⟩ : ByteArray), u406002, .slice none 0 0] 32 (0, 0)) (by (with_reducible repeat (first | apply kn_ | apply kd_ | apply ka_)); exact B1.out) hg (Kd.R_ne B0.out B1.out (by decide))); replace D8 := am_ (Kd.R_over' (by (with_reducible repeat (first | apply Kd.R_alloc | apply Kd.R_drewN | apply Kd.R_drew)); exact D8.out) (Kd.R_typed (by (with_reducible repeat (first | apply Kd.R_alloc | apply Kd.R_drewN | apply Kd.R_drew)); exact B0.out)) (by decide) hg); replace HB := am_ (hb); have Fk := am_ (ho); clear B0; clear ho hb hg hat; obtain ⟨G3, G4, Le⟩ := Kd.R_slice Fk.out; subst Le; have Er := cells_4 B1.out; have Es := frozen_4 B1.out))
          go_roundg k1
          case measure => have := Dn.out; omega
          case rel => exact ⟨(y410), (wrap64 (Bg + 1)), (y415), (.slice G3 y415.length G4), (by first | rfl | (simp; done) | (simp [*]; done)), H', ⟨by have := Dn.out; omega⟩, ⟨by (with_reducible repeat (first | apply Kd.R_alloc | apply Kd.R_drewN | apply Kd.R_drew)); exact Kd.R_mono (Kd.R_far (p := ⟨B9, 2, none⟩) (Kd.R_types D8.out B1.out (by decide)) (fun _ hk => hk.2) (.slice G3 y415.length G4)) (fun _ hk => trivial)⟩, ⟨by (with_reducible repeat (first | apply Kd.R_alloc | apply Kd.R_drewN | apply Kd.R_drew)); exact Kd.R_mono (Kd.R_far (p := ⟨B9, 2, none⟩) (Kd.R_types Fk.out B1.out (by decide)) (fun _ hk => hk.2) (.slice G3 y415.length G4)) (fun _ hk => trivial)⟩, ⟨by (with_reducible repeat (first | apply kn_ | apply kd_ | apply ka_)); refine blk_far ?_ B8.out _; (with_reducible repeat (first | apply kn_ | apply kd_ | apply ka_)); exact B2.out⟩, ⟨by (with_reducible repeat (first | apply kn_ | apply kd_ | apply ka_)); refine blk_far ?_ Bf.out _; (with_reducible repeat (first | apply kn_ | apply kd_ | apply ka_)); exact B4.out⟩, ⟨by (with_reducible repeat (first | apply kn_ | apply kd_ | apply ka_)); refine blk_put (cs := #[.int .i64 Bd, .string (⟨#[]⟩ : ByteArray), u406002, .slice none 0 0]) ?_ 2 _ rfl; (with_reducible repeat (first | apply kn_ | apply kd_ | apply ka_)); exact B1.out⟩, ⟨by repeat (first | (with_reducible first | exact HB.out | apply ba_ | apply bn_ | apply bd_ | refine bs_ ?_ Bj.out | refine bs_ ?_ Bk.out | refine bs_ ?_ Bn.out) | exact HB.out)⟩⟩
         ·rw [if_neg G2] at H
          exact absurd H (by simp)
        ·rw [if_neg G1] at H
         exact absurd H (by simp)
       ·rw [if_neg Fe] at H
        have Dz : decide (Bg < (l4.length : Int)) = false := decide_eq_false Fe
        clear Fe
        by_cases G5 : B3.length < 8796093022208
        ·rw [if_pos G5] at H
         have Gp := am_ G5
         clear G5
         obtain ⟨y418, hy418⟩ : ∃ y_ : List ByteArray, y_ = (B3 ++ [(⟨#[]⟩ : ByteArray)]) := ⟨_, rfl⟩
         replace H : (r38_Play.l0 k1 l1 a3 l4 l5 y410 (wrap64 (Bg + 1)) Bm Bp Bq Br Bs Bt Bu Bv Bo Bw B6 Bd (⟨#[]⟩ : ByteArray) y418) = some (r1, r2, r3, r4) := by first | (rw [hy418]; with_reducible exact H) | (have Db := (Option.bind_some _ _).symm.trans H; rw [hy418]; with_reducible exact Db) | (have Db := (Option.bind_some _ _).symm.trans H; with_reducible exact Db) | with_reducible exact H | (rw [hy418]; exact H) | exact H
         have Gq := am_ hy418
         clear hy418
         have H' := am_ H
         clear H
         have O5 := Bb.out
         have O6 := Be.out
         have O7 := B8.out
         have O8 := Bi.out
         have Et := cells_11 B2.out
         have Eu := frozen_11 B2.out
         go_wp2_with (first | ((with_reducible refine gate_callee (f := 28) rfl ?_); refine gom_ (some 38) Try.func28 (r14_In.calls k1 _ _ l1 Bg _ _ (Kd.C_below Fu.out HB.out) Fv.out Lb.out) ?_; rintro e w' ⟨rfl, ⟨nd, rfl⟩⟩; refine ⟨_, rfl, ?_⟩; (try (rw [drewN_self wr]; generalize hq_ : World.drewN wr _ = wr; have Di : Aside0 (Kd.R (Kd.int .i64) 3 wr w.heap.size (fun _ => True) u14 D5) := ⟨by rw [← hq_]; exact (by (with_reducible repeat (first | apply Kd.R_alloc | apply Kd.R_drewN | apply Kd.R_drew)); exact Bl.out)⟩; have Dj : Aside0 (Kd.R Kd.string 9 wr w.heap.size (fun _ => True) u406002 B3) := ⟨by rw [← hq_]; exact (by (with_reducible repeat (first | apply Kd.R_alloc | apply Kd.R_drewN | apply Kd.R_drew)); exact B0.out)⟩; have Dk : Aside0 (wr.heap[Bz]? = some (.cells #[.int .i64 Bm, .int .i64 Bp, .int .i64 Bq, .int .i64 Br, .int .i64 Bs, .int .i64 Bt, .int .i64 Bu, .int .i64 Bv, .int .i64 Bo, .int .i64 Bw, .slice D1 B6.length By] 24 (0, 0))) := ⟨by rw [← hq_]; exact (by (with_reducible repeat (first | apply kn_ | apply kd_ | apply ka_)); exact B2.out)⟩; have Dw : Aside0 (wr.heap[Bh]? = some (.cells #[.int .i64 0, .string (⟨#[]⟩ : ByteArray), .slice none 0 0, .slice none 0 0] 32 (0, 0))) := ⟨by rw [← hq_]; exact (by (with_reducible repeat (first | apply kn_ | apply kd_ | apply ka_)); exact B4.out)⟩; have Dx : Aside0 (wr.heap[B9]? = some (.cells #[.int .i64 Bd, .string (⟨#[]⟩ : ByteArray), u406002, .slice none 0 0] 32 (0, 0))) := ⟨by rw [← hq_]; exact (by (with_reducible repeat (first | apply kn_ | apply kd_ | apply ka_)); exact B1.out)⟩; have Dy : Aside0 (Below w.heap.size w wr) := ⟨by rw [← hq_]; exact (by repeat (first | (with_reducible first | exact HB.out | apply ba_ | apply bn_ | apply bd_ | refine bs_ ?_ Bj.out | refine bs_ ?_ Bk.out | refine bs_ ?_ Bn.out) | exact HB.out))⟩; clear Bl B0 B2 B4 B1 HB hq_; have Bl := Di; have B0 := Dj; have B2 := Dk; have B4 := Dw; have B1 := Dx; have HB := Dy; clear Di Dj Dk Dw Dx Dy))) | ((with_reducible refine gate_builtin (b := .append) (xs := #[.tmp 40, .tmp 42]) rfl ?_); at_builtin; refine Kd.R_append (Kd.int .i64) (w0 := w) w.heap.size rfl (.tmp 40) (.tmp 42) 22 3 (.int .i64 0) 8 rfl Try.underlying22 info3 rfl (by decide) (by omega) u14 D5 Bg [.int .i64 Bg] (fun _ => True) (fun _ => False) rfl rfl ?aP (fun _ hk => hk.elim) ?aF ?aO ?aB ?aS ?aL ?_; (case aP => exact rfl); (case aB => exact (by repeat (first | (with_reducible first | exact HB.out | apply ba_ | apply bn_ | apply bd_ | refine bs_ ?_ Bj.out | refine bs_ ?_ Bk.out | refine bs_ ?_ Bn.out) | exact HB.out))); (case aF => exact (fun _ _ => trivial)); (case aO => exact (by (with_reducible repeat (first | apply Kd.R_alloc | apply Kd.R_drewN | apply Kd.R_drew)); exact Bl.out)); (case aS => exact (below_size HB.out)); (case aL => have := Fi.out; omega); intro v411 w51 ho hb hg hat; rw [← Fj.out] at ho; replace B0 := am_ (Kd.R_over' (by (with_reducible repeat (first | apply Kd.R_alloc | apply Kd.R_drewN | apply Kd.R_drew)); exact B0.out) (Kd.R_typed (by (with_reducible repeat (first | apply Kd.R_alloc | apply Kd.R_drewN | apply Kd.R_drew)); exact Bl.out)) (by decide) hg); replace B2 := am_ (blk_grown (g := Bz) (o := .cells #[.int .i64 Bm, .int .i64 Bp, .int .i64 Bq, .int .i64 Br, .int .i64 Bs, .int .i64 Bt, .int .i64 Bu, .int .i64 Bv, .int .i64 Bo, .int .i64 Bw, .slice D1 B6.length By] 24 (0, 0)) (by (with_reducible repeat (first | apply kn_ | apply kd_ | apply ka_)); exact B2.out) hg (Kd.R_ne Bl.out B2.out (by decide))); replace B4 := am_ (blk_grown (g := Bh) (o := .cells #[.int .i64 0, .string (⟨#[]⟩ : ByteArray), .slice none 0 0, .slice none 0 0] 32 (0, 0)) (by (with_reducible repeat (first | apply kn_ | apply kd_ | apply ka_)); exact B4.out) hg (Kd.R_ne Bl.out B4.out (by decide))); replace B1 := am_ (blk_grown (g := B9) (o := .cells #[.int .i64 Bd, .string (⟨#[]⟩ : ByteArray), u406002, .slice none 0 0] 32 (0, 0)) (by (with_reducible repeat (first | apply kn_ | apply kd_ | apply ka_)); exact B1.out) hg (Kd.R_ne Bl.out B1.out (by decide))); replace HB := am_ (hb); have D8 := am_ (ho); clear Bl; clear ho hb hg hat; have O9 := D3.out; have Oa := Bf.out; have Ev := cells_4 B1.out; have Ew := frozen_4 B1.out) | ((with_reducible refine gate_builtin (b := .append) (xs := #[.tmp 54, .tmp 56]) rfl ?_); at_builtin; refine Kd.R_append Kd.string (w0 := w) w.heap.size rfl (.tmp 54) (.tmp 56) 27 9 (.string ⟨#[]⟩) 16 rfl Try.underlying27 info9 rfl (by decide) (by omega) u406002 B3 (⟨#[]⟩ : ByteArray) [.string (⟨#[]⟩ : ByteArray)] (fun _ => True) (fun _ => False) rfl rfl ?aP (fun _ hk => hk.elim) ?aF ?aO ?aB ?aS ?aL ?_; (case aP => exact rfl); (case aB => exact (by repeat (first | (with_reducible first | exact HB.out | apply ba_ | apply bn_ | apply bd_ | refine bs_ ?_ Bj.out | refine bs_ ?_ Bk.out | refine bs_ ?_ Bn.out) | exact HB.out))); (case aF => exact (fun _ _ => trivial)); (case aO => exact (by (with_reducible repeat (first | apply Kd.R_alloc | apply Kd.R_drewN | apply Kd.R_drew)); exact B0.out)); (case aS => exact (below_size HB.out)); (case aL => have := Gp.out; omega); intro v419 w54 ho hb hg hat; rw [← Gq.out] at ho; replace B2 := am_ (blk_grown (g := Bz) (o := .cells #[.int .i64 Bm, .int .i64 Bp, .int .i64 Bq, .int .i64 Br, .int .i64 Bs, .int .i64 Bt, .int .i64 Bu, .int .i64 Bv, .int .i64 Bo, .int .i64 Bw, .slice D1 B6.length By] 24 (0, 0)) (by (with_reducible repeat (first | apply kn_ | apply kd_ | apply ka_)); exact B2.out) hg (Kd.R_ne B0.out B2.out (by decide))); replace B4 := am_ (blk_grown (g := Bh) (o := .cells #[.int .i64 0, .string (⟨#[]⟩ : ByteArray), .slice none 0 0, .slice none 0 0] 32 (0, 0)) (by (with_reducible repeat (first | apply kn_ | apply kd_ | apply ka_)); exact B4.out) hg (Kd.R_ne B0.out B4.out (by decide))); replace B1 := am_ (blk_grown (g := B9) (o := .cells #[.int .i64 Bd, .string (⟨#[]⟩ : ByteArray), u406002, .slice none 0 0] 32 (0, 0)) (by (with_reducible repeat (first | apply kn_ | apply kd_ | apply ka_)); exact B1.out) hg (Kd.R_ne B0.out B1.out (by decide))); replace D8 := am_ (Kd.R_over' (by (with_reducible repeat (first | apply Kd.R_alloc | apply Kd.R_drewN | apply Kd.R_drew)); exact D8.out) (Kd.R_typed (by (with_reducible repeat (first | apply Kd.R_alloc | apply Kd.R_drewN | apply Kd.R_drew)); exact B0.out)) (by decide) hg); replace HB := am_ (hb); have Fl := am_ (ho); clear B0; clear ho hb hg hat; obtain ⟨G6, G7, Lf⟩ := Kd.R_slice Fl.out; subst Lf; have Ex := cells_4 B1.out; have Ey := frozen_4 B1.out))
         go_roundg k1
         case measure => have := Dn.out; omega
         case rel => exact ⟨(y410), (wrap64 (Bg + 1)), (y418), (.slice G6 y418.length G7), (by first | rfl | (simp; done) | (simp [*]; done)), H', ⟨by have := Dn.out; omega⟩, ⟨by (with_reducible repeat (first | apply Kd.R_alloc | apply Kd.R_drewN | apply Kd.R_drew)); exact Kd.R_mono (Kd.R_far (p := ⟨B9, 2, none⟩) (Kd.R_types D8.out B1.out (by decide)) (fun _ hk => hk.2) (.slice G6 y418.length G7)) (fun _ hk => trivial)⟩, ⟨by (with_reducible repeat (first | apply Kd.R_alloc | apply Kd.R_drewN | apply Kd.R_drew)); exact Kd.R_mono (Kd.R_far (p := ⟨B9, 2, none⟩) (Kd.R_types Fl.out B1.out (by decide)) (fun _ hk => hk.2) (.slice G6 y418.length G7)) (fun _ hk => trivial)⟩, ⟨by (with_reducible repeat (first | apply kn_ | apply kd_ | apply ka_)); refine blk_far ?_ B8.out _; (with_reducible repeat (first | apply kn_ | apply kd_ | apply ka_)); exact B2.out⟩, ⟨by (with_reducible repeat (first | apply kn_ | apply kd_ | apply ka_)); refine blk_far ?_ Bf.out _; (with_reducible repeat (first | apply kn_ | apply kd_ | apply ka_)); exact B4.out⟩, ⟨by (with_reducible repeat (first | apply kn_ | apply kd_ | apply ka_)); refine blk_put (cs := #[.int .i64 Bd, .string (⟨#[]⟩ : ByteArray), u406002, .slice none 0 0]) ?_ 2 _ rfl; (with_reducible repeat (first | apply kn_ | apply kd_ | apply ka_)); exact B1.out⟩, ⟨by repeat (first | (with_reducible first | exact HB.out | apply ba_ | apply bn_ | apply bd_ | refine bs_ ?_ Bj.out | refine bs_ ?_ Bk.out | refine bs_ ?_ Bn.out) | exact HB.out)⟩⟩
        ·rw [if_neg G5] at H
         exact absurd H (by simp)
      ·rw [if_neg G0] at H
       exact absurd H (by simp)
    ·rw [if_neg Fd] at H
     have Dv : decide (Bg < Bm) = false := decide_eq_false Fd
     clear Fd
     obtain ⟨D4, Rh, H⟩ := bes_ H
     try dsimp only at H
     have H' := am_ H
     clear H
     have Ob := Bb.out
     have Oc := Be.out
     have Od := B8.out
     have Oe := Bi.out
     have Ez := cells_11 B2.out
     have F0 := frozen_11 B2.out
     obtain ⟨Ri, Rj, Lg⟩ := Kd.R_slice Bl.out
     subst Lg
     go_wp2_with (first | ((with_reducible refine gate_callee (f := 30) rfl ?_); refine gom_ (some 62) Try.func30 (r25_Mark.calls k1 Bm Bp Bq Br Bs Bt Bu Bv Bo Bw _ _ B6 a3 _ _ D5 _ _ (Kd.C_below Da.out HB.out) Do.out (Kd.R_reads' Bl.out).2.2 (Kd.R_reads' Bl.out).2.1 Rh.out) ?_; rintro e w62 ⟨rfl, hb⟩; refine ⟨_, rfl, ?_⟩; replace Bl := am_ (Kd.R_below Bl.out hb); replace B0 := am_ (Kd.R_below B0.out hb); replace B2 := bkb_ B2 hb; replace B4 := bkb_ B4 hb; replace B1 := bkb_ B1 hb; replace HB := bst_ HB hb; (try clear hb); have Of := D3.out; have Og := Bf.out; have F1 := cells_4 B1.out; have F2 := frozen_4 B1.out))
     go_loopg [17] k1 (fun kq v17 w' => ∃ (Bx : Int) (Ba : List (List (S45))) (u406003 : Value), v17 = .int .i64 Bx ∧ Aside0 (r38_Play.l1 kq l1 l5 Bx Bm Bp Bq Br Bs Bt Bu Bv Bo Bw B6 Bd D4 B3 Ba = some (r1, r2, r3, r4)) ∧ Aside0 (kq ≤ k1) ∧ Aside0 (Kd.R Kd.string 9 w' w.heap.size (fun _ => True) u406002 B3) ∧ Aside0 (Kd.S (Kd.slice 45 k45) 42 w' w.heap.size (fun _ => True) u406003 Ba) ∧ Aside0 (w'.heap[Bz]? = some (.cells #[.int .i64 Bm, .int .i64 Bp, .int .i64 Bq, .int .i64 Br, .int .i64 Bs, .int .i64 Bt, .int .i64 Bu, .int .i64 Bv, .int .i64 Bo, .int .i64 Bw, (.slice D1 B6.length By)] 24 (0, 0))) ∧ Aside0 (w'.heap[Bh]? = some (.cells #[.int .i64 0, .string (⟨#[]⟩ : ByteArray), (.slice none 0 0), (.slice none 0 0)] 32 (0, 0))) ∧ Aside0 (w'.heap[B9]? = some (.cells #[.int .i64 Bd, .string D4, u406002, u406003] 32 (0, 0))) ∧ Aside0 (Below w.heap.size w w'))
     case atStart => exact ⟨(0), (([] : List (List (S45)))), (.slice none 0 0), (by first | rfl | (simp; done) | (simp [*]; done)), H', ⟨Nat.le_refl _⟩, ⟨by (with_reducible repeat (first | apply Kd.R_alloc | apply Kd.R_drewN | apply Kd.R_drew)); exact Kd.R_mono (Kd.R_far (p := ⟨B9, 1, none⟩) (Kd.R_types B0.out B1.out (by decide)) (fun _ hk => hk.2) (.string D4)) (fun _ hk => trivial)⟩, ⟨by first | exact Kd.S_nil _ _ _ _ _ | exact Kd.N_nil _ _ _ _ _ | exact Kd.V_nil _ _ _ _ _ | exact Kd.Q_nil _ _ _ _ _ | exact Kd.R_nil _ _ _ _ _⟩, ⟨by (with_reducible repeat (first | apply kn_ | apply kd_ | apply ka_)); refine blk_far ?_ B8.out _; (with_reducible repeat (first | apply kn_ | apply kd_ | apply ka_)); exact B2.out⟩, ⟨by (with_reducible repeat (first | apply kn_ | apply kd_ | apply ka_)); refine blk_far ?_ Bf.out _; (with_reducible repeat (first | apply kn_ | apply kd_ | apply ka_)); exact B4.out⟩, ⟨by (with_reducible repeat (first | apply kn_ | apply kd_ | apply ka_)); refine blk_put (cs := #[.int .i64 Bd, .string (⟨#[]⟩ : ByteArray), u406002, .slice none 0 0]) ?_ 1 _ rfl; (with_reducible repeat (first | apply kn_ | apply kd_ | apply ka_)); exact B1.out⟩, ⟨by repeat (first | (with_reducible first | exact HB.out | apply ba_ | apply bn_ | apply bd_ | refine bs_ ?_ Bj.out | refine bs_ ?_ Bk.out | refine bs_ ?_ Bn.out) | exact HB.out)⟩⟩
     case round =>
      clear H'
      try clear c1
      try clear c2
      try clear p2
      try clear c3
      try clear c4
      try clear p4
      try clear q4
      try clear hx4
      try clear c5
      try clear c6
      try clear p6
      try clear c8
      try clear Eb
      try clear Ec
      try clear c10
      try clear c12
      try clear c16
      try clear c17
      try clear c18
      try clear Fd
      try clear Dv
      try clear Fw
      try clear Fx
      try clear c24
      try clear c25
      try clear c27
      try clear c28
      try clear c29
      try clear c30
      try clear G0
      try clear Fe
      try clear Dz
      try clear G1
      try clear Em
      try clear G2
      try clear c37
      try clear c38
      try clear p41
      try clear q41
      try clear hx41
      try clear c42
      try clear G5
      try clear c48
      try clear c49
      try clear c52
      try clear c58
      try clear c59
      try clear c63
      try clear p64
      try clear Dp
      try clear Dr
      try clear Dt
      try clear Ef
      try clear Eh
      try clear Ej
      try clear En
      try clear Ep
      try clear Er
      try clear Et
      try clear Ev
      try clear Ex
      try clear Ez
      try clear F1
      try clear Dq
      try clear Ds
      try clear Du
      try clear Eg
      try clear Ei
      try clear Ek
      try clear Eo
      try clear Eq
      try clear Es
      try clear Eu
      try clear Ew
      try clear Ey
      try clear F0
      try clear F2
      try clear D6
      try clear p2
      try clear E6
      try clear E7
      obtain ⟨Bx, Ba, u406003, rfl, HA, Fb, B0, B5, B2, B4, B1, HB⟩ := hrel
      cases gk with
      | zero => exact absurd HA.out (by simp [r38_Play.l1])
      | succ k2 =>
       have H := HA.out
       clear HA
       simp only [r38_Play.l1] at H
       by_cases Fm : Bx < Bm
       ·rw [if_pos Fm] at H
        have F3 : decide (Bx < Bm) = true := decide_eq_true Fm
        clear Fm
        have H' := am_ H
        clear H
        have Oh := Bb.out
        have Oi := Be.out
        have Oj := B8.out
        have Ok := Bi.out
        have Fn := cells_11 B2.out
        have Fo := frozen_11 B2.out
        go_wp2
        go_loopg [18, 19] k2 (fun kq v18 v19 w' => ∃ (D2 : List (S45)) (B7 : Int), v19 = .int .i64 B7 ∧ Aside0 (r38_Play.l2 kq l1 l5 Bx D2 B7 Bm Bp Bq Br Bs Bt Bu Bv Bo Bw B6 Bd D4 B3 Ba = some (r1, r2, r3, r4)) ∧ Aside0 (kq ≤ k2) ∧ Aside0 (Kd.R k45 45 w' w.heap.size (fun _ => True) v18 D2) ∧ Aside0 (Kd.R Kd.string 9 w' w.heap.size (fun _ => True) u406002 B3) ∧ Aside0 (Kd.S (Kd.slice 45 k45) 42 w' w.heap.size (fun k_ => some k_ ≠ (v18 : Value).ownBlock) u406003 Ba) ∧ Aside0 (w'.heap[Bz]? = some (.cells #[.int .i64 Bm, .int .i64 Bp, .int .i64 Bq, .int .i64 Br, .int .i64 Bs, .int .i64 Bt, .int .i64 Bu, .int .i64 Bv, .int .i64 Bo, .int .i64 Bw, (.slice D1 B6.length By)] 24 (0, 0))) ∧ Aside0 (w'.heap[Bh]? = some (.cells #[.int .i64 0, .string (⟨#[]⟩ : ByteArray), (.slice none 0 0), (.slice none 0 0)] 32 (0, 0))) ∧ Aside0 (w'.heap[B9]? = some (.cells #[.int .i64 Bd, .string D4, u406002, u406003] 32 (0, 0))) ∧ Aside0 (Below w.heap.size w w'))
        case atStart => exact ⟨(([] : List (S45))), (0), (by first | rfl | (simp; done) | (simp [*]; done)), H', ⟨Nat.le_refl _⟩, ⟨by first | exact Kd.R_nil _ _ _ _ _ | exact Kd.N_nil _ _ _ _ _ | exact Kd.V_nil _ _ _ _ _ | exact Kd.Q_nil _ _ _ _ _ | exact Kd.S_nil _ _ _ _ _⟩, ⟨by (with_reducible repeat (first | apply Kd.R_alloc | apply Kd.R_drewN | apply Kd.R_drew)); exact B0.out⟩, ⟨by (with_reducible repeat (first | apply Kd.S_alloc | apply Kd.S_drewN | apply Kd.S_drew)); exact Kd.S_mono B5.out (fun _ hk => (by simp [Value.ownBlock]))⟩, ⟨by (with_reducible repeat (first | apply kn_ | apply kd_ | apply ka_)); exact B2.out⟩, ⟨by (with_reducible repeat (first | apply kn_ | apply kd_ | apply ka_)); exact B4.out⟩, ⟨by (with_reducible repeat (first | apply kn_ | apply kd_ | apply ka_)); exact B1.out⟩, ⟨by repeat (first | (with_reducible first | exact HB.out | apply ba_ | apply bn_ | apply bd_ | refine bs_ ?_ Bj.out | refine bs_ ?_ Bk.out | refine bs_ ?_ Bn.out) | exact HB.out)⟩⟩
        case round =>
         clear H'
         try clear c1
         try clear c2
         try clear p2
         try clear c3
         try clear c4
         try clear p4
         try clear q4
         try clear hx4
         try clear c5
         try clear c6
         try clear p6
         try clear c8
         try clear Eb
         try clear Ec
         try clear c10
         try clear c12
         try clear c16
         try clear c17
         try clear c18
         try clear Fd
         try clear Dv
         try clear Fw
         try clear Fx
         try clear c24
         try clear c25
         try clear c27
         try clear c28
         try clear c29
         try clear c30
         try clear G0
         try clear Fe
         try clear Dz
         try clear G1
         try clear Em
         try clear G2
         try clear c37
         try clear c38
         try clear p41
         try clear q41
         try clear hx41
         try clear c42
         try clear G5
         try clear c48
         try clear c49
         try clear c52
         try clear c58
         try clear c59
         try clear c63
         try clear p64
         try clear Fm
         try clear F3
         try clear c66
         try clear c67
         try clear Dp
         try clear Dr
         try clear Dt
         try clear Ef
         try clear Eh
         try clear Ej
         try clear En
         try clear Ep
         try clear Er
         try clear Et
         try clear Ev
         try clear Ex
         try clear Ez
         try clear F1
         try clear Fn
         try clear Dq
         try clear Ds
         try clear Du
         try clear Eg
         try clear Ei
         try clear Ek
         try clear Eo
         try clear Eq
         try clear Es
         try clear Eu
         try clear Ew
         try clear Ey
         try clear F0
         try clear F2
         try clear Fo
         try clear D6
         try clear p2
         try clear p4
         try clear p41
         try clear E6
         try clear p6
         try clear p64
         try clear q4
         try clear q41
         try clear E7
         obtain ⟨D2, B7, rfl, HA, Fc, Bc, B0, B5, B2, B4, B1, HB⟩ := hrel
         cases gk with
         | zero => exact absurd HA.out (by simp [r38_Play.l2])
         | succ k3 =>
          have H := HA.out
          clear HA
          simp only [r38_Play.l2] at H
          have G8 := am_ H
          clear H
          go_upto_region 20 with (fail)
          go_cut [80] (fun v80 wc => ∃ (kq : Nat) (Dh : Bool), v80 = .bool Dh ∧ Aside0 (r38_Play.j3 kq l1 l5 Bx D2 B7 Dh Bm Bp Bq Br Bs Bt Bu Bv Bo Bw B6 Bd D4 B3 Ba = some (r1, r2, r3, r4)) ∧ Aside0 (kq ≤ k3) ∧ Aside0 (Kd.R k45 45 wc w.heap.size (fun _ => True) u18 D2) ∧ Aside0 (Kd.R Kd.string 9 wc w.heap.size (fun _ => True) u406002 B3) ∧ Aside0 (Kd.S (Kd.slice 45 k45) 42 wc w.heap.size (fun k_ => some k_ ≠ (u18 : Value).ownBlock) u406003 Ba) ∧ Aside0 (wc.heap[Bz]? = some (.cells #[.int .i64 Bm, .int .i64 Bp, .int .i64 Bq, .int .i64 Br, .int .i64 Bs, .int .i64 Bt, .int .i64 Bu, .int .i64 Bv, .int .i64 Bo, .int .i64 Bw, (.slice D1 B6.length By)] 24 (0, 0))) ∧ Aside0 (wc.heap[Bh]? = some (.cells #[.int .i64 0, .string (⟨#[]⟩ : ByteArray), (.slice none 0 0), (.slice none 0 0)] 32 (0, 0))) ∧ Aside0 (wc.heap[B9]? = some (.cells #[.int .i64 Bd, .string D4, u406002, u406003] 32 (0, 0))) ∧ Aside0 (Below w.heap.size w wc))
          case first =>
           have H := G8.out
           clear G8
           by_cases G9 : B7 < (B6.length : Int)
           ·rw [if_pos G9] at H
            have Df : decide (B7 < (B6.length : Int)) = true := decide_eq_true G9
            clear G9
            (first | rw [Df] | (simp only [i64_w, i32_w]; rw [Df]) | skip)
            obtain ⟨Lh, Rk, H⟩ := bes_ H
            try dsimp only at H
            have H' := am_ H
            clear H
            have Ol := Bb.out
            have Om := Be.out
            have On := B8.out
            have Oo := Bi.out
            have Gr := cells_11 B2.out
            have Gs := frozen_11 B2.out
            go_wp2_with (first | (go_at_call 28; (with_reducible refine (r14_In.calls k3 _ _ l1 Bx _ _ (Kd.C_below Fu.out HB.out) Fv.out Rk.out).mono ?_); rintro e w' ⟨rfl, ⟨nd, rfl⟩⟩))
            go_meet
            case rel => exact ⟨_, (!Lh), (by first | rfl | (simp; done) | (simp [*]; done)), H', ⟨by have := Dn.out; have := Fb.out; have := Fc.out; first | omega | exact Nat.le_refl _⟩, ⟨by (with_reducible repeat (first | apply Kd.R_alloc | apply Kd.R_drewN | apply Kd.R_drew)); exact Bc.out⟩, ⟨by (with_reducible repeat (first | apply Kd.R_alloc | apply Kd.R_drewN | apply Kd.R_drew)); exact B0.out⟩, ⟨by (with_reducible repeat (first | apply Kd.S_alloc | apply Kd.S_drewN | apply Kd.S_drew)); exact B5.out⟩, ⟨by (with_reducible repeat (first | apply kn_ | apply kd_ | apply ka_)); exact B2.out⟩, ⟨by (with_reducible repeat (first | apply kn_ | apply kd_ | apply ka_)); exact B4.out⟩, ⟨by (with_reducible repeat (first | apply kn_ | apply kd_ | apply ka_)); exact B1.out⟩, ⟨by repeat (first | (with_reducible first | exact HB.out | apply ba_ | apply bn_ | apply bd_ | refine bs_ ?_ Bj.out | refine bs_ ?_ Bk.out | refine bs_ ?_ Bn.out) | exact HB.out)⟩⟩
           ·rw [if_neg G9] at H
            have Df : decide (B7 < (B6.length : Int)) = false := decide_eq_false G9
            clear G9
            (first | rw [Df] | (simp only [i64_w, i32_w]; rw [Df]) | skip)
            have H' := am_ H
            clear H
            have Op := Bb.out
            have Oq := Be.out
            have Or := B8.out
            have Os := Bi.out
            have Gt := cells_11 B2.out
            have Gu := frozen_11 B2.out
            go_wp2
            go_meet
            case rel => exact ⟨_, (false), (by first | rfl | (simp; done) | (simp [*]; done)), H', ⟨by have := Dn.out; have := Fb.out; have := Fc.out; first | omega | exact Nat.le_refl _⟩, ⟨by (with_reducible repeat (first | apply Kd.R_alloc | apply Kd.R_drewN | apply Kd.R_drew)); exact Bc.out⟩, ⟨by (with_reducible repeat (first | apply Kd.R_alloc | apply Kd.R_drewN | apply Kd.R_drew)); exact B0.out⟩, ⟨by (with_reducible repeat (first | apply Kd.S_alloc | apply Kd.S_drewN | apply Kd.S_drew)); exact B5.out⟩, ⟨by (with_reducible repeat (first | apply kn_ | apply kd_ | apply ka_)); exact B2.out⟩, ⟨by (with_reducible repeat (first | apply kn_ | apply kd_ | apply ka_)); exact B4.out⟩, ⟨by (with_reducible repeat (first | apply kn_ | apply kd_ | apply ka_)); exact B1.out⟩, ⟨by repeat (first | (with_reducible first | exact HB.out | apply ba_ | apply bn_ | apply bd_ | refine bs_ ?_ Bj.out | refine bs_ ?_ Bk.out | refine bs_ ?_ Bn.out) | exact HB.out)⟩⟩
          case rest =>
           clear G8
           try clear c1
           try clear c2
           try clear p2
           try clear c3
           try clear c4
           try clear p4
           try clear q4
           try clear hx4
           try clear c5
           try clear c6
           try clear p6
           try clear c7
           try clear c8
           try clear Eb
           try clear Ec
           try clear c10
           try clear c12
           try clear c16
           try clear c17
           try clear c18
           try clear Fd
           try clear Dv
           try clear Fw
           try clear Fx
           try clear c24
           try clear c25
           try clear c27
           try clear c28
           try clear c29
           try clear c30
           try clear G0
           try clear Fe
           try clear Dz
           try clear G1
           try clear Em
           try clear G2
           try clear c37
           try clear c38
           try clear p41
           try clear q41
           try clear hx41
           try clear c42
           try clear G5
           try clear c48
           try clear c49
           try clear c52
           try clear c58
           try clear c59
           try clear c63
           try clear p64
           try clear Fm
           try clear F3
           try clear c66
           try clear c67
           try clear G9
           try clear Df
           try clear c72
           try clear c73
           try clear c75
           try clear c76
           try clear Dp
           try clear Dr
           try clear Dt
           try clear Ef
           try clear Eh
           try clear Ej
           try clear En
           try clear Ep
           try clear Er
           try clear Et
           try clear Ev
           try clear Ex
           try clear Ez
           try clear F1
           try clear Fn
           try clear Gr
           try clear Gt
           try clear Dq
           try clear Ds
           try clear Du
           try clear Eg
           try clear Ei
           try clear Ek
           try clear Eo
           try clear Eq
           try clear Es
           try clear Eu
           try clear Ew
           try clear Ey
           try clear F0
           try clear F2
           try clear Fo
           try clear Gs
           try clear Gu
           try clear D6
           try clear p2
           try clear p4
           try clear p41
           try clear E6
           try clear p6
           try clear p64
           try clear q4
           try clear q41
           try clear E7
           obtain ⟨kq, Dh, rfl, HA, Dl, Bc, B0, B5, B2, B4, B1, HB⟩ := hcut
           cases kq with
           | zero => exact absurd HA.out (by simp [r38_Play.j3])
           | succ Dc =>
            have H := HA.out
            clear HA
            simp only [r38_Play.j3] at H
            by_cases L0 : Dh = true
            ·subst L0
             rw [if_pos rfl] at H
             by_cases L1 : 0 ≤ B7
             ·rw [if_pos L1] at H
              have Ot : decide (0 ≤ B7) = true := decide_eq_true L1
              clear L1
              by_cases L2 : B7 < (B6.length : Int)
              ·rw [if_pos L2] at H
               have Ou : decide (B7 < (B6.length : Int)) = true := decide_eq_true L2
               clear L2
               obtain ⟨Li, Lj, H⟩ := bes_ H
               try dsimp only at H
               by_cases L3 : Li = true
               ·subst L3
                rw [if_pos rfl] at H
                by_cases Gh : Bx < (l5.length : Int)
                ·rw [if_pos Gh] at H
                 have Gv : decide (Bx < (l5.length : Int)) = true := decide_eq_true Gh
                 clear Gh
                 by_cases L4 : 0 ≤ Bx
                 ·rw [if_pos L4] at H
                  have Ov : decide (0 ≤ Bx) = true := decide_eq_true L4
                  clear L4
                  obtain ⟨F4, Rl, H⟩ := bes_ H
                  try dsimp only at H
                  by_cases L5 : D2.length + F4.length < 3518437208883
                  ·rw [if_pos L5] at H
                   have Gw := am_ L5
                   clear L5
                   obtain ⟨y432, hy432⟩ : ∃ y_ : List (S45), y_ = (D2 ++ F4) := ⟨_, rfl⟩
                   replace H : (r38_Play.l2 Dc l1 l5 Bx y432 (wrap64 (B7 + 1)) Bm Bp Bq Br Bs Bt Bu Bv Bo Bw B6 Bd D4 B3 Ba) = some (r1, r2, r3, r4) := by first | (rw [hy432]; with_reducible exact H) | (have Db := (Option.bind_some _ _).symm.trans H; rw [hy432]; with_reducible exact Db) | (have Db := (Option.bind_some _ _).symm.trans H; with_reducible exact Db) | with_reducible exact H | (rw [hy432]; exact H) | exact H
                   have Gx := am_ hy432
                   clear hy432
                   have H' := am_ H
                   clear H
                   have Ow := Bb.out
                   have Ox := Be.out
                   have Oy := B8.out
                   have Oz := Bi.out
                   have R0 := cells_11 B2.out
                   have R1 := frozen_11 B2.out
                   have Dd : 0 ≤ (B7 : Int) := of_decide_eq_true (by first | (with_reducible assumption) | assumption)
                   have De : B7 < (B6.length : Int) := of_decide_eq_true (by first | (with_reducible assumption) | assumption)
                   obtain ⟨Dg, F5, D0⟩ := Kd.at_int Da.out B7 Dd De
                   cases F5
                   replace D0 := (HB.out.cell (World.block_lt_of_cell? w _ D0)).trans D0
                   replace Dd := eq_true Dd
                   replace De := eq_true De
                   try go_wp2_with (first | ((with_reducible refine gate_callee (f := 28) rfl ?_); refine gom_ (some 90) Try.func28 (r14_In.calls Dc _ _ l1 (rd B6 B7) _ _ (Kd.C_below Fu.out HB.out) Fv.out Lj.out) ?_; rintro e w' ⟨rfl, ⟨nd, rfl⟩⟩; refine ⟨_, rfl, ?_⟩))
                   (try (rw [drewN_self wc]; generalize hq_ : World.drewN wc _ = wc; have Di : Aside0 (Kd.R k45 45 wc w.heap.size (fun _ => True) u18 D2) := ⟨by rw [← hq_]; exact (by (with_reducible repeat (first | apply Kd.R_alloc | apply Kd.R_drewN | apply Kd.R_drew)); exact Bc.out)⟩; have Dj : Aside0 (Kd.R Kd.string 9 wc w.heap.size (fun _ => True) u406002 B3) := ⟨by rw [← hq_]; exact (by (with_reducible repeat (first | apply Kd.R_alloc | apply Kd.R_drewN | apply Kd.R_drew)); exact B0.out)⟩; have Dk : Aside0 (Kd.S (Kd.slice 45 k45) 42 wc w.heap.size (fun k_ => some k_ ≠ (u18 : Value).ownBlock) u406003 Ba) := ⟨by rw [← hq_]; exact (by (with_reducible repeat (first | apply Kd.S_alloc | apply Kd.S_drewN | apply Kd.S_drew)); exact B5.out)⟩; have Dw : Aside0 (wc.heap[Bz]? = some (.cells #[.int .i64 Bm, .int .i64 Bp, .int .i64 Bq, .int .i64 Br, .int .i64 Bs, .int .i64 Bt, .int .i64 Bu, .int .i64 Bv, .int .i64 Bo, .int .i64 Bw, .slice (some Dg) B6.length By] 24 (0, 0))) := ⟨by rw [← hq_]; exact (by (with_reducible repeat (first | apply kn_ | apply kd_ | apply ka_)); exact B2.out)⟩; have Dx : Aside0 (wc.heap[Bh]? = some (.cells #[.int .i64 0, .string (⟨#[]⟩ : ByteArray), .slice none 0 0, .slice none 0 0] 32 (0, 0))) := ⟨by rw [← hq_]; exact (by (with_reducible repeat (first | apply kn_ | apply kd_ | apply ka_)); exact B4.out)⟩; have Dy : Aside0 (wc.heap[B9]? = some (.cells #[.int .i64 Bd, .string D4, u406002, u406003] 32 (0, 0))) := ⟨by rw [← hq_]; exact (by (with_reducible repeat (first | apply kn_ | apply kd_ | apply ka_)); exact B1.out)⟩; have Gy : Aside0 (Below w.heap.size w wc) := ⟨by rw [← hq_]; exact (by repeat (first | (with_reducible first | exact HB.out | apply ba_ | apply bn_ | apply bd_ | refine bs_ ?_ Bj.out | refine bs_ ?_ Bk.out | refine bs_ ?_ Bn.out) | exact HB.out))⟩; clear Bc B0 B5 B2 B4 B1 HB hq_; have Bc := Di; have B0 := Dj; have B5 := Dk; have B2 := Dw; have B4 := Dx; have B1 := Dy; have HB := Gy; clear Di Dj Dk Dw Dx Dy Gy))
                   replace Bc := am_ (Kd.R_drew Bc.out)
                   replace B0 := am_ (Kd.R_drew B0.out)
                   replace B5 := am_ (Kd.S_drew B5.out)
                   replace B2 := am_ (blk_drew B2.out)
                   replace B4 := am_ (blk_drew B4.out)
                   replace B1 := am_ (blk_drew B1.out)
                   replace HB := am_ (below_drew1 HB.out)
                   have Ga : 0 ≤ (Bx : Int) := of_decide_eq_true (by first | (with_reducible assumption) | assumption)
                   have Gb : Bx < (l5.length : Int) := of_decide_eq_true (by first | (with_reducible assumption) | assumption)
                   obtain ⟨Gz, Gc, Gd, Lk, D9, E0, E1⟩ := at_L3 Rf.out Bx Ga Gb
                   have D7 := D9
                   cases Lk
                   replace D9 := (HB.out.cell (World.block_lt_of_cell? w _ D9)).trans D9
                   have E2 := am_ E1
                   have Ff := am_ E0
                   clear E1 E0
                   replace Ga := eq_true Ga
                   replace Gb := eq_true Gb
                   refine start_ (n := 12) (S := fun w' => ce_ w' B9 0 (.int .i64 Bd) ∧ ce_ w' B9 1 (.string D4) ∧ ce_ w' B9 2 (u406002) ∧ ce_ w' B9 3 (u406003) ∧ w'.cell? (Gz.add (Bx).toNat) = some (.slice Gc (rd_L3 l5 Bx).length Gd)) (ds := []) #[false, false, false, false, false, false, false, false, false, false, false, false] (by kernel_rfl) rfl rfl ⟨(blk_cell B1.out 0).trans rfl, (blk_cell B1.out 1).trans rfl, (blk_cell B1.out 2).trans rfl, (blk_cell B1.out 3).trans rfl, ((HB.out.cell (World.block_lt_of_cell? w _ D7)).trans D7)⟩ (fun hHeld => ?_); refine with_tabW r38_Play.tab26 r38_Play.bits26 (fun HT_ HW_ => ?_)
                   generalize wc.drew = w90 at Bc B0 B5 B2 B4 B1 HB E2 D9 hHeld ⊢
                   refine pur_ 0 (some 109) rfl rfl (any_of HT_.out (by kernel_rfl)) ?_
                   refine pur_ 1 (some 110) rfl rfl (any_of HT_.out (by kernel_rfl)) ?_
                   refine pur_ 2 (some 111) rfl rfl (any_of HT_.out (by kernel_rfl)) ?_
                   refine pur_ 3 (some 112) rfl rfl (any_of HT_.out (by kernel_rfl)) ?_
                   refine pur_ 5 (some 114) rfl rfl (any_of HT_.out (by kernel_rfl)) ?_
                   refine pur_ 6 (some 115) rfl rfl (any_of HT_.out (by kernel_rfl)) ?_
                   refine pur_ 7 (some 116) rfl rfl (any_of HT_.out (by kernel_rfl)) ?_
                   refine tak_ 4 (some 113) rfl rfl (take_ofW HT_.out HW_.out (by kernel_rfl)) hHeld ?_ (by rintro w' ⟨s0, s1, s2, s3, s4⟩; go_simp; with_reducible rfl)
                   refine tak_ 8 (some 117) rfl rfl (take_ofW HT_.out HW_.out (by kernel_rfl)) hHeld ?_ (by rintro w' ⟨s0, s1, s2, s3, s4⟩; go_simp; with_reducible rfl)
                   refine oon_ 9 (some 118) rfl rfl (one_of HT_.out (by kernel_rfl)) (fun K hK => ?_)
                   refine gos_ Try.func31 (r38_lie.calls Dc _ _ (rd_L3 l5 Bx) (rd B6 B7) B7 Bd _ _ ?side1 ?side2 Rl.out) ?_
                   (case side1 => exact (Kd.C_below E2.out HB.out))
                   (case side2 => exact Ff.out)
                   rintro e w91 ⟨v430, rfl, L6, hb⟩
                   refine ⟨_, rfl, ?_⟩
                   replace B0 := am_ (Kd.R_below B0.out hb)
                   replace B5 := am_ (Kd.S_elder' (by (with_reducible repeat (first | apply Kd.S_alloc | apply Kd.S_drewN | apply Kd.S_drew)); exact B5.out) (Kd.R_base L6) hb)
                   have Dm := am_ (Kd.R_lower (Kd.R_new' L6 (Kd.R_lt (by (with_reducible repeat (first | apply Kd.R_alloc | apply Kd.R_drewN | apply Kd.R_drew)); exact Bc.out))) (below_size HB.out))
                   replace Bc := am_ (Kd.R_elder' (by (with_reducible repeat (first | apply Kd.R_alloc | apply Kd.R_drewN | apply Kd.R_drew)); exact Bc.out) (Kd.R_base L6) hb)
                   replace B2 := bkb_ B2 hb
                   replace B4 := bkb_ B4 hb
                   replace B1 := bkb_ B1 hb
                   replace HB := bst_ HB hb
                   (try clear hb)
                   (try clear hb2)
                   (try clear hk)
                   (try clear hi)
                   (try clear L6)
                   obtain ⟨J0, J1, J2⟩ := Kd.R_slice Dm.out
                   (first | subst J2 | (injection J2 with f1_ f2_ f3_; have Ll := f1_.symm; have Lm := f3_.symm; clear f1_ f2_ f3_; subst Ll; subst Lm))
                   refine hK.out _ _ ⟨(blk_cell B1.out 0).trans rfl, (blk_cell B1.out 1).trans rfl, (blk_cell B1.out 2).trans rfl, (blk_cell B1.out 3).trans rfl, ((HB.out.cell (World.block_lt_of_cell? w _ D7)).trans D7)⟩ (fun hHeld => ?_)
                   clear hK K
                   refine nor_ 118 ?_
                   refine oon_ 10 (some 119) rfl rfl (one_of HT_.out (by kernel_rfl)) (fun K hK => ?_)
                   refine Kd.R_append_rows_step k45 (w0 := w) w.heap.size (by rfl) (.tmp 109) (.tmp 118) 42 45 (.agg #[(.int .i64 0), (.int .i64 0), (.int .i64 0), (.string ⟨#[]⟩)]) 40 rfl Try.underlying42 info45 rfl (by decide) (by omega) u18 D2 F4 _ _ _ (fun k_ => some k_ ≠ (.slice J0 F4.length J1 : Value).ownBlock) (fun _ => False) rfl rfl ?aO ?aR (fun _ _ h => h) (fun _ h => h.elim) ?aF ?aB ?aS ?aL ?_
                   (case aR => repeat (first | exact (Kd.R_reads' Dm.out).2.2 | (with_reducible refine Kd.C_alloc ?_ _) | (with_reducible refine Kd.C_drewN ?_ _) | (with_reducible refine Kd.C_drew ?_)))
                   (case aB => exact (by repeat (first | (with_reducible first | exact HB.out | apply ba_ | apply bn_ | apply bd_ | refine bs_ ?_ Bj.out | refine bs_ ?_ Bk.out | refine bs_ ?_ Bn.out) | exact HB.out)))
                   (case aF => exact (fun k_ hk => Kd.fresh' (Kd.R_lt (by (with_reducible repeat (first | apply Kd.R_alloc | apply Kd.R_drewN | apply Kd.R_drew)); exact Dm.out)) k_ hk))
                   (case aO => exact (by (with_reducible repeat (first | apply Kd.R_alloc | apply Kd.R_drewN | apply Kd.R_drew)); exact Kd.R_mono Bc.out (fun _ hk => hk.2)))
                   (case aS => exact (below_size HB.out))
                   (case aL => have := Gw.out; omega)
                   intro v433 w92 ho hb hg hat
                   rw [← Gx.out] at ho
                   replace B0 := am_ (Kd.R_over' (by (with_reducible repeat (first | apply Kd.R_alloc | apply Kd.R_drewN | apply Kd.R_drew)); exact B0.out) (Kd.R_typed (by (with_reducible repeat (first | apply Kd.R_alloc | apply Kd.R_drewN | apply Kd.R_drew)); exact Bc.out)) (by decide) hg)
                   replace B5 := am_ (Kd.S_after (ok := (fun k_ => some k_ ≠ (.slice J0 F4.length J1 : Value).ownBlock)) (by (with_reducible repeat (first | apply Kd.S_alloc | apply Kd.S_drewN | apply Kd.S_drew)); exact Kd.S_mono B5.out (fun _ hk => ⟨hk.2, hk.1⟩)) hg hat)
                   replace B2 := am_ (blk_grown (g := Bz) (o := .cells #[.int .i64 Bm, .int .i64 Bp, .int .i64 Bq, .int .i64 Br, .int .i64 Bs, .int .i64 Bt, .int .i64 Bu, .int .i64 Bv, .int .i64 Bo, .int .i64 Bw, .slice (some Dg) B6.length By] 24 (0, 0)) (by (with_reducible repeat (first | apply kn_ | apply kd_ | apply ka_)); exact B2.out) hg (Kd.R_ne Bc.out B2.out (by decide)))
                   replace B4 := am_ (blk_grown (g := Bh) (o := .cells #[.int .i64 0, .string (⟨#[]⟩ : ByteArray), .slice none 0 0, .slice none 0 0] 32 (0, 0)) (by (with_reducible repeat (first | apply kn_ | apply kd_ | apply ka_)); exact B4.out) hg (Kd.R_ne Bc.out B4.out (by decide)))
                   replace B1 := am_ (blk_grown (g := B9) (o := .cells #[.int .i64 Bd, .string D4, u406002, u406003] 32 (0, 0)) (by (with_reducible repeat (first | apply kn_ | apply kd_ | apply ka_)); exact B1.out) hg (Kd.R_ne Bc.out B1.out (by decide)))
                   replace Dm := am_ (Kd.R_after (ok := (fun _ => True)) (by (with_reducible repeat (first | apply Kd.R_alloc | apply Kd.R_drewN | apply Kd.R_drew)); exact Dm.out) hg hat)
                   replace HB := am_ (hb)
                   have J3 := am_ (ho)
                   clear Bc
                   clear ho hb hg hat
                   refine hK.out _ _ ⟨(blk_cell B1.out 0).trans rfl, (blk_cell B1.out 1).trans rfl, (blk_cell B1.out 2).trans rfl, (blk_cell B1.out 3).trans rfl, ((HB.out.cell (World.block_lt_of_cell? w _ D7)).trans D7)⟩ (fun hHeld => ?_)
                   clear hK K
                   refine nor_ 119 ?_
                   refine pur_ 11 (some 18) rfl rfl (any_of HT_.out (by kernel_rfl)) ?_
                   refine done_ (done_of HT_.out (by kernel_rfl)) ?_
                   try go_wp2
                   go_roundg Dc
                   case measure => have := Dn.out; have := Fb.out; have := Fc.out; have := Dl.out; omega
                   case rel => exact ⟨(y432), (wrap64 (B7 + 1)), (by first | rfl | (simp; done) | (simp [*]; done)), H', ⟨by have := Dn.out; have := Fb.out; have := Fc.out; have := Dl.out; omega⟩, ⟨by (with_reducible repeat (first | apply Kd.R_alloc | apply Kd.R_drewN | apply Kd.R_drew)); exact Kd.R_mono J3.out (fun _ hk => trivial)⟩, ⟨by (with_reducible repeat (first | apply Kd.R_alloc | apply Kd.R_drewN | apply Kd.R_drew)); exact B0.out⟩, ⟨by (with_reducible repeat (first | apply Kd.S_alloc | apply Kd.S_drewN | apply Kd.S_drew)); exact Kd.S_mono B5.out (fun _ hk => hk.2)⟩, ⟨by (with_reducible repeat (first | apply kn_ | apply kd_ | apply ka_)); exact B2.out⟩, ⟨by (with_reducible repeat (first | apply kn_ | apply kd_ | apply ka_)); exact B4.out⟩, ⟨by (with_reducible repeat (first | apply kn_ | apply kd_ | apply ka_)); exact B1.out⟩, ⟨by repeat (first | (with_reducible first | exact HB.out | apply ba_ | apply bn_ | apply bd_ | refine bs_ ?_ Bj.out | refine bs_ ?_ Bk.out | refine bs_ ?_ Bn.out) | exact HB.out)⟩⟩
                  ·rw [if_neg L5] at H
                   exact absurd H (by simp)
                 ·rw [if_neg L4] at H
                  exact absurd H (by simp)
                ·rw [if_neg Gh] at H
                 have Gv : decide (Bx < (l5.length : Int)) = false := decide_eq_false Gh
                 clear Gh
                 have H' := am_ H
                 clear H
                 have R2 := Bb.out
                 have R3 := Be.out
                 have R4 := B8.out
                 have R5 := Bi.out
                 have R6 := cells_11 B2.out
                 have R7 := frozen_11 B2.out
                 have Dd : 0 ≤ (B7 : Int) := of_decide_eq_true (by first | (with_reducible assumption) | assumption)
                 have De : B7 < (B6.length : Int) := of_decide_eq_true (by first | (with_reducible assumption) | assumption)
                 obtain ⟨Dg, F5, D0⟩ := Kd.at_int Da.out B7 Dd De
                 cases F5
                 replace D0 := (HB.out.cell (World.block_lt_of_cell? w _ D0)).trans D0
                 replace Dd := eq_true Dd
                 replace De := eq_true De
                 go_wp2_with (first | ((with_reducible refine gate_callee (f := 28) rfl ?_); refine gom_ (some 90) Try.func28 (r14_In.calls Dc _ _ l1 (rd B6 B7) _ _ (Kd.C_below Fu.out HB.out) Fv.out Lj.out) ?_; rintro e w' ⟨rfl, ⟨nd, rfl⟩⟩; refine ⟨_, rfl, ?_⟩))
                 go_roundg Dc
                 case measure => have := Dn.out; have := Fb.out; have := Fc.out; have := Dl.out; omega
                 case rel => exact ⟨(D2), (wrap64 (B7 + 1)), (by first | rfl | (simp; done) | (simp [*]; done)), H', ⟨by have := Dn.out; have := Fb.out; have := Fc.out; have := Dl.out; omega⟩, ⟨by (with_reducible repeat (first | apply Kd.R_alloc | apply Kd.R_drewN | apply Kd.R_drew)); exact Bc.out⟩, ⟨by (with_reducible repeat (first | apply Kd.R_alloc | apply Kd.R_drewN | apply Kd.R_drew)); exact B0.out⟩, ⟨by (with_reducible repeat (first | apply Kd.S_alloc | apply Kd.S_drewN | apply Kd.S_drew)); exact B5.out⟩, ⟨by (with_reducible repeat (first | apply kn_ | apply kd_ | apply ka_)); exact B2.out⟩, ⟨by (with_reducible repeat (first | apply kn_ | apply kd_ | apply ka_)); exact B4.out⟩, ⟨by (with_reducible repeat (first | apply kn_ | apply kd_ | apply ka_)); exact B1.out⟩, ⟨by repeat (first | (with_reducible first | exact HB.out | apply ba_ | apply bn_ | apply bd_ | refine bs_ ?_ Bj.out | refine bs_ ?_ Bk.out | refine bs_ ?_ Bn.out) | exact HB.out)⟩⟩
               ·replace L3 := Bool.eq_false_iff.mpr L3
                subst L3
                rw [if_neg (show ¬ (false = true) by decide)] at H
                by_cases L7 : 0 ≤ (rd B6 B7)
                ·rw [if_pos L7] at H
                 have R8 : decide (0 ≤ (rd B6 B7)) = true := decide_eq_true L7
                 clear L7
                 by_cases L8 : (rd B6 B7) < (B3.length : Int)
                 ·rw [if_pos L8] at H
                  have R9 : decide ((rd B6 B7) < (B3.length : Int)) = true := decide_eq_true L8
                  clear L8
                  by_cases L9 : D2.length < 3518437208883
                  ·rw [if_pos L9] at H
                   have J4 := am_ L9
                   clear L9
                   obtain ⟨y436, hy436⟩ : ∃ y_ : List (S45), y_ = (D2 ++ [(⟨rd B6 B7, B7, Bd, rdOf ByteArray.empty B3 (rd B6 B7)⟩ : S45)]) := ⟨_, rfl⟩
                   replace H : (r38_Play.l2 Dc l1 l5 Bx y436 (wrap64 (B7 + 1)) Bm Bp Bq Br Bs Bt Bu Bv Bo Bw B6 Bd D4 B3 Ba) = some (r1, r2, r3, r4) := by first | (rw [hy436]; with_reducible exact H) | (have Db := (Option.bind_some _ _).symm.trans H; rw [hy436]; with_reducible exact Db) | (have Db := (Option.bind_some _ _).symm.trans H; with_reducible exact Db) | with_reducible exact H | (rw [hy436]; exact H) | exact H
                   have J5 := am_ hy436
                   clear hy436
                   have H' := am_ H
                   clear H
                   have Ln := Bb.out
                   have Lo := Be.out
                   have Lp := B8.out
                   have Lq := Bi.out
                   have Lr := cells_11 B2.out
                   have Ls := frozen_11 B2.out
                   have Dd : 0 ≤ (B7 : Int) := of_decide_eq_true (by first | (with_reducible assumption) | assumption)
                   have De : B7 < (B6.length : Int) := of_decide_eq_true (by first | (with_reducible assumption) | assumption)
                   obtain ⟨Dg, F5, D0⟩ := Kd.at_int Da.out B7 Dd De
                   cases F5
                   replace D0 := (HB.out.cell (World.block_lt_of_cell? w _ D0)).trans D0
                   replace Dd := eq_true Dd
                   replace De := eq_true De
                   try go_wp2_with (first | ((with_reducible refine gate_callee (f := 28) rfl ?_); refine gom_ (some 90) Try.func28 (r14_In.calls Dc _ _ l1 (rd B6 B7) _ _ (Kd.C_below Fu.out HB.out) Fv.out Lj.out) ?_; rintro e w' ⟨rfl, ⟨nd, rfl⟩⟩; refine ⟨_, rfl, ?_⟩))
                   (try (rw [drewN_self wc]; generalize hq_ : World.drewN wc _ = wc; have Di : Aside0 (Kd.R k45 45 wc w.heap.size (fun _ => True) u18 D2) := ⟨by rw [← hq_]; exact (by (with_reducible repeat (first | apply Kd.R_alloc | apply Kd.R_drewN | apply Kd.R_drew)); exact Bc.out)⟩; have Dj : Aside0 (Kd.R Kd.string 9 wc w.heap.size (fun _ => True) u406002 B3) := ⟨by rw [← hq_]; exact (by (with_reducible repeat (first | apply Kd.R_alloc | apply Kd.R_drewN | apply Kd.R_drew)); exact B0.out)⟩; have Dk : Aside0 (Kd.S (Kd.slice 45 k45) 42 wc w.heap.size (fun k_ => some k_ ≠ (u18 : Value).ownBlock) u406003 Ba) := ⟨by rw [← hq_]; exact (by (with_reducible repeat (first | apply Kd.S_alloc | apply Kd.S_drewN | apply Kd.S_drew)); exact B5.out)⟩; have Dw : Aside0 (wc.heap[Bz]? = some (.cells #[.int .i64 Bm, .int .i64 Bp, .int .i64 Bq, .int .i64 Br, .int .i64 Bs, .int .i64 Bt, .int .i64 Bu, .int .i64 Bv, .int .i64 Bo, .int .i64 Bw, .slice (some Dg) B6.length By] 24 (0, 0))) := ⟨by rw [← hq_]; exact (by (with_reducible repeat (first | apply kn_ | apply kd_ | apply ka_)); exact B2.out)⟩; have Dx : Aside0 (wc.heap[Bh]? = some (.cells #[.int .i64 0, .string (⟨#[]⟩ : ByteArray), .slice none 0 0, .slice none 0 0] 32 (0, 0))) := ⟨by rw [← hq_]; exact (by (with_reducible repeat (first | apply kn_ | apply kd_ | apply ka_)); exact B4.out)⟩; have Dy : Aside0 (wc.heap[B9]? = some (.cells #[.int .i64 Bd, .string D4, u406002, u406003] 32 (0, 0))) := ⟨by rw [← hq_]; exact (by (with_reducible repeat (first | apply kn_ | apply kd_ | apply ka_)); exact B1.out)⟩; have Gy : Aside0 (Below w.heap.size w wc) := ⟨by rw [← hq_]; exact (by repeat (first | (with_reducible first | exact HB.out | apply ba_ | apply bn_ | apply bd_ | refine bs_ ?_ Bj.out | refine bs_ ?_ Bk.out | refine bs_ ?_ Bn.out) | exact HB.out))⟩; clear Bc B0 B5 B2 B4 B1 HB hq_; have Bc := Di; have B0 := Dj; have B5 := Dk; have B2 := Dw; have B4 := Dx; have B1 := Dy; have HB := Gy; clear Di Dj Dk Dw Dx Dy Gy))
                   replace Bc := am_ (Kd.R_drew Bc.out)
                   replace B0 := am_ (Kd.R_drew B0.out)
                   replace B5 := am_ (Kd.S_drew B5.out)
                   replace B2 := am_ (blk_drew B2.out)
                   replace B4 := am_ (blk_drew B4.out)
                   replace B1 := am_ (blk_drew B1.out)
                   replace HB := am_ (below_drew1 HB.out)
                   obtain ⟨Ra, Fp, Fq⟩ := Kd.R_slice B0.out
                   (first | subst Fq | (injection Fq with f1_ f2_ f3_; have Ll := f1_.symm; have Lm := f3_.symm; clear f1_ f2_ f3_; subst Ll; subst Lm))
                   have Ge : 0 ≤ ((rd B6 B7) : Int) := of_decide_eq_true (by first | (with_reducible assumption) | assumption)
                   have Gf : (rd B6 B7) < (B3.length : Int) := of_decide_eq_true (by first | (with_reducible assumption) | assumption)
                   obtain ⟨F6, Lt, E3⟩ := Kd.at_string (Kd.R_reads' B0.out).2.2 (rd B6 B7) Ge Gf
                   cases Lt
                   replace Ge := eq_true Ge
                   replace Gf := eq_true Gf
                   refine start_ (n := 14) (S := fun w' => ce_ w' B9 0 (.int .i64 Bd) ∧ ce_ w' B9 1 (.string D4) ∧ ce_ w' B9 2 (.slice (some F6) B3.length Fp) ∧ ce_ w' B9 3 (u406003) ∧ w'.cell? (F6.add ((rd B6 B7)).toNat) = some (.string (rdOf ByteArray.empty B3 (rd B6 B7)))) (ds := [11, 12]) #[false, false, false, false, false, false, false, false, false, false, false, false, false, false] (by kernel_rfl) rfl rfl ⟨(blk_cell B1.out 0).trans rfl, (blk_cell B1.out 1).trans rfl, (blk_cell B1.out 2).trans rfl, (blk_cell B1.out 3).trans rfl, E3⟩ (fun hHeld => ?_); refine with_tabW r38_Play.tab24 r38_Play.bits24 (fun HT_ HW_ => ?_)
                   generalize wc.drew = w103 at Bc B0 B5 B2 B4 B1 HB E3 hHeld ⊢
                   refine pur_ 0 (some 92) rfl rfl (any_of HT_.out (by kernel_rfl)) ?_
                   refine pur_ 1 (some 93) rfl rfl (any_of HT_.out (by kernel_rfl)) ?_
                   refine pur_ 2 (some 94) rfl rfl (any_of HT_.out (by kernel_rfl)) ?_
                   refine pur_ 3 (some 95) rfl rfl (any_of HT_.out (by kernel_rfl)) ?_
                   refine pur_ 5 (some 97) rfl rfl (any_of HT_.out (by kernel_rfl)) ?_
                   refine pur_ 7 (some 99) rfl rfl (any_of HT_.out (by kernel_rfl)) ?_
                   refine tak_ 4 (some 96) rfl rfl (take_ofW HT_.out HW_.out (by kernel_rfl)) hHeld ?_ (by rintro w' ⟨s0, s1, s2, s3, s4⟩; go_simp; with_reducible rfl)
                   refine tak_ 6 (some 98) rfl rfl (take_ofW HT_.out HW_.out (by kernel_rfl)) hHeld ?_ (by rintro w' ⟨s0, s1, s2, s3, s4⟩; go_simp; with_reducible rfl)
                   refine pur_ 8 (some 100) rfl rfl (any_of HT_.out (by kernel_rfl)) ?_
                   refine tak_ 9 (some 101) rfl rfl (take_ofW HT_.out HW_.out (by kernel_rfl)) hHeld ?_ (by rintro w' ⟨s0, s1, s2, s3, s4⟩; go_simp; with_reducible rfl)
                   refine pur_ 10 (some 102) rfl rfl (any_of HT_.out (by kernel_rfl)) ?_
                   refine last_ (i := 11) (N := some 103) #[true, true, true, true, true, true, true, true, true, true, true, true, false, false] rfl rfl (one_of HT_.out (by kernel_rfl)) (by decide) (fun K hK => ?_)
                   refine value_ (w1 := ?_) (v := ?_) (by rfl) rfl ?_ ?_
                   rotate_left 2
                   ·go_simp
                    constructor
                    ·rfl
                    ·rfl
                   refine hK.out _ _ ?_
                   clear hK K
                   refine nor_ 103 ?_
                   refine last_ (i := 12) (N := some 104) #[true, true, true, true, true, true, true, true, true, true, true, true, true, false] rfl rfl (one_of HT_.out (by kernel_rfl)) (by decide) (fun K hK => ?_)
                   refine Kd.R_append_step k45 (w0 := w) w.heap.size (by rfl) (.tmp 92) (.tmp 103) 42 45 (.agg #[(.int .i64 0), (.int .i64 0), (.int .i64 0), (.string ⟨#[]⟩)]) 40 rfl Try.underlying42 info45 rfl (by decide) (by omega) u18 D2 (⟨rd B6 B7, B7, Bd, rdOf ByteArray.empty B3 (rd B6 B7)⟩ : S45) [.int .i64 (rd B6 B7), .int .i64 B7, .int .i64 Bd, .string (rdOf ByteArray.empty B3 (rd B6 B7))] (fun _ => True) (fun _ => False) rfl rfl ?aP (fun _ hk => hk.elim) ?aF ?aO ?aB ?aS ?aL ?_
                   (case aP => exact k45_mkM _ _ _ (⟨rd B6 B7, B7, Bd, rdOf ByteArray.empty B3 (rd B6 B7)⟩ : S45))
                   (case aB => exact (by repeat (first | (with_reducible first | exact HB.out | apply ba_ | apply bn_ | apply bd_ | refine bs_ ?_ Bj.out | refine bs_ ?_ Bk.out | refine bs_ ?_ Bn.out) | exact HB.out)))
                   (case aF => exact (fun _ _ => trivial))
                   (case aO => exact (by (with_reducible repeat (first | apply Kd.R_alloc | apply Kd.R_drewN | apply Kd.R_drew)); exact Bc.out))
                   (case aS => exact (below_size HB.out))
                   (case aL => have := J4.out; omega)
                   intro v437 w105 ho hb hg hat
                   rw [← J5.out] at ho
                   replace B0 := am_ (Kd.R_over' (by (with_reducible repeat (first | apply Kd.R_alloc | apply Kd.R_drewN | apply Kd.R_drew)); exact B0.out) (Kd.R_typed (by (with_reducible repeat (first | apply Kd.R_alloc | apply Kd.R_drewN | apply Kd.R_drew)); exact Bc.out)) (by decide) hg)
                   replace B5 := am_ (Kd.S_after (ok := (fun _ => True)) (by (with_reducible repeat (first | apply Kd.S_alloc | apply Kd.S_drewN | apply Kd.S_drew)); exact Kd.S_mono B5.out (fun _ hk => ⟨trivial, hk⟩)) hg hat)
                   replace B2 := am_ (blk_grown (g := Bz) (o := .cells #[.int .i64 Bm, .int .i64 Bp, .int .i64 Bq, .int .i64 Br, .int .i64 Bs, .int .i64 Bt, .int .i64 Bu, .int .i64 Bv, .int .i64 Bo, .int .i64 Bw, .slice (some Dg) B6.length By] 24 (0, 0)) (by (with_reducible repeat (first | apply kn_ | apply kd_ | apply ka_)); exact B2.out) hg (Kd.R_ne Bc.out B2.out (by decide)))
                   replace B4 := am_ (blk_grown (g := Bh) (o := .cells #[.int .i64 0, .string (⟨#[]⟩ : ByteArray), .slice none 0 0, .slice none 0 0] 32 (0, 0)) (by (with_reducible repeat (first | apply kn_ | apply kd_ | apply ka_)); exact B4.out) hg (Kd.R_ne Bc.out B4.out (by decide)))
                   replace B1 := am_ (blk_grown (g := B9) (o := .cells #[.int .i64 Bd, .string D4, .slice (some F6) B3.length Fp, u406003] 32 (0, 0)) (by (with_reducible repeat (first | apply kn_ | apply kd_ | apply ka_)); exact B1.out) hg (Kd.R_ne Bc.out B1.out (by decide)))
                   replace HB := am_ (hb)
                   have J6 := am_ (ho)
                   clear Bc
                   clear ho hb hg hat
                   refine hK.out _ _ ?_
                   clear hK K
                   refine nor_ 104 ?_
                   refine pur_ 13 (some 18) rfl rfl (any_of HT_.out (by kernel_rfl)) ?_
                   refine done_ (done_of HT_.out (by kernel_rfl)) ?_
                   try go_wp2
                   go_roundg Dc
                   case measure => have := Dn.out; have := Fb.out; have := Fc.out; have := Dl.out; omega
                   case rel => exact ⟨(y436), (wrap64 (B7 + 1)), (by first | rfl | (simp; done) | (simp [*]; done)), H', ⟨by have := Dn.out; have := Fb.out; have := Fc.out; have := Dl.out; omega⟩, ⟨by (with_reducible repeat (first | apply Kd.R_alloc | apply Kd.R_drewN | apply Kd.R_drew)); exact J6.out⟩, ⟨by (with_reducible repeat (first | apply Kd.R_alloc | apply Kd.R_drewN | apply Kd.R_drew)); exact B0.out⟩, ⟨by (with_reducible repeat (first | apply Kd.S_alloc | apply Kd.S_drewN | apply Kd.S_drew)); exact Kd.S_mono B5.out (fun _ hk => hk.2)⟩, ⟨by (with_reducible repeat (first | apply kn_ | apply kd_ | apply ka_)); exact B2.out⟩, ⟨by (with_reducible repeat (first | apply kn_ | apply kd_ | apply ka_)); exact B4.out⟩, ⟨by (with_reducible repeat (first | apply kn_ | apply kd_ | apply ka_)); exact B1.out⟩, ⟨by repeat (first | (with_reducible first | exact HB.out | apply ba_ | apply bn_ | apply bd_ | refine bs_ ?_ Bj.out | refine bs_ ?_ Bk.out | refine bs_ ?_ Bn.out) | exact HB.out)⟩⟩
                  ·rw [if_neg L9] at H
                   exact absurd H (by simp)
                 ·rw [if_neg L8] at H
                  exact absurd H (by simp)
                ·rw [if_neg L7] at H
                 exact absurd H (by simp)
              ·rw [if_neg L2] at H
               exact absurd H (by simp)
             ·rw [if_neg L1] at H
              exact absurd H (by simp)
            ·replace L0 := Bool.eq_false_iff.mpr L0
             subst L0
             rw [if_neg (show ¬ (false = true) by decide)] at H
             by_cases Fg : Ba.length < 5864062014805
             ·rw [if_pos Fg] at H
              have Gg := am_ Fg
              clear Fg
              obtain ⟨y423, hy423⟩ : ∃ y_ : List (List (S45)), y_ = (Ba ++ [D2]) := ⟨_, rfl⟩
              replace H : (r38_Play.l1 Dc l1 l5 (wrap64 (Bx + 1)) Bm Bp Bq Br Bs Bt Bu Bv Bo Bw B6 Bd D4 B3 y423) = some (r1, r2, r3, r4) := by first | (rw [hy423]; with_reducible exact H) | (have Db := (Option.bind_some _ _).symm.trans H; rw [hy423]; with_reducible exact Db) | (have Db := (Option.bind_some _ _).symm.trans H; with_reducible exact Db) | with_reducible exact H | (rw [hy423]; exact H) | exact H
              have J7 := am_ hy423
              clear hy423
              have H' := am_ H
              clear H
              have Lu := Bi.out
              have Lv := B8.out
              have Lw := D3.out
              have Lx := Bf.out
              have J8 : wc.cell? ⟨B9, 0, none⟩ = some (.int .i64 Bd) := (blk_cell B1.out 0).trans rfl
              have J9 : wc.cell? ⟨B9, 1, none⟩ = some (.string D4) := (blk_cell B1.out 1).trans rfl
              have Ja : wc.cell? ⟨B9, 2, none⟩ = some (u406002) := (blk_cell B1.out 2).trans rfl
              have Jb : wc.cell? ⟨B9, 3, none⟩ = some (u406003) := (blk_cell B1.out 3).trans rfl
              have Jc := blk_frozen B1.out 0
              have Jd := blk_frozen B1.out 1
              have Je := blk_frozen B1.out 2
              have Jf := blk_frozen B1.out 3
              obtain ⟨Fr, Fs, Jg⟩ := Kd.R_slice Bc.out
              subst Jg
              go_wp2_with (first | ((with_reducible refine gate_builtin (b := .append) (xs := #[.tmp 121, .tmp 123]) rfl ?_); at_builtin; refine Kd.S_append (Kd.slice 45 k45) (w0 := w) w.heap.size rfl (.tmp 121) (.tmp 123) 28 42 (.slice none 0 0) 24 rfl Try.underlying28 info42 rfl (by decide) (by omega) u406003 Ba D2 [.slice Fr D2.length Fs] (fun _ => True) (fun k_ => some k_ = (.slice Fr D2.length Fs : Value).ownBlock) rfl rfl ?aP (fun k_ hk_ => ((Kd.R_mono (ok' := fun k_ => ((fun _ => True)) k_ ∧ some k_ ≠ (u406003 : Value).ownBlock) (Kd.R_apart' (Bc.out) (Kd.S_typed B5.out) (by decide)) (fun k_ hk => ⟨trivial, hk.2⟩))).1 k_ hk_.symm) ?aF ?aO ?aB ?aS ?aL ?_; (case aP => exact Kd.M_row (Kd.R_mono (Kd.R_tight rfl (Kd.R_mono (ok' := fun k_ => ((fun _ => True)) k_ ∧ some k_ ≠ (u406003 : Value).ownBlock) (Kd.R_apart' (Bc.out) (Kd.S_typed B5.out) (by decide)) (fun k_ hk => ⟨trivial, hk.2⟩))) (fun _ h_ => h_))); (case aB => exact (by repeat (first | (with_reducible first | exact HB.out | apply ba_ | apply bn_ | apply bd_ | refine bs_ ?_ Bj.out | refine bs_ ?_ Bk.out | refine bs_ ?_ Bn.out) | exact HB.out))); (case aF => exact (fun _ _ => trivial)); (case aO => exact (by (with_reducible repeat (first | apply Kd.S_alloc | apply Kd.S_drewN | apply Kd.S_drew)); exact Kd.S_mono B5.out (fun k_ hk => ⟨trivial, fun e_ => hk e_⟩))); (case aS => exact (below_size HB.out)); (case aL => have := Gg.out; omega); intro v424 w110 ho hb hg hat; rw [← J7.out] at ho; replace B0 := am_ (Kd.R_over' (by (with_reducible repeat (first | apply Kd.R_alloc | apply Kd.R_drewN | apply Kd.R_drew)); exact B0.out) (Kd.S_typed (by (with_reducible repeat (first | apply Kd.S_alloc | apply Kd.S_drewN | apply Kd.S_drew)); exact B5.out)) (by decide) hg); replace B2 := am_ (blk_grown (g := Bz) (o := .cells #[.int .i64 Bm, .int .i64 Bp, .int .i64 Bq, .int .i64 Br, .int .i64 Bs, .int .i64 Bt, .int .i64 Bu, .int .i64 Bv, .int .i64 Bo, .int .i64 Bw, .slice D1 B6.length By] 24 (0, 0)) (by (with_reducible repeat (first | apply kn_ | apply kd_ | apply ka_)); exact B2.out) hg (Kd.S_ne B5.out B2.out (by decide))); replace B4 := am_ (blk_grown (g := Bh) (o := .cells #[.int .i64 0, .string (⟨#[]⟩ : ByteArray), .slice none 0 0, .slice none 0 0] 32 (0, 0)) (by (with_reducible repeat (first | apply kn_ | apply kd_ | apply ka_)); exact B4.out) hg (Kd.S_ne B5.out B4.out (by decide))); replace B1 := am_ (blk_grown (g := B9) (o := .cells #[.int .i64 Bd, .string D4, u406002, u406003] 32 (0, 0)) (by (with_reducible repeat (first | apply kn_ | apply kd_ | apply ka_)); exact B1.out) hg (Kd.S_ne B5.out B1.out (by decide))); replace HB := am_ (hb); have Ft := am_ (ho); clear B5 Bc; clear ho hb hg hat; obtain ⟨F7, F8, Jh⟩ := Kd.S_slice Ft.out; subst Jh; have Ly := cells_4 B1.out; have Lz := frozen_4 B1.out))
              go_roundg Dc
              case measure => have := Dn.out; have := Fb.out; have := Fc.out; have := Dl.out; omega
              case rel => exact ⟨(wrap64 (Bx + 1)), (y423), (.slice F7 y423.length F8), (by first | rfl | (simp; done) | (simp [*]; done)), H', ⟨by have := Dn.out; have := Fb.out; have := Fc.out; have := Dl.out; omega⟩, ⟨by (with_reducible repeat (first | apply Kd.R_alloc | apply Kd.R_drewN | apply Kd.R_drew)); exact Kd.R_mono (Kd.R_far (p := ⟨B9, 3, none⟩) (Kd.R_types B0.out B1.out (by decide)) (fun _ hk => hk.2) (.slice F7 y423.length F8)) (fun _ hk => trivial)⟩, ⟨by (with_reducible repeat (first | apply Kd.S_alloc | apply Kd.S_drewN | apply Kd.S_drew)); exact Kd.S_mono (Kd.S_far (p := ⟨B9, 3, none⟩) (Kd.S_types Ft.out B1.out (by decide)) (fun _ hk => hk.2) (.slice F7 y423.length F8)) (fun _ hk => trivial)⟩, ⟨by (with_reducible repeat (first | apply kn_ | apply kd_ | apply ka_)); refine blk_far ?_ B8.out _; (with_reducible repeat (first | apply kn_ | apply kd_ | apply ka_)); exact B2.out⟩, ⟨by (with_reducible repeat (first | apply kn_ | apply kd_ | apply ka_)); refine blk_far ?_ Bf.out _; (with_reducible repeat (first | apply kn_ | apply kd_ | apply ka_)); exact B4.out⟩, ⟨by (with_reducible repeat (first | apply kn_ | apply kd_ | apply ka_)); refine blk_put (cs := #[.int .i64 Bd, .string D4, u406002, u406003]) ?_ 3 _ rfl; (with_reducible repeat (first | apply kn_ | apply kd_ | apply ka_)); exact B1.out⟩, ⟨by repeat (first | (with_reducible first | exact HB.out | apply ba_ | apply bn_ | apply bd_ | refine bs_ ?_ Bj.out | refine bs_ ?_ Bk.out | refine bs_ ?_ Bn.out) | exact HB.out)⟩⟩
             ·rw [if_neg Fg] at H
              exact absurd H (by simp)
       ·rw [if_neg Fm] at H
        have F3 : decide (Bx < Bm) = false := decide_eq_false Fm
        clear Fm
        simp only [Option.some.injEq, Prod.mk.injEq] at H
        obtain ⟨rfl, rfl, rfl, rfl⟩ := H
        have M0 := Bb.out
        have M1 := Be.out
        have M2 := B8.out
        have M3 := Bi.out
        have M4 := cells_11 B2.out
        have M5 := frozen_11 B2.out
        have M6 := D3.out
        have M7 := Bf.out
        have Ji : wr.cell? ⟨B9, 0, none⟩ = some (.int .i64 Bd) := (blk_cell B1.out 0).trans rfl
        have Jj : wr.cell? ⟨B9, 1, none⟩ = some (.string D4) := (blk_cell B1.out 1).trans rfl
        have Jk : wr.cell? ⟨B9, 2, none⟩ = some (u406002) := (blk_cell B1.out 2).trans rfl
        have Jl : wr.cell? ⟨B9, 3, none⟩ = some (u406003) := (blk_cell B1.out 3).trans rfl
        have Jm := blk_frozen B1.out 0
        have Jn := blk_frozen B1.out 1
        have Jo := blk_frozen B1.out 2
        have Jp := blk_frozen B1.out 3
        have Jq : wr.cell? ⟨Bh, 0, none⟩ = some (.int .i64 0) := (blk_cell B4.out 0).trans rfl
        have Jr : wr.cell? ⟨Bh, 1, none⟩ = some (.string (⟨#[]⟩ : ByteArray)) := (blk_cell B4.out 1).trans rfl
        have Js : wr.cell? ⟨Bh, 2, none⟩ = some (.slice none 0 0) := (blk_cell B4.out 2).trans rfl
        have Jt : wr.cell? ⟨Bh, 3, none⟩ = some (.slice none 0 0) := (blk_cell B4.out 3).trans rfl
        have Ju := blk_frozen B4.out 0
        have Jv := blk_frozen B4.out 1
        have Jw := blk_frozen B4.out 2
        have Jx := blk_frozen B4.out 3
        obtain ⟨E4, E5, Jy⟩ := Kd.R_slice B0.out
        subst Jy
        obtain ⟨F9, Fa, Jz⟩ := Kd.S_slice B5.out
        subst Jz
        go_wp2
        refine bodyPost_ret (results_cell_row rfl _ _ Bh 32 #[.int .i64 Bd, .string D4, .slice E4 B3.length E5, .slice F9 Ba.length Fa] (0, 0) _ rfl (by (with_reducible repeat (first | apply kn_ | apply kd_ | apply ka_)); refine blk_put (cs := #[.int .i64 Bd, .string D4, .slice E4 B3.length E5, .slice none 0 0]) ?_ 3 _ rfl; (with_reducible repeat (first | apply kn_ | apply kd_ | apply ka_)); refine blk_put (cs := #[.int .i64 Bd, .string D4, .slice none 0 0, .slice none 0 0]) ?_ 2 _ rfl; (with_reducible repeat (first | apply kn_ | apply kd_ | apply ka_)); refine blk_put (cs := #[.int .i64 Bd, .string (⟨#[]⟩ : ByteArray), .slice none 0 0, .slice none 0 0]) ?_ 1 _ rfl; (with_reducible repeat (first | apply kn_ | apply kd_ | apply ka_)); refine blk_put (cs := #[.int .i64 0, .string (⟨#[]⟩ : ByteArray), .slice none 0 0, .slice none 0 0]) ?_ 0 _ rfl; (with_reducible repeat (first | apply kn_ | apply kd_ | apply ka_)); exact B4.out) Try.underlying32 rfl (by kernel_rfl)) rfl ?_
        exact ⟨_, _, by first | rfl | (simp [*] <;> rfl), by (with_reducible repeat (first | apply Kd.R_alloc | apply Kd.R_drewN | apply Kd.R_drew)); exact Kd.R_mono (Kd.R_far (p := ⟨Bh, 3, none⟩) (Kd.R_far (p := ⟨Bh, 2, none⟩) (Kd.R_far (p := ⟨Bh, 1, none⟩) (Kd.R_far (p := ⟨Bh, 0, none⟩) (Kd.R_types B0.out B4.out (by decide)) (fun _ hk => hk.2) (.int .i64 Bd)) (fun _ hk => hk.2) (.string D4)) (fun _ hk => hk.2) (.slice E4 B3.length E5)) (fun _ hk => hk.2) (.slice F9 Ba.length Fa)) (fun _ hk => trivial), by (with_reducible repeat (first | apply Kd.S_alloc | apply Kd.S_drewN | apply Kd.S_drew)); exact Kd.S_mono (Kd.S_far (p := ⟨Bh, 3, none⟩) (Kd.S_far (p := ⟨Bh, 2, none⟩) (Kd.S_far (p := ⟨Bh, 1, none⟩) (Kd.S_far (p := ⟨Bh, 0, none⟩) (Kd.S_types B5.out B4.out (by decide)) (fun _ hk => hk.2) (.int .i64 Bd)) (fun _ hk => hk.2) (.string D4)) (fun _ hk => hk.2) (.slice E4 B3.length E5)) (fun _ hk => hk.2) (.slice F9 Ba.length Fa)) (fun _ hk => trivial), by repeat (first | (with_reducible first | exact HB.out | apply ba_ | apply bn_ | apply bd_ | refine bs_ ?_ Bj.out | refine bs_ ?_ Bk.out | refine bs_ ?_ Bn.out) | exact HB.out)⟩
 ·rw [if_neg c8] at H
  have Eb : (Ea == 0) = false := beq_eq_false_iff_ne.mpr c8
  have Ec : (Ea != 0) = true := bne_iff_ne.mpr c8
  simp only [Option.some.injEq, Prod.mk.injEq] at H
  obtain ⟨rfl, rfl, rfl, rfl⟩ := H
  go_enter Try.func10, Try.ntmps10
  go_wp2_with (first | ((with_reducible refine gate_dst (N := 6) rfl ?_); refine bxe_ 6 24 #[.int .i64 Bm, .int .i64 Bp, .int .i64 Bq, .int .i64 Br, .int .i64 Bs, .int .i64 Bt, .int .i64 Bu, .int .i64 Bv, .int .i64 Bo, .int .i64 Bw, .slice D1 B6.length By] ?_; intro Bz hg w122 hbox hb; have B2 := am_ (hbox); have Ed := gwk_ HB hg; have Bj := Ed; replace HB := bst_ HB hb; clear hb hbox hg) | ((with_reducible refine gate_dst (N := 12) rfl ?_); refine bxe_ 12 32 #[.int .i64 0, .string (⟨#[]⟩ : ByteArray), .slice none 0 0, .slice none 0 0] ?_; intro Bh hg w123 hbox hb; have B4 := am_ (hbox); have Ee := gwk_ HB hg; have Bk := Ee; replace HB := bst_ HB hb; have Bb := nbk_ B2 hg; have Be := nbs_ Bb; replace B2 := bkb_ B2 hb; clear hb hbox hg; have M8 := Bb.out; have M9 := Be.out; have Ma := cells_11 B2.out; have Mb := frozen_11 B2.out) | ((with_reducible refine gate_callee (f := 16) rfl ?_); refine gom_ (some 22) Try.func16 (r03_Plain.calls k Bm Bp Bq Br Bs Bt Bu Bv Bo Bw _ _ B6 _ _ (Kd.C_below Da.out HB.out) Do.out A7.out) ?_; rintro e w126 ⟨rfl, hb⟩; refine ⟨_, rfl, ?_⟩; replace B2 := bkb_ B2 hb; replace B4 := bkb_ B4 hb; replace HB := bst_ HB hb; (try clear hb); have Mc := cells_4 B4.out; have Md := frozen_4 B4.out))
  refine bodyPost_ret (results_cell_row rfl _ _ Bh 32 #[.int .i64 0, .string (⟨#[]⟩ : ByteArray), .slice none 0 0, .slice none 0 0] (0, 0) _ rfl (by (with_reducible repeat (first | apply kn_ | apply kd_ | apply ka_)); refine blk_put (cs := #[.int .i64 0, .string (⟨#[]⟩ : ByteArray), .slice none 0 0, .slice none 0 0]) ?_ 3 _ rfl; (with_reducible repeat (first | apply kn_ | apply kd_ | apply ka_)); refine blk_put (cs := #[.int .i64 0, .string (⟨#[]⟩ : ByteArray), .slice none 0 0, .slice none 0 0]) ?_ 2 _ rfl; (with_reducible repeat (first | apply kn_ | apply kd_ | apply ka_)); refine blk_put (cs := #[.int .i64 0, .string (⟨#[]⟩ : ByteArray), .slice none 0 0, .slice none 0 0]) ?_ 1 _ rfl; (with_reducible repeat (first | apply kn_ | apply kd_ | apply ka_)); refine blk_put (cs := #[.int .i64 0, .string (⟨#[]⟩ : ByteArray), .slice none 0 0, .slice none 0 0]) ?_ 0 _ rfl; (with_reducible repeat (first | apply kn_ | apply kd_ | apply ka_)); exact B4.out) Try.underlying32 rfl (by kernel_rfl)) rfl ?_
  exact ⟨_, _, by first | rfl | (simp [*] <;> rfl), by first | exact Kd.R_nil _ _ _ _ _ | exact Kd.N_nil _ _ _ _ _ | exact Kd.V_nil _ _ _ _ _ | exact Kd.Q_nil _ _ _ _ _ | exact Kd.S_nil _ _ _ _ _, by first | exact Kd.S_nil _ _ _ _ _ | exact Kd.N_nil _ _ _ _ _ | exact Kd.V_nil _ _ _ _ _ | exact Kd.Q_nil _ _ _ _ _ | exact Kd.R_nil _ _ _ _ _, by repeat (first | (with_reducible first | exact HB.out | apply ba_ | apply bn_ | apply bd_ | refine bs_ ?_ Bj.out | refine bs_ ?_ Bk.out) | exact HB.out)⟩
end Go.Proofs.Ytdnccjlfongdeaa.Gn
