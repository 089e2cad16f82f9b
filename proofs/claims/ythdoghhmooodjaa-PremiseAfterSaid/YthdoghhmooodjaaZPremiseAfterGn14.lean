import Derived.Test.YthdoghhmooodjaaZPremiseAfterGn0
import Derived.Test.YthdoghhmooodjaaZPremiseAfterGn1
import Derived.Test.YthdoghhmooodjaaZPremiseAfterGn7
import Derived.Test.YthdoghhmooodjaaZPremiseAfterGn11
import Derived.Shelf.Abstract
namespace Go.Proofs.Ythdoghhmooodjaa.Gn
open Go.RowKit Go.Proofs.YthdoghhmooodjaaW.PrintWords Go.Proofs.YthdoghhmooodjaaW.PrintLast Go.Proofs.YthdoghhmooodjaaW.PrintMore
attribute [local go_sem] max2_int min2_int max_two min_two max_three min_three max_four min_four   -- for this text's walks alone
set_option linter.unusedVariables false
set_option linter.unusedSimpArgs false
/-- Whether there is such a node. -/
def isV (N n : Int) : Bool := decide (0 ≤ n) && decide (n < if N < 0 then 0 else if 13 < N then 13 else N)
theorem isV_eq (k : Nat) (B0 B2 B3 B4 B5 B6 B7 B8 B9 Ba : Int) (B1 : List Int) (n : Int) : script_is.f (k + 1) B0 B2 B3 B4 B5 B6 B7 B8 B9 Ba B1 n = some (isV B0 n) := by
 unfold script_is.f script_nodes.f num_Clamp.f isV
 by_cases h : n ≥ 0
 ·rw [if_pos h, decide_eq_true (show 0 ≤ n from h), Bool.true_and]
  by_cases h0 : B0 < 0
  ·rw [if_pos h0, num_Clamp.j0, decide_eq_true h0, if_pos rfl, if_pos h0]
   rfl
  ·rw [if_neg h0, num_Clamp.j0, if_neg (by decide), if_neg h0]
   by_cases h1 : B0 > 13
   ·rw [if_pos h1, if_pos (show 13 < B0 from h1)]
    rfl
   ·rw [if_neg h1, if_neg (show ¬ 13 < B0 from h1)]
    rfl
 ·rw [if_neg h, decide_eq_false (show ¬ 0 ≤ n from h), Bool.false_and]
set_option maxHeartbeats 8000000 in
set_option maxRecDepth 100000 in
theorem script_named1.calls (B1 Bq Br Bs Bt Bu Bv Bw Bx By : Int) (B4 : Option Addr) (B5 : Nat) (B0 : List Int) (x : S74) (B : Nat) (w : World) (hB : w.heap[B]? = some (.cells #[.int .i64 B1, .int .i64 Bq, .int .i64 Br, .int .i64 Bs, .int .i64 Bt, .int .i64 Bu, .int .i64 Bv, .int .i64 Bw, .int .i64 Bx, .int .i64 By, .slice B4 B0.length B5] 24 (0, 0))) (Bz : Kd.C (Kd.int .i64) w B4 B0.length B0) (D0 : B0.length ≤ B5) :
  Calls Try.prog 99 (#[.agg #[.int .i64 x.f0, .int .i64 x.f1, .int .i64 x.f2, .string x.f3]] ++ #[.pointer (some ⟨B, 0, none⟩)]) w fun e w' => e = .returned (.bool (isV B1 x.f0 && isV B1 x.f1)) ∧ Below w.heap.size w w' := by
 have hu := Try.underlying74
 have huc := Try.underlying24
 have HB := am_ (Below.refl w.heap.size w)
 cases h0 : isV B1 x.f0 with
 | false =>
  go_enter Try.func99, Try.ntmps99
  go_wp2_with (first | ((with_reducible refine gate_dst (N := 2) rfl ?_); refine bxe_ 2 74 #[.int .i64 x.f0, .int .i64 x.f1, .int .i64 x.f2, .string x.f3] ?_; intro gb hg w2 hbox hb; have Dc := blk_of hb (g := B) (o := .cells #[.int .i64 B1, .int .i64 Bq, .int .i64 Br, .int .i64 Bs, .int .i64 Bt, .int .i64 Bu, .int .i64 Bv, .int .i64 Bw, .int .i64 Bx, .int .i64 By, .slice B4 B0.length B5] 24 (0, 0)) (by (with_reducible repeat (first | apply kn_ | apply kd_ | apply ka_)); exact hB); have BK := am_ hbox; have BC := am_ (blk_below Dc hb); have Dd := below_of hb (by repeat (first | (with_reducible first | exact HB.out | apply ba_ | apply bn_ | apply bd_) | exact HB.out)); replace HB := am_ (below_step Dd hb); clear Dc Dd hb hbox hg; obtain ⟨D1, D2, D3, D4⟩ := cells_4 BK.out; obtain ⟨D5, D6, D7, D8⟩ := frozen_4 BK.out; obtain ⟨B6, B7, B8, B9, Ba, Bb, Bc, Bd, Be, Bf, B2⟩ := cells_11 BC.out; obtain ⟨Bg, Bh, Bi, Bj, Bk, Bl, Bm, Bn, Bo, Bp, B3⟩ := frozen_11 BC.out) | (go_at_call 47; (with_reducible refine (script_is.calls 1 B1 Bq Br Bs Bt Bu Bv Bw Bx By B4 B5 B0 x.f0 (isV B1 x.f0) _ (Kd.C_below Bz HB.out) D0 (isV_eq 0 B1 Bq Br Bs Bt Bu Bv Bw Bx By B0 x.f0)).mono ?_); rw [h0]; rintro e w3 ⟨rfl, hb⟩; clear D1 D5 D2 D6 D3 D7 D4 D8 B6 Bg B7 Bh B8 Bi B9 Bj Ba Bk Bb Bl Bc Bm Bd Bn Be Bo Bf Bp B2 B3; have D9 := bkb_ BK hb; have Da := bkb_ BC hb; have Db := bst_ HB hb; clear BK BC HB hb; have BK := D9; have BC := Da; have HB := Db; clear D9 Da Db; obtain ⟨D1, D2, D3, D4⟩ := cells_4 BK.out; obtain ⟨D5, D6, D7, D8⟩ := frozen_4 BK.out; obtain ⟨B6, B7, B8, B9, Ba, Bb, Bc, Bd, Be, Bf, B2⟩ := cells_11 BC.out; obtain ⟨Bg, Bh, Bi, Bj, Bk, Bl, Bm, Bn, Bo, Bp, B3⟩ := frozen_11 BC.out))
  go_ret
  exact ⟨by first | rfl | simp, HB.out⟩
 | true =>
  go_enter Try.func99, Try.ntmps99
  go_wp2_with (first | ((with_reducible refine gate_dst (N := 2) rfl ?_); refine bxe_ 2 74 #[.int .i64 x.f0, .int .i64 x.f1, .int .i64 x.f2, .string x.f3] ?_; intro gb hg w2 hbox hb; have Dc := blk_of hb (g := B) (o := .cells #[.int .i64 B1, .int .i64 Bq, .int .i64 Br, .int .i64 Bs, .int .i64 Bt, .int .i64 Bu, .int .i64 Bv, .int .i64 Bw, .int .i64 Bx, .int .i64 By, .slice B4 B0.length B5] 24 (0, 0)) (by (with_reducible repeat (first | apply kn_ | apply kd_ | apply ka_)); exact hB); have BK := am_ hbox; have BC := am_ (blk_below Dc hb); have Dd := below_of hb (by repeat (first | (with_reducible first | exact HB.out | apply ba_ | apply bn_ | apply bd_) | exact HB.out)); replace HB := am_ (below_step Dd hb); clear Dc Dd hb hbox hg; obtain ⟨D1, D2, D3, D4⟩ := cells_4 BK.out; obtain ⟨D5, D6, D7, D8⟩ := frozen_4 BK.out; obtain ⟨B6, B7, B8, B9, Ba, Bb, Bc, Bd, Be, Bf, B2⟩ := cells_11 BC.out; obtain ⟨Bg, Bh, Bi, Bj, Bk, Bl, Bm, Bn, Bo, Bp, B3⟩ := frozen_11 BC.out) | (go_at_call 47; (with_reducible refine (script_is.calls 1 B1 Bq Br Bs Bt Bu Bv Bw Bx By B4 B5 B0 x.f0 (isV B1 x.f0) _ (Kd.C_below Bz HB.out) D0 (isV_eq 0 B1 Bq Br Bs Bt Bu Bv Bw Bx By B0 x.f0)).mono ?_); rw [h0]; rintro e w3 ⟨rfl, hb⟩; clear D1 D5 D2 D6 D3 D7 D4 D8 B6 Bg B7 Bh B8 Bi B9 Bj Ba Bk Bb Bl Bc Bm Bd Bn Be Bo Bf Bp B2 B3; have D9 := bkb_ BK hb; have Da := bkb_ BC hb; have Db := bst_ HB hb; clear BK BC HB hb; have BK := D9; have BC := Da; have HB := Db; clear D9 Da Db; obtain ⟨D1, D2, D3, D4⟩ := cells_4 BK.out; obtain ⟨D5, D6, D7, D8⟩ := frozen_4 BK.out; obtain ⟨B6, B7, B8, B9, Ba, Bb, Bc, Bd, Be, Bf, B2⟩ := cells_11 BC.out; obtain ⟨Bg, Bh, Bi, Bj, Bk, Bl, Bm, Bn, Bo, Bp, B3⟩ := frozen_11 BC.out) | (go_at_call 47; (with_reducible refine (script_is.calls 1 B1 Bq Br Bs Bt Bu Bv Bw Bx By B4 B5 B0 x.f1 (isV B1 x.f1) _ (Kd.C_below Bz HB.out) D0 (isV_eq 0 B1 Bq Br Bs Bt Bu Bv Bw Bx By B0 x.f1)).mono ?_); rintro e w3 ⟨rfl, hb⟩; clear D1 D5 D2 D6 D3 D7 D4 D8 B6 Bg B7 Bh B8 Bi B9 Bj Ba Bk Bb Bl Bc Bm Bd Bn Be Bo Bf Bp B2 B3; have D9 := bkb_ BK hb; have Da := bkb_ BC hb; have Db := bst_ HB hb; clear BK BC HB hb; have BK := D9; have BC := Da; have HB := Db; clear D9 Da Db; obtain ⟨D1, D2, D3, D4⟩ := cells_4 BK.out; obtain ⟨D5, D6, D7, D8⟩ := frozen_4 BK.out; obtain ⟨B6, B7, B8, B9, Ba, Bb, Bc, Bd, Be, Bf, B2⟩ := cells_11 BC.out; obtain ⟨Bg, Bh, Bi, Bj, Bk, Bl, Bm, Bn, Bo, Bp, B3⟩ := frozen_11 BC.out))
  go_ret
  exact ⟨by first | rfl | simp, HB.out⟩
set_option maxHeartbeats 8000000 in
set_option maxRecDepth 100000 in
theorem script_named2.calls (B3 B6 B7 B8 B9 Ba Bb Bc Bd Be : Int) (B1 : Option Addr) (B2 : Nat) (B0 : List Int) (x : S48) (B : Nat) (w : World) (hB : w.heap[B]? = some (.cells #[.int .i64 B3, .int .i64 B6, .int .i64 B7, .int .i64 B8, .int .i64 B9, .int .i64 Ba, .int .i64 Bb, .int .i64 Bc, .int .i64 Bd, .int .i64 Be, .slice B1 B0.length B2] 24 (0, 0))) (Bz : Kd.C (Kd.int .i64) w B1 B0.length B0) (D0 : B0.length ≤ B2) :
  Calls Try.prog 101 (#[.agg #[.int .i64 x.f0, .string x.f1]] ++ #[.pointer (some ⟨B, 0, none⟩)]) w fun e w' => e = .returned (.bool (isV B3 x.f0)) ∧ Below w.heap.size w w' := by
 have hu := Try.underlying48
 have huc := Try.underlying24
 have HB := am_ (Below.refl w.heap.size w)
 go_enter Try.func101, Try.ntmps101
 go_wp2_with (first | ((with_reducible refine gate_dst (N := 2) rfl ?_); refine bxe_ 2 48 #[.int .i64 x.f0, .string x.f1] ?_; intro gb hg w2 hbox hb; have D5 := blk_of hb (g := B) (o := .cells #[.int .i64 B3, .int .i64 B6, .int .i64 B7, .int .i64 B8, .int .i64 B9, .int .i64 Ba, .int .i64 Bb, .int .i64 Bc, .int .i64 Bd, .int .i64 Be, .slice B1 B0.length B2] 24 (0, 0)) (by (with_reducible repeat (first | apply kn_ | apply kd_ | apply ka_)); exact hB); have BK := am_ hbox; have BC := am_ (blk_below D5 hb); have D6 := below_of hb (by repeat (first | (with_reducible first | exact HB.out | apply ba_ | apply bn_ | apply bd_) | exact HB.out)); replace HB := am_ (below_step D6 hb); clear D5 D6 hb hbox hg; obtain ⟨D1, D2⟩ := cells_2 BK.out; obtain ⟨D3, D4⟩ := frozen_2 BK.out; obtain ⟨Bf, Bg, Bh, Bi, Bj, Bk, Bl, Bm, Bn, Bo, B4⟩ := cells_11 BC.out; obtain ⟨Bp, Bq, Br, Bs, Bt, Bu, Bv, Bw, Bx, By, B5⟩ := frozen_11 BC.out) | (go_at_call 47; refine (script_is.calls 1 B3 B6 B7 B8 B9 Ba Bb Bc Bd Be B1 B2 B0 x.f0 (isV B3 x.f0) _ (Kd.C_below Bz HB.out) D0 (isV_eq 0 B3 B6 B7 B8 B9 Ba Bb Bc Bd Be B0 x.f0)).mono ?_; rintro e w3 ⟨rfl, hb⟩; clear D1 D3 D2 D4 Bf Bp Bg Bq Bh Br Bi Bs Bj Bt Bk Bu Bl Bv Bm Bw Bn Bx Bo By B4 B5; have D7 := bkb_ BK hb; have D8 := bkb_ BC hb; have D9 := bst_ HB hb; clear BK BC HB hb; have BK := D7; have BC := D8; have HB := D9; clear D7 D8 D9; obtain ⟨D1, D2⟩ := cells_2 BK.out; obtain ⟨D3, D4⟩ := frozen_2 BK.out; obtain ⟨Bf, Bg, Bh, Bi, Bj, Bk, Bl, Bm, Bn, Bo, B4⟩ := cells_11 BC.out; obtain ⟨Bp, Bq, Br, Bs, Bt, Bu, Bv, Bw, Bx, By, B5⟩ := frozen_11 BC.out))
 go_ret
 exact ⟨by first | rfl | simp, HB.out⟩
set_option maxHeartbeats 8000000 in
set_option maxRecDepth 100000 in
theorem script_named3.calls (B3 B6 B7 B8 B9 Ba Bb Bc Bd Be : Int) (B1 : Option Addr) (B2 : Nat) (B0 : List Int) (x : S81) (B : Nat) (w : World) (hB : w.heap[B]? = some (.cells #[.int .i64 B3, .int .i64 B6, .int .i64 B7, .int .i64 B8, .int .i64 B9, .int .i64 Ba, .int .i64 Bb, .int .i64 Bc, .int .i64 Bd, .int .i64 Be, .slice B1 B0.length B2] 24 (0, 0))) (Bz : Kd.C (Kd.int .i64) w B1 B0.length B0) (D0 : B0.length ≤ B2) :
  Calls Try.prog 102 (#[.agg #[.int .i64 x.f0, .string x.f1]] ++ #[.pointer (some ⟨B, 0, none⟩)]) w fun e w' => e = .returned (.bool (isV B3 x.f0)) ∧ Below w.heap.size w w' := by
 have hu := Try.underlying81
 have huc := Try.underlying24
 have HB := am_ (Below.refl w.heap.size w)
 go_enter Try.func102, Try.ntmps102
 go_wp2_with (first | ((with_reducible refine gate_dst (N := 2) rfl ?_); refine bxe_ 2 81 #[.int .i64 x.f0, .string x.f1] ?_; intro gb hg w2 hbox hb; have D5 := blk_of hb (g := B) (o := .cells #[.int .i64 B3, .int .i64 B6, .int .i64 B7, .int .i64 B8, .int .i64 B9, .int .i64 Ba, .int .i64 Bb, .int .i64 Bc, .int .i64 Bd, .int .i64 Be, .slice B1 B0.length B2] 24 (0, 0)) (by (with_reducible repeat (first | apply kn_ | apply kd_ | apply ka_)); exact hB); have BK := am_ hbox; have BC := am_ (blk_below D5 hb); have D6 := below_of hb (by repeat (first | (with_reducible first | exact HB.out | apply ba_ | apply bn_ | apply bd_) | exact HB.out)); replace HB := am_ (below_step D6 hb); clear D5 D6 hb hbox hg; obtain ⟨D1, D2⟩ := cells_2 BK.out; obtain ⟨D3, D4⟩ := frozen_2 BK.out; obtain ⟨Bf, Bg, Bh, Bi, Bj, Bk, Bl, Bm, Bn, Bo, B4⟩ := cells_11 BC.out; obtain ⟨Bp, Bq, Br, Bs, Bt, Bu, Bv, Bw, Bx, By, B5⟩ := frozen_11 BC.out) | (go_at_call 47; refine (script_is.calls 1 B3 B6 B7 B8 B9 Ba Bb Bc Bd Be B1 B2 B0 x.f0 (isV B3 x.f0) _ (Kd.C_below Bz HB.out) D0 (isV_eq 0 B3 B6 B7 B8 B9 Ba Bb Bc Bd Be B0 x.f0)).mono ?_; rintro e w3 ⟨rfl, hb⟩; clear D1 D3 D2 D4 Bf Bp Bg Bq Bh Br Bi Bs Bj Bt Bk Bu Bl Bv Bm Bw Bn Bx Bo By B4 B5; have D7 := bkb_ BK hb; have D8 := bkb_ BC hb; have D9 := bst_ HB hb; clear BK BC HB hb; have BK := D7; have BC := D8; have HB := D9; clear D7 D8 D9; obtain ⟨D1, D2⟩ := cells_2 BK.out; obtain ⟨D3, D4⟩ := frozen_2 BK.out; obtain ⟨Bf, Bg, Bh, Bi, Bj, Bk, Bl, Bm, Bn, Bo, B4⟩ := cells_11 BC.out; obtain ⟨Bp, Bq, Br, Bs, Bt, Bu, Bv, Bw, Bx, By, B5⟩ := frozen_11 BC.out))
 go_ret
 exact ⟨by first | rfl | simp, HB.out⟩
def script_named.f (B0 B6 B7 B8 B9 Ba Bb Bc Bd Be : Int) (B5 Bf Bg : List Int) (B1 : List S74) (B2 : List S48) (B3 : List S74) (B4 : List S81) : Option Bool := some (B1.all (fun x => isV B0 x.f0 && isV B0 x.f1) && B3.all (fun x => isV B0 x.f0 && isV B0 x.f1) && B2.all (fun x => isV B0 x.f0) && B4.all (fun x => isV B0 x.f0))
set_option maxHeartbeats 8000000 in
set_option maxRecDepth 100000 in
theorem script_named.calls (B0 Bi Bj Bk Bl Bm Bn Bo Bp Bq : Int) (B2 : Option Addr) (B3 : Nat) (B1 : List Int) (Da : Option Addr) (Db : Nat) (D3 : List Int) (Dc : Option Addr) (Dd : Nat) (D4 : List Int) (Bz : Option Addr) (D0 : Nat) (Bu : List S74) (D5 : Option Addr) (D6 : Nat) (Bw : List S48) (D1 : Option Addr) (D2 : Nat) (Bv : List S74) (D7 : Option Addr) (D8 : Nat) (By : List S81) (r : Bool) (w : World) (Bg : Kd.C (Kd.int .i64) w B2 B1.length B1) (Bh : B1.length ≤ B3) (Dn : Kd.C (Kd.int .i64) w Da D3.length D3) (Do : D3.length ≤ Db) (Dp : Kd.C (Kd.int .i64) w Dc D4.length D4) (Dq : D4.length ≤ Dd) (D9 : Kd.C k74 w Bz Bu.length Bu) (Dr : Bu.length ≤ D0) (Dg : Kd.C k48 w D5 Bw.length Bw) (Ds : Bw.length ≤ D6) (De : Kd.C k74 w D1 Bv.length Bv) (Dt : Bv.length ≤ D2) (Di : Kd.C k81 w D7 By.length By) (Du : By.length ≤ D8) (h : script_named.f B0 Bi Bj Bk Bl Bm Bn Bo Bp Bq B1 D3 D4 Bu Bw Bv By = some r) :
  Calls Try.prog 71 #[.agg #[.int .i64 B0, .int .i64 Bi, .int .i64 Bj, .int .i64 Bk, .int .i64 Bl, .int .i64 Bm, .int .i64 Bn, .int .i64 Bo, .int .i64 Bp, .int .i64 Bq, .slice B2 B1.length B3], .agg #[.slice Da D3.length Db, .slice Dc D4.length Dd, .slice Bz Bu.length D0, .slice D5 Bw.length D6, .slice D1 Bv.length D2, .slice D7 By.length D8]] w fun e w' => e = .returned (.bool r) ∧ Below w.heap.size w w' := by
 unfold script_named.f at h
 obtain rfl := Option.some.inj h
 have hut := Try.underlying44
 have huc := Try.underlying24
 have HB := am_ (Below.refl w.heap.size w)
 have Dh : ∀ args w, (callFunc 99 args).run Try.prog w = .ok (.enter 99 args) w := enters_of Try.func99 (by kernel_rfl) rfl
 have Dl : ∀ args w, (callFunc 101 args).run Try.prog w = .ok (.enter 101 args) w := enters_of Try.func101 (by kernel_rfl) rfl
 have Dv : ∀ args w, (callFunc 102 args).run Try.prog w = .ok (.enter 102 args) w := enters_of Try.func102 (by kernel_rfl) rfl
 cases Dj : Bu.all (fun x => isV B0 x.f0 && isV B0 x.f1) with
 | false =>
  go_enter Try.func71, Try.ntmps71
  go_wp2_with (first | ((with_reducible refine gate_dst (N := 2) rfl ?_); refine bxe_ 2 24 #[.int .i64 B0, .int .i64 Bi, .int .i64 Bj, .int .i64 Bk, .int .i64 Bl, .int .i64 Bm, .int .i64 Bn, .int .i64 Bo, .int .i64 Bp, .int .i64 Bq, .slice B2 B1.length B3] ?_; intro gbc hg w2 hbox hb; have Bx := below_of hb (by repeat (first | (with_reducible first | exact HB.out | apply ba_ | apply bn_ | apply bd_) | exact HB.out)); have BKC := am_ hbox; replace HB := am_ (below_step Bx hb); clear Bx hb hbox hg) | ((with_reducible refine gate_dst (N := 3) rfl ?_); refine bxe_ 3 44 #[.slice Da D3.length Db, .slice Dc D4.length Dd, .slice Bz Bu.length D0, .slice D5 Bw.length D6, .slice D1 Bv.length D2, .slice D7 By.length D8] ?_; intro gbt hg w3 hbox hb; have Df := blk_of hb (g := gbc) (o := .cells #[.int .i64 B0, .int .i64 Bi, .int .i64 Bj, .int .i64 Bk, .int .i64 Bl, .int .i64 Bm, .int .i64 Bn, .int .i64 Bo, .int .i64 Bp, .int .i64 Bq, .slice B2 B1.length B3] 24 (0, 0)) (by (with_reducible repeat (first | apply kn_ | apply kd_ | apply ka_)); exact BKC.out); have Bx := below_of hb (by repeat (first | (with_reducible first | exact HB.out | apply ba_ | apply bn_ | apply bd_) | exact HB.out)); have BKT := am_ hbox; replace HB := am_ (below_step Bx hb); replace BKC := am_ (blk_below Df hb); clear Df Bx hb hbox hg; obtain ⟨B4, B5, B6, B7, B8, B9⟩ := cells_6 BKT.out; obtain ⟨Ba, Bb, Bc, Bd, Be, Bf⟩ := frozen_6 BKT.out) | (go_at_call 69; (with_reducible refine (script_every_send.calls (fun x => isV B0 x.f0 && isV B0 x.f1) Bz D0 Bu 99 #[.pointer (some ⟨gbc, 0, none⟩)] Dh _ (Kd.C_below D9 HB.out) (fun W hb x => script_named1.calls B0 Bi Bj Bk Bl Bm Bn Bo Bp Bq B2 B3 B1 x gbc W (blk_below BKC.out hb) (Kd.C_below Bg (below_step HB.out hb)) Bh)).mono ?_); rw [Dj]; rintro e w4 ⟨rfl, hb⟩; clear B4 Ba B5 Bb B6 Bc B7 Bd B8 Be B9 Bf; have Br := bkb_ BKC hb; have Bs := bkb_ BKT hb; have Bt := bst_ HB hb; clear BKC BKT HB hb; have BKC := Br; have BKT := Bs; have HB := Bt; clear Br Bs Bt; obtain ⟨B4, B5, B6, B7, B8, B9⟩ := cells_6 BKT.out; obtain ⟨Ba, Bb, Bc, Bd, Be, Bf⟩ := frozen_6 BKT.out))
  go_ret
  exact ⟨by first | rfl | simp | simp [*], HB.out⟩
 | true =>
  cases Dk : Bv.all (fun x => isV B0 x.f0 && isV B0 x.f1) with
  | false =>
   go_enter Try.func71, Try.ntmps71
   go_wp2_with (first | ((with_reducible refine gate_dst (N := 2) rfl ?_); refine bxe_ 2 24 #[.int .i64 B0, .int .i64 Bi, .int .i64 Bj, .int .i64 Bk, .int .i64 Bl, .int .i64 Bm, .int .i64 Bn, .int .i64 Bo, .int .i64 Bp, .int .i64 Bq, .slice B2 B1.length B3] ?_; intro gbc hg w2 hbox hb; have Bx := below_of hb (by repeat (first | (with_reducible first | exact HB.out | apply ba_ | apply bn_ | apply bd_) | exact HB.out)); have BKC := am_ hbox; replace HB := am_ (below_step Bx hb); clear Bx hb hbox hg) | ((with_reducible refine gate_dst (N := 3) rfl ?_); refine bxe_ 3 44 #[.slice Da D3.length Db, .slice Dc D4.length Dd, .slice Bz Bu.length D0, .slice D5 Bw.length D6, .slice D1 Bv.length D2, .slice D7 By.length D8] ?_; intro gbt hg w3 hbox hb; have Df := blk_of hb (g := gbc) (o := .cells #[.int .i64 B0, .int .i64 Bi, .int .i64 Bj, .int .i64 Bk, .int .i64 Bl, .int .i64 Bm, .int .i64 Bn, .int .i64 Bo, .int .i64 Bp, .int .i64 Bq, .slice B2 B1.length B3] 24 (0, 0)) (by (with_reducible repeat (first | apply kn_ | apply kd_ | apply ka_)); exact BKC.out); have Bx := below_of hb (by repeat (first | (with_reducible first | exact HB.out | apply ba_ | apply bn_ | apply bd_) | exact HB.out)); have BKT := am_ hbox; replace HB := am_ (below_step Bx hb); replace BKC := am_ (blk_below Df hb); clear Df Bx hb hbox hg; obtain ⟨B4, B5, B6, B7, B8, B9⟩ := cells_6 BKT.out; obtain ⟨Ba, Bb, Bc, Bd, Be, Bf⟩ := frozen_6 BKT.out) | (go_at_call 69; (with_reducible refine (script_every_send.calls (fun x => isV B0 x.f0 && isV B0 x.f1) Bz D0 Bu 99 #[.pointer (some ⟨gbc, 0, none⟩)] Dh _ (Kd.C_below D9 HB.out) (fun W hb x => script_named1.calls B0 Bi Bj Bk Bl Bm Bn Bo Bp Bq B2 B3 B1 x gbc W (blk_below BKC.out hb) (Kd.C_below Bg (below_step HB.out hb)) Bh)).mono ?_); rw [Dj]; rintro e w4 ⟨rfl, hb⟩; clear B4 Ba B5 Bb B6 Bc B7 Bd B8 Be B9 Bf; have Br := bkb_ BKC hb; have Bs := bkb_ BKT hb; have Bt := bst_ HB hb; clear BKC BKT HB hb; have BKC := Br; have BKT := Bs; have HB := Bt; clear Br Bs Bt; obtain ⟨B4, B5, B6, B7, B8, B9⟩ := cells_6 BKT.out; obtain ⟨Ba, Bb, Bc, Bd, Be, Bf⟩ := frozen_6 BKT.out) | (go_at_call 69; (with_reducible refine (script_every_send.calls (fun x => isV B0 x.f0 && isV B0 x.f1) D1 D2 Bv 99 #[.pointer (some ⟨gbc, 0, none⟩)] Dh _ (Kd.C_below De HB.out) (fun W hb x => script_named1.calls B0 Bi Bj Bk Bl Bm Bn Bo Bp Bq B2 B3 B1 x gbc W (blk_below BKC.out hb) (Kd.C_below Bg (below_step HB.out hb)) Bh)).mono ?_); rw [Dk]; rintro e w4 ⟨rfl, hb⟩; clear B4 Ba B5 Bb B6 Bc B7 Bd B8 Be B9 Bf; have Br := bkb_ BKC hb; have Bs := bkb_ BKT hb; have Bt := bst_ HB hb; clear BKC BKT HB hb; have BKC := Br; have BKT := Bs; have HB := Bt; clear Br Bs Bt; obtain ⟨B4, B5, B6, B7, B8, B9⟩ := cells_6 BKT.out; obtain ⟨Ba, Bb, Bc, Bd, Be, Bf⟩ := frozen_6 BKT.out))
   go_ret
   exact ⟨by first | rfl | simp | simp [*], HB.out⟩
  | true =>
   cases Dm : Bw.all (fun x => isV B0 x.f0) with
   | false =>
    go_enter Try.func71, Try.ntmps71
    go_wp2_with (first | ((with_reducible refine gate_dst (N := 2) rfl ?_); refine bxe_ 2 24 #[.int .i64 B0, .int .i64 Bi, .int .i64 Bj, .int .i64 Bk, .int .i64 Bl, .int .i64 Bm, .int .i64 Bn, .int .i64 Bo, .int .i64 Bp, .int .i64 Bq, .slice B2 B1.length B3] ?_; intro gbc hg w2 hbox hb; have Bx := below_of hb (by repeat (first | (with_reducible first | exact HB.out | apply ba_ | apply bn_ | apply bd_) | exact HB.out)); have BKC := am_ hbox; replace HB := am_ (below_step Bx hb); clear Bx hb hbox hg) | ((with_reducible refine gate_dst (N := 3) rfl ?_); refine bxe_ 3 44 #[.slice Da D3.length Db, .slice Dc D4.length Dd, .slice Bz Bu.length D0, .slice D5 Bw.length D6, .slice D1 Bv.length D2, .slice D7 By.length D8] ?_; intro gbt hg w3 hbox hb; have Df := blk_of hb (g := gbc) (o := .cells #[.int .i64 B0, .int .i64 Bi, .int .i64 Bj, .int .i64 Bk, .int .i64 Bl, .int .i64 Bm, .int .i64 Bn, .int .i64 Bo, .int .i64 Bp, .int .i64 Bq, .slice B2 B1.length B3] 24 (0, 0)) (by (with_reducible repeat (first | apply kn_ | apply kd_ | apply ka_)); exact BKC.out); have Bx := below_of hb (by repeat (first | (with_reducible first | exact HB.out | apply ba_ | apply bn_ | apply bd_) | exact HB.out)); have BKT := am_ hbox; replace HB := am_ (below_step Bx hb); replace BKC := am_ (blk_below Df hb); clear Df Bx hb hbox hg; obtain ⟨B4, B5, B6, B7, B8, B9⟩ := cells_6 BKT.out; obtain ⟨Ba, Bb, Bc, Bd, Be, Bf⟩ := frozen_6 BKT.out) | (go_at_call 69; (with_reducible refine (script_every_send.calls (fun x => isV B0 x.f0 && isV B0 x.f1) Bz D0 Bu 99 #[.pointer (some ⟨gbc, 0, none⟩)] Dh _ (Kd.C_below D9 HB.out) (fun W hb x => script_named1.calls B0 Bi Bj Bk Bl Bm Bn Bo Bp Bq B2 B3 B1 x gbc W (blk_below BKC.out hb) (Kd.C_below Bg (below_step HB.out hb)) Bh)).mono ?_); rw [Dj]; rintro e w4 ⟨rfl, hb⟩; clear B4 Ba B5 Bb B6 Bc B7 Bd B8 Be B9 Bf; have Br := bkb_ BKC hb; have Bs := bkb_ BKT hb; have Bt := bst_ HB hb; clear BKC BKT HB hb; have BKC := Br; have BKT := Bs; have HB := Bt; clear Br Bs Bt; obtain ⟨B4, B5, B6, B7, B8, B9⟩ := cells_6 BKT.out; obtain ⟨Ba, Bb, Bc, Bd, Be, Bf⟩ := frozen_6 BKT.out) | (go_at_call 69; (with_reducible refine (script_every_send.calls (fun x => isV B0 x.f0 && isV B0 x.f1) D1 D2 Bv 99 #[.pointer (some ⟨gbc, 0, none⟩)] Dh _ (Kd.C_below De HB.out) (fun W hb x => script_named1.calls B0 Bi Bj Bk Bl Bm Bn Bo Bp Bq B2 B3 B1 x gbc W (blk_below BKC.out hb) (Kd.C_below Bg (below_step HB.out hb)) Bh)).mono ?_); rw [Dk]; rintro e w4 ⟨rfl, hb⟩; clear B4 Ba B5 Bb B6 Bc B7 Bd B8 Be B9 Bf; have Br := bkb_ BKC hb; have Bs := bkb_ BKT hb; have Bt := bst_ HB hb; clear BKC BKT HB hb; have BKC := Br; have BKT := Bs; have HB := Bt; clear Br Bs Bt; obtain ⟨B4, B5, B6, B7, B8, B9⟩ := cells_6 BKT.out; obtain ⟨Ba, Bb, Bc, Bd, Be, Bf⟩ := frozen_6 BKT.out) | (go_at_call 100; (with_reducible refine (script_every_burst.calls (fun x => isV B0 x.f0) D5 D6 Bw 101 #[.pointer (some ⟨gbc, 0, none⟩)] Dl _ (Kd.C_below Dg HB.out) (fun W hb x => script_named2.calls B0 Bi Bj Bk Bl Bm Bn Bo Bp Bq B2 B3 B1 x gbc W (blk_below BKC.out hb) (Kd.C_below Bg (below_step HB.out hb)) Bh)).mono ?_); rw [Dm]; rintro e w4 ⟨rfl, hb⟩; clear B4 Ba B5 Bb B6 Bc B7 Bd B8 Be B9 Bf; have Br := bkb_ BKC hb; have Bs := bkb_ BKT hb; have Bt := bst_ HB hb; clear BKC BKT HB hb; have BKC := Br; have BKT := Bs; have HB := Bt; clear Br Bs Bt; obtain ⟨B4, B5, B6, B7, B8, B9⟩ := cells_6 BKT.out; obtain ⟨Ba, Bb, Bc, Bd, Be, Bf⟩ := frozen_6 BKT.out))
    go_ret
    exact ⟨by first | rfl | simp | simp [*], HB.out⟩
   | true =>
    cases Dw : By.all (fun x => isV B0 x.f0) with
    | false =>
     go_enter Try.func71, Try.ntmps71
     go_wp2_with (first | ((with_reducible refine gate_dst (N := 2) rfl ?_); refine bxe_ 2 24 #[.int .i64 B0, .int .i64 Bi, .int .i64 Bj, .int .i64 Bk, .int .i64 Bl, .int .i64 Bm, .int .i64 Bn, .int .i64 Bo, .int .i64 Bp, .int .i64 Bq, .slice B2 B1.length B3] ?_; intro gbc hg w2 hbox hb; have Bx := below_of hb (by repeat (first | (with_reducible first | exact HB.out | apply ba_ | apply bn_ | apply bd_) | exact HB.out)); have BKC := am_ hbox; replace HB := am_ (below_step Bx hb); clear Bx hb hbox hg) | ((with_reducible refine gate_dst (N := 3) rfl ?_); refine bxe_ 3 44 #[.slice Da D3.length Db, .slice Dc D4.length Dd, .slice Bz Bu.length D0, .slice D5 Bw.length D6, .slice D1 Bv.length D2, .slice D7 By.length D8] ?_; intro gbt hg w3 hbox hb; have Df := blk_of hb (g := gbc) (o := .cells #[.int .i64 B0, .int .i64 Bi, .int .i64 Bj, .int .i64 Bk, .int .i64 Bl, .int .i64 Bm, .int .i64 Bn, .int .i64 Bo, .int .i64 Bp, .int .i64 Bq, .slice B2 B1.length B3] 24 (0, 0)) (by (with_reducible repeat (first | apply kn_ | apply kd_ | apply ka_)); exact BKC.out); have Bx := below_of hb (by repeat (first | (with_reducible first | exact HB.out | apply ba_ | apply bn_ | apply bd_) | exact HB.out)); have BKT := am_ hbox; replace HB := am_ (below_step Bx hb); replace BKC := am_ (blk_below Df hb); clear Df Bx hb hbox hg; obtain ⟨B4, B5, B6, B7, B8, B9⟩ := cells_6 BKT.out; obtain ⟨Ba, Bb, Bc, Bd, Be, Bf⟩ := frozen_6 BKT.out) | (go_at_call 69; (with_reducible refine (script_every_send.calls (fun x => isV B0 x.f0 && isV B0 x.f1) Bz D0 Bu 99 #[.pointer (some ⟨gbc, 0, none⟩)] Dh _ (Kd.C_below D9 HB.out) (fun W hb x => script_named1.calls B0 Bi Bj Bk Bl Bm Bn Bo Bp Bq B2 B3 B1 x gbc W (blk_below BKC.out hb) (Kd.C_below Bg (below_step HB.out hb)) Bh)).mono ?_); rw [Dj]; rintro e w4 ⟨rfl, hb⟩; clear B4 Ba B5 Bb B6 Bc B7 Bd B8 Be B9 Bf; have Br := bkb_ BKC hb; have Bs := bkb_ BKT hb; have Bt := bst_ HB hb; clear BKC BKT HB hb; have BKC := Br; have BKT := Bs; have HB := Bt; clear Br Bs Bt; obtain ⟨B4, B5, B6, B7, B8, B9⟩ := cells_6 BKT.out; obtain ⟨Ba, Bb, Bc, Bd, Be, Bf⟩ := frozen_6 BKT.out) | (go_at_call 69; (with_reducible refine (script_every_send.calls (fun x => isV B0 x.f0 && isV B0 x.f1) D1 D2 Bv 99 #[.pointer (some ⟨gbc, 0, none⟩)] Dh _ (Kd.C_below De HB.out) (fun W hb x => script_named1.calls B0 Bi Bj Bk Bl Bm Bn Bo Bp Bq B2 B3 B1 x gbc W (blk_below BKC.out hb) (Kd.C_below Bg (below_step HB.out hb)) Bh)).mono ?_); rw [Dk]; rintro e w4 ⟨rfl, hb⟩; clear B4 Ba B5 Bb B6 Bc B7 Bd B8 Be B9 Bf; have Br := bkb_ BKC hb; have Bs := bkb_ BKT hb; have Bt := bst_ HB hb; clear BKC BKT HB hb; have BKC := Br; have BKT := Bs; have HB := Bt; clear Br Bs Bt; obtain ⟨B4, B5, B6, B7, B8, B9⟩ := cells_6 BKT.out; obtain ⟨Ba, Bb, Bc, Bd, Be, Bf⟩ := frozen_6 BKT.out) | (go_at_call 100; (with_reducible refine (script_every_burst.calls (fun x => isV B0 x.f0) D5 D6 Bw 101 #[.pointer (some ⟨gbc, 0, none⟩)] Dl _ (Kd.C_below Dg HB.out) (fun W hb x => script_named2.calls B0 Bi Bj Bk Bl Bm Bn Bo Bp Bq B2 B3 B1 x gbc W (blk_below BKC.out hb) (Kd.C_below Bg (below_step HB.out hb)) Bh)).mono ?_); rw [Dm]; rintro e w4 ⟨rfl, hb⟩; clear B4 Ba B5 Bb B6 Bc B7 Bd B8 Be B9 Bf; have Br := bkb_ BKC hb; have Bs := bkb_ BKT hb; have Bt := bst_ HB hb; clear BKC BKT HB hb; have BKC := Br; have BKT := Bs; have HB := Bt; clear Br Bs Bt; obtain ⟨B4, B5, B6, B7, B8, B9⟩ := cells_6 BKT.out; obtain ⟨Ba, Bb, Bc, Bd, Be, Bf⟩ := frozen_6 BKT.out) | (go_at_call 73; (with_reducible refine (script_every_write.calls (fun x => isV B0 x.f0) D7 D8 By 102 #[.pointer (some ⟨gbc, 0, none⟩)] Dv _ (Kd.C_below Di HB.out) (fun W hb x => script_named3.calls B0 Bi Bj Bk Bl Bm Bn Bo Bp Bq B2 B3 B1 x gbc W (blk_below BKC.out hb) (Kd.C_below Bg (below_step HB.out hb)) Bh)).mono ?_); rw [Dw]; rintro e w4 ⟨rfl, hb⟩; clear B4 Ba B5 Bb B6 Bc B7 Bd B8 Be B9 Bf; have Br := bkb_ BKC hb; have Bs := bkb_ BKT hb; have Bt := bst_ HB hb; clear BKC BKT HB hb; have BKC := Br; have BKT := Bs; have HB := Bt; clear Br Bs Bt; obtain ⟨B4, B5, B6, B7, B8, B9⟩ := cells_6 BKT.out; obtain ⟨Ba, Bb, Bc, Bd, Be, Bf⟩ := frozen_6 BKT.out))
     go_ret
     exact ⟨by first | rfl | simp | simp [*], HB.out⟩
    | true =>
     go_enter Try.func71, Try.ntmps71
     go_wp2_with (first | ((with_reducible refine gate_dst (N := 2) rfl ?_); refine bxe_ 2 24 #[.int .i64 B0, .int .i64 Bi, .int .i64 Bj, .int .i64 Bk, .int .i64 Bl, .int .i64 Bm, .int .i64 Bn, .int .i64 Bo, .int .i64 Bp, .int .i64 Bq, .slice B2 B1.length B3] ?_; intro gbc hg w2 hbox hb; have Bx := below_of hb (by repeat (first | (with_reducible first | exact HB.out | apply ba_ | apply bn_ | apply bd_) | exact HB.out)); have BKC := am_ hbox; replace HB := am_ (below_step Bx hb); clear Bx hb hbox hg) | ((with_reducible refine gate_dst (N := 3) rfl ?_); refine bxe_ 3 44 #[.slice Da D3.length Db, .slice Dc D4.length Dd, .slice Bz Bu.length D0, .slice D5 Bw.length D6, .slice D1 Bv.length D2, .slice D7 By.length D8] ?_; intro gbt hg w3 hbox hb; have Df := blk_of hb (g := gbc) (o := .cells #[.int .i64 B0, .int .i64 Bi, .int .i64 Bj, .int .i64 Bk, .int .i64 Bl, .int .i64 Bm, .int .i64 Bn, .int .i64 Bo, .int .i64 Bp, .int .i64 Bq, .slice B2 B1.length B3] 24 (0, 0)) (by (with_reducible repeat (first | apply kn_ | apply kd_ | apply ka_)); exact BKC.out); have Bx := below_of hb (by repeat (first | (with_reducible first | exact HB.out | apply ba_ | apply bn_ | apply bd_) | exact HB.out)); have BKT := am_ hbox; replace HB := am_ (below_step Bx hb); replace BKC := am_ (blk_below Df hb); clear Df Bx hb hbox hg; obtain ⟨B4, B5, B6, B7, B8, B9⟩ := cells_6 BKT.out; obtain ⟨Ba, Bb, Bc, Bd, Be, Bf⟩ := frozen_6 BKT.out) | (go_at_call 69; (with_reducible refine (script_every_send.calls (fun x => isV B0 x.f0 && isV B0 x.f1) Bz D0 Bu 99 #[.pointer (some ⟨gbc, 0, none⟩)] Dh _ (Kd.C_below D9 HB.out) (fun W hb x => script_named1.calls B0 Bi Bj Bk Bl Bm Bn Bo Bp Bq B2 B3 B1 x gbc W (blk_below BKC.out hb) (Kd.C_below Bg (below_step HB.out hb)) Bh)).mono ?_); rw [Dj]; rintro e w4 ⟨rfl, hb⟩; clear B4 Ba B5 Bb B6 Bc B7 Bd B8 Be B9 Bf; have Br := bkb_ BKC hb; have Bs := bkb_ BKT hb; have Bt := bst_ HB hb; clear BKC BKT HB hb; have BKC := Br; have BKT := Bs; have HB := Bt; clear Br Bs Bt; obtain ⟨B4, B5, B6, B7, B8, B9⟩ := cells_6 BKT.out; obtain ⟨Ba, Bb, Bc, Bd, Be, Bf⟩ := frozen_6 BKT.out) | (go_at_call 69; (with_reducible refine (script_every_send.calls (fun x => isV B0 x.f0 && isV B0 x.f1) D1 D2 Bv 99 #[.pointer (some ⟨gbc, 0, none⟩)] Dh _ (Kd.C_below De HB.out) (fun W hb x => script_named1.calls B0 Bi Bj Bk Bl Bm Bn Bo Bp Bq B2 B3 B1 x gbc W (blk_below BKC.out hb) (Kd.C_below Bg (below_step HB.out hb)) Bh)).mono ?_); rw [Dk]; rintro e w4 ⟨rfl, hb⟩; clear B4 Ba B5 Bb B6 Bc B7 Bd B8 Be B9 Bf; have Br := bkb_ BKC hb; have Bs := bkb_ BKT hb; have Bt := bst_ HB hb; clear BKC BKT HB hb; have BKC := Br; have BKT := Bs; have HB := Bt; clear Br Bs Bt; obtain ⟨B4, B5, B6, B7, B8, B9⟩ := cells_6 BKT.out; obtain ⟨Ba, Bb, Bc, Bd, Be, Bf⟩ := frozen_6 BKT.out) | (go_at_call 100; (with_reducible refine (script_every_burst.calls (fun x => isV B0 x.f0) D5 D6 Bw 101 #[.pointer (some ⟨gbc, 0, none⟩)] Dl _ (Kd.C_below Dg HB.out) (fun W hb x => script_named2.calls B0 Bi Bj Bk Bl Bm Bn Bo Bp Bq B2 B3 B1 x gbc W (blk_below BKC.out hb) (Kd.C_below Bg (below_step HB.out hb)) Bh)).mono ?_); rw [Dm]; rintro e w4 ⟨rfl, hb⟩; clear B4 Ba B5 Bb B6 Bc B7 Bd B8 Be B9 Bf; have Br := bkb_ BKC hb; have Bs := bkb_ BKT hb; have Bt := bst_ HB hb; clear BKC BKT HB hb; have BKC := Br; have BKT := Bs; have HB := Bt; clear Br Bs Bt; obtain ⟨B4, B5, B6, B7, B8, B9⟩ := cells_6 BKT.out; obtain ⟨Ba, Bb, Bc, Bd, Be, Bf⟩ := frozen_6 BKT.out) | (go_at_call 73; (with_reducible refine (script_every_write.calls (fun x => isV B0 x.f0) D7 D8 By 102 #[.pointer (some ⟨gbc, 0, none⟩)] Dv _ (Kd.C_below Di HB.out) (fun W hb x => script_named3.calls B0 Bi Bj Bk Bl Bm Bn Bo Bp Bq B2 B3 B1 x gbc W (blk_below BKC.out hb) (Kd.C_below Bg (below_step HB.out hb)) Bh)).mono ?_); rw [Dw]; rintro e w4 ⟨rfl, hb⟩; clear B4 Ba B5 Bb B6 Bc B7 Bd B8 Be B9 Bf; have Br := bkb_ BKC hb; have Bs := bkb_ BKT hb; have Bt := bst_ HB hb; clear BKC BKT HB hb; have BKC := Br; have BKT := Bs; have HB := Bt; clear Br Bs Bt; obtain ⟨B4, B5, B6, B7, B8, B9⟩ := cells_6 BKT.out; obtain ⟨Ba, Bb, Bc, Bd, Be, Bf⟩ := frozen_6 BKT.out))
     go_ret
     exact ⟨by first | rfl | simp | simp [*], HB.out⟩
/-- What is asked of each. -/
def script_short1B (x : S74) : Bool := decide ((x.f3.size : Int) ≤ 40)
theorem script_short1.calls (x : S74) (w : World) : Calls Try.prog 103 (#[.agg #[.int .i64 x.f0, .int .i64 x.f1, .int .i64 x.f2, .string x.f3]] ++ #[]) w fun e w' => e = .returned (.bool (script_short1B x)) ∧ Below w.heap.size w w' := by
 unfold script_short1B
 have hu := Try.underlying74
 go_enter Try.func103, Try.ntmps103
 go_wp2
 go_ret
 exact ⟨by first | rfl | simp, by repeat (first | exact Below.refl _ _ | apply below_alloc)⟩
def script_every_short1.f (l0 : List S74) (a1 : Unit) : Option Bool := some (l0.all script_short1B)
theorem script_every_short1.calls (A0 : Option Addr) (c0 : Nat) (l0 : List S74) (a1 : Unit) (r : Bool) (w : World) (B0 : Kd.C k74 w A0 l0.length l0) (B1 : l0.length ≤ c0) (h : script_every_short1.f l0 a1 = some r) :
  Calls Try.prog 69 #[.slice A0 l0.length c0, .func (.func 103) #[] #[]] w fun e w' => e = .returned (.bool r) ∧ Below w.heap.size w w' := by
 unfold script_every_short1.f at h
 obtain rfl := Option.some.inj h
 exact script_every_send.calls script_short1B A0 c0 l0 103 #[] (enters_of Try.func103 (by kernel_rfl) rfl) w B0 (fun W _ x => script_short1.calls x W)
/-- What is asked of each. -/
def script_short2B (x : S48) : Bool := decide ((x.f1.size : Int) ≤ 8000)
theorem script_short2.calls (x : S48) (w : World) : Calls Try.prog 104 (#[.agg #[.int .i64 x.f0, .string x.f1]] ++ #[]) w fun e w' => e = .returned (.bool (script_short2B x)) ∧ Below w.heap.size w w' := by
 unfold script_short2B
 have hu := Try.underlying48
 go_enter Try.func104, Try.ntmps104
 go_wp2
 go_ret
 exact ⟨by first | rfl | simp, by repeat (first | exact Below.refl _ _ | apply below_alloc)⟩
def script_every_short2.f (l0 : List S48) (a1 : Unit) : Option Bool := some (l0.all script_short2B)
theorem script_every_short2.calls (A0 : Option Addr) (c0 : Nat) (l0 : List S48) (a1 : Unit) (r : Bool) (w : World) (B0 : Kd.C k48 w A0 l0.length l0) (B1 : l0.length ≤ c0) (h : script_every_short2.f l0 a1 = some r) :
  Calls Try.prog 100 #[.slice A0 l0.length c0, .func (.func 104) #[] #[]] w fun e w' => e = .returned (.bool r) ∧ Below w.heap.size w w' := by
 unfold script_every_short2.f at h
 obtain rfl := Option.some.inj h
 exact script_every_burst.calls script_short2B A0 c0 l0 104 #[] (enters_of Try.func104 (by kernel_rfl) rfl) w B0 (fun W _ x => script_short2.calls x W)
def script_short.f (B6 B7 : List Int) (B0 : List (S74)) (B1 : List (S48)) (B2 : List (S74)) (B8 : List (S81)) : Option (Bool) := (script_every_short1.f B0 ()).bind fun B3 => (if B3 = true then ((script_every_short1.f B2 ()).bind fun B4 => (if B4 = true then ((script_every_short2.f B1 ()).bind fun B5 => (some B5)) else (some false))) else (some false))
set_option maxHeartbeats 8000000 in
set_option maxRecDepth 100000 in
theorem script_short.calls (B9 : Option Addr) (Ba : Nat) (B4 : List Int) (Bb : Option Addr) (Bc : Nat) (B5 : List Int) (Bd : Option Addr) (Be : Nat) (B1 : List (S74)) (Bf : Option Addr) (Bg : Nat) (B3 : List (S48)) (Bh : Option Addr) (Bi : Nat) (B2 : List (S74)) (Bj : Option Addr) (Bk : Nat) (B6 : List (S81)) (r : Bool) (w : World) (Bn : Kd.C (Kd.int .i64) w B9 B4.length B4) (Bo : B4.length ≤ Ba) (Bp : Kd.C (Kd.int .i64) w Bb B5.length B5) (Bq : B5.length ≤ Bc) (Br : Kd.C k74 w Bd B1.length B1) (Bs : B1.length ≤ Be) (Bt : Kd.C k48 w Bf B3.length B3) (Bu : B3.length ≤ Bg) (Bv : Kd.C k74 w Bh B2.length B2) (Bw : B2.length ≤ Bi) (Bx : Kd.C k81 w Bj B6.length B6) (By : B6.length ≤ Bk) (h : script_short.f B4 B5 B1 B3 B2 B6 = some r) :
  Calls Try.prog 72 #[.agg #[.slice B9 B4.length Ba, .slice Bb B5.length Bc, .slice Bd B1.length Be, .slice Bf B3.length Bg, .slice Bh B2.length Bi, .slice Bj B6.length Bk]] w fun e w' => e = .returned (.bool r) ∧ Below w.heap.size w w' := by
 have Do := Try.underlying44
 have D7 := am_ Bn
 have D8 := am_ Bo
 clear Bn Bo
 have D9 := am_ Bp
 have Da := am_ Bq
 clear Bp Bq
 have Bl := am_ Br
 have Bm := am_ Bs
 clear Br Bs
 have D2 := am_ Bt
 have D3 := am_ Bu
 clear Bt Bu
 have Bz := am_ Bv
 have D0 := am_ Bw
 clear Bv Bw
 have Db := am_ Bx
 have Dc := am_ By
 clear Bx By
 have HB := am_ (Below.refl w.heap.size w)
 have H := h
 unfold script_short.f at H
 clear h
 obtain ⟨D4, A2, H⟩ := bes_ H
 try dsimp only at H
 by_cases c3 : D4 = true
 ·subst c3
  rw [if_pos rfl] at H
  obtain ⟨D5, A4, H⟩ := bes_ H
  try dsimp only at H
  by_cases c5 : D5 = true
  ·subst c5
   rw [if_pos rfl] at H
   replace H := Option.bind_eq_some_iff.mp H
   obtain ⟨D6, Dd, H⟩ := H
   replace H : (some D6) = some r := H
   have A6 := am_ Dd
   clear Dd
   obtain rfl := Option.some.inj H
   go_enter Try.func72, Try.ntmps72
   go_wp2_with (first | ((with_reducible refine gate_dst (N := 1) rfl ?_); refine bxe_ 1 44 #[.slice B9 B4.length Ba, .slice Bb B5.length Bc, .slice Bd B1.length Be, .slice Bf B3.length Bg, .slice Bh B2.length Bi, .slice Bj B6.length Bk] ?_; intro D1 hg w7 hbox hb; have B0 := am_ (hbox); have B7 := gwk_ HB hg; have B8 := B7; replace HB := bst_ HB hb; clear hb hbox hg; have Dp := cells_6 B0.out; have Dq := frozen_6 B0.out) | ((with_reducible refine gate_callee (f := 69) rfl ?_); refine gom_ (some 7) Try.func69 (script_every_short1.calls _ _ B1 () _ _ (Kd.C_below Bl.out HB.out) Bm.out A2.out) ?_; rintro e w9 ⟨rfl, hb⟩; refine ⟨_, rfl, ?_⟩; replace B0 := bkb_ B0 hb; replace HB := bst_ HB hb; (try clear hb); have De := cells_6 B0.out; have Df := frozen_6 B0.out) | (go_at_call 69; (with_reducible refine (script_every_short1.calls _ _ B2 () _ _ (Kd.C_below Bz.out HB.out) D0.out A4.out).mono ?_); rintro e w11 ⟨rfl, hb⟩; replace B0 := bkb_ B0 hb; replace HB := bst_ HB hb; (try clear hb); have Dg := cells_6 B0.out; have Dh := frozen_6 B0.out) | (go_at_call 100; (with_reducible refine (script_every_short2.calls _ _ B3 () _ _ (Kd.C_below D2.out HB.out) D3.out A6.out).mono ?_); rintro e w13 ⟨rfl, hb⟩; replace B0 := bkb_ B0 hb; replace HB := bst_ HB hb; (try clear hb)))
   go_ret
   exact ⟨by first | rfl | (simp [*] <;> rfl), by repeat (first | (with_reducible first | exact HB.out | apply ba_ | apply bn_ | apply bd_ | refine bs_ ?_ B8.out) | exact HB.out)⟩
  ·replace c5 := Bool.eq_false_iff.mpr c5
   subst c5
   rw [if_neg (show ¬ (false = true) by decide)] at H
   obtain rfl := Option.some.inj H
   go_enter Try.func72, Try.ntmps72
   go_wp2_with (first | ((with_reducible refine gate_dst (N := 1) rfl ?_); refine bxe_ 1 44 #[.slice B9 B4.length Ba, .slice Bb B5.length Bc, .slice Bd B1.length Be, .slice Bf B3.length Bg, .slice Bh B2.length Bi, .slice Bj B6.length Bk] ?_; intro D1 hg w14 hbox hb; have B0 := am_ (hbox); have B7 := gwk_ HB hg; have B8 := B7; replace HB := bst_ HB hb; clear hb hbox hg; have Di := cells_6 B0.out; have Dj := frozen_6 B0.out) | ((with_reducible refine gate_callee (f := 69) rfl ?_); refine gom_ (some 7) Try.func69 (script_every_short1.calls _ _ B1 () _ _ (Kd.C_below Bl.out HB.out) Bm.out A2.out) ?_; rintro e w16 ⟨rfl, hb⟩; refine ⟨_, rfl, ?_⟩; replace B0 := bkb_ B0 hb; replace HB := bst_ HB hb; (try clear hb); have Dk := cells_6 B0.out; have Dl := frozen_6 B0.out) | (go_at_call 69; (with_reducible refine (script_every_short1.calls _ _ B2 () _ _ (Kd.C_below Bz.out HB.out) D0.out A4.out).mono ?_); rintro e w18 ⟨rfl, hb⟩; replace B0 := bkb_ B0 hb; replace HB := bst_ HB hb; (try clear hb)))
   go_ret
   exact ⟨by first | rfl | (simp [*] <;> rfl), by repeat (first | (with_reducible first | exact HB.out | apply ba_ | apply bn_ | apply bd_ | refine bs_ ?_ B8.out) | exact HB.out)⟩
 ·replace c3 := Bool.eq_false_iff.mpr c3
  subst c3
  rw [if_neg (show ¬ (false = true) by decide)] at H
  obtain rfl := Option.some.inj H
  go_enter Try.func72, Try.ntmps72
  go_wp2_with (first | ((with_reducible refine gate_dst (N := 1) rfl ?_); refine bxe_ 1 44 #[.slice B9 B4.length Ba, .slice Bb B5.length Bc, .slice Bd B1.length Be, .slice Bf B3.length Bg, .slice Bh B2.length Bi, .slice Bj B6.length Bk] ?_; intro D1 hg w19 hbox hb; have B0 := am_ (hbox); have B7 := gwk_ HB hg; have B8 := B7; replace HB := bst_ HB hb; clear hb hbox hg; have Dm := cells_6 B0.out; have Dn := frozen_6 B0.out) | ((with_reducible refine gate_callee (f := 69) rfl ?_); refine gom_ (some 7) Try.func69 (script_every_short1.calls _ _ B1 () _ _ (Kd.C_below Bl.out HB.out) Bm.out A2.out) ?_; rintro e w21 ⟨rfl, hb⟩; refine ⟨_, rfl, ?_⟩; replace B0 := bkb_ B0 hb; replace HB := bst_ HB hb; (try clear hb)))
  go_ret
  exact ⟨by first | rfl | (simp [*] <;> rfl), by repeat (first | (with_reducible first | exact HB.out | apply ba_ | apply bn_ | apply bd_ | refine bs_ ?_ B8.out) | exact HB.out)⟩
/-- What is asked of each. -/
def script_tick2B (x : S81) : Bool := decide ((x.f1.size : Int) ≤ 16)
theorem script_tick2.calls (x : S81) (w : World) : Calls Try.prog 74 (#[.agg #[.int .i64 x.f0, .string x.f1]] ++ #[]) w fun e w' => e = .returned (.bool (script_tick2B x)) ∧ Below w.heap.size w w' := by
 unfold script_tick2B
 have hu := Try.underlying81
 go_enter Try.func74, Try.ntmps74
 go_wp2
 go_ret
 exact ⟨by first | rfl | simp, by repeat (first | exact Below.refl _ _ | apply below_alloc)⟩
def script_every_tick2.f (l0 : List S81) (a1 : Unit) : Option Bool := some (l0.all script_tick2B)
theorem script_every_tick2.calls (A0 : Option Addr) (c0 : Nat) (l0 : List S81) (a1 : Unit) (r : Bool) (w : World) (B0 : Kd.C k81 w A0 l0.length l0) (B1 : l0.length ≤ c0) (h : script_every_tick2.f l0 a1 = some r) :
  Calls Try.prog 73 #[.slice A0 l0.length c0, .func (.func 74) #[] #[]] w fun e w' => e = .returned (.bool r) ∧ Below w.heap.size w w' := by
 unfold script_every_tick2.f at h
 obtain rfl := Option.some.inj h
 exact script_every_write.calls script_tick2B A0 c0 l0 74 #[] (enters_of Try.func74 (by kernel_rfl) rfl) w B0 (fun W _ x => script_tick2.calls x W)
end Go.Proofs.Ythdoghhmooodjaa.Gn
