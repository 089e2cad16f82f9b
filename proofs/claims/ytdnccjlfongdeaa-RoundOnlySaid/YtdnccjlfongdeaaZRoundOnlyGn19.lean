import Derived.Test.YtdnccjlfongdeaaZRoundOnlyGn0
import Derived.Test.YtdnccjlfongdeaaZRoundOnlyGn2
import Derived.Test.YtdnccjlfongdeaaZRoundOnlyGn10
import Derived.Test.YtdnccjlfongdeaaZRoundOnlyGn18
import Derived.Maps.OwnIn
import Derived.Maps.RangeWalk
import Derived.Maps.Ext
namespace Go.Proofs.Ytdnccjlfongdeaa.Gn
open Go.RowKit Go.Proofs.YtdnccjlfongdeaaW.PrintWords Go.Proofs.YtdnccjlfongdeaaW.PrintLast Go.Proofs.YtdnccjlfongdeaaW.PrintMore
attribute [local go_sem] max2_int min2_int max_two min_two max_three min_three max_four min_four   -- for this text's walks alone
set_option linter.unusedVariables false
set_option linter.unusedSimpArgs false
/-- The number that a map holds at a key (0 where it holds none), and one more there. -/
def numD : DataW Unit → Int
 | .lit (.int _ c) => c
 | _ => 0
def bumpD (D : DataW Unit) (x : Int) : DataW Unit := D.put (.int .i64 x) (.lit (.int .i64 (wrap64 (numD (D.atKey (.int .i64 x) (.lit (.int .i64 0))) + 1))))
def tallyD (xs : List Int) : DataW Unit := xs.foldl bumpD (.map [])
theorem tallyD_snoc (pre : List Int) (x : Int) : tallyD (pre ++ [x]) = bumpD (tallyD pre) x := by simp [tallyD]
theorem isKey_int (x : Int) : WideAt.IsKeyLit (.int .i64 x) := trivial
theorem tally_from : ∀ (xs : List Int) (D : DataW Unit) (c : Int → Nat), Maps.IsMap D → (∀ y, D.atKey (.int .i64 y) (.lit (.int .i64 0)) = .lit (.int .i64 (c y))) → (∀ y, c y + xs.length < 4611686018427387904) → ∀ x, (xs.foldl bumpD D).atKey (.int .i64 x) (.lit (.int .i64 0)) = .lit (.int .i64 ((c x + xs.count x : Nat) : Int))
 | [], _, _, _, hc, _, x => by simpa using hc x
 | y :: ys, D, c, hD, hc, hb, x => by
  have hw : wrap64 (((c y : Nat) : Int) + 1) = ((c y + 1 : Nat) : Int) := by
   have := hb y
   unfold wrap64
   omega
  have h1 : ∀ z, (bumpD D y).atKey (.int .i64 z) (.lit (.int .i64 0)) = .lit (.int .i64 (((if z = y then c z + 1 else c z) : Nat) : Int)) := fun z => by
   unfold bumpD
   rw [hc y]
   by_cases e : z = y
   ·subst e
    rw [Maps.atKey_put_same hD (isKey_int _), if_pos rfl]
    simp only [numD]
    rw [hw]
   ·rw [Maps.atKey_put_other (fun q => e (by injection q)), hc z, if_neg e]
  have ih := tally_from ys (bumpD D y) (fun z => if z = y then c z + 1 else c z) (hD.put _ _) h1 (fun z => by
   have := hb z
   rw [List.length_cons] at this
   split <;> omega) x
  rw [List.foldl_cons, ih, List.count_cons]
  by_cases e : x = y
  ·subst e
   rw [if_pos rfl, if_pos (by simp)]
   congr 3
   omega
  ·rw [if_neg e, if_neg (by simpa using fun q => e q.symm)]
   rfl
theorem tally_at (xs : List Int) (h : xs.length < 4611686018427387904) (x : Int) : (tallyD xs).atKey (.int .i64 x) (.lit (.int .i64 0)) = .lit (.int .i64 (xs.count x : Nat)) := by
 have := tally_from xs (.map []) (fun _ => 0) Maps.isMap_empty (fun _ => rfl) (fun _ => by omega) x
 simpa [tallyD] using this
/-- Why a message can't be, of so many, one behind another; 0 if none can't. -/
def round_nmsg (k : Nat) (a0 a1 a2 a3 a4 a5 a6 a7 a8 a9 : Int) (B0 B1 : List Int) (b0 : Int) (b1 : ByteArray) (l2 : List ByteArray) (l3 : List (List S45)) (l4 : List S45) : Nat → Nat → Int → Option Int
 | 0, _, _ => some 0
 | d + 1, i, last => (round_machine_message.f k a0 a1 a2 a3 a4 a5 a6 a7 a8 a9 B0 B1 b0 b1 l2 l3 (rd_T45 l4 (i : Int)).f0 (rd_T45 l4 (i : Int)).f1 (rd_T45 l4 (i : Int)).f2 (rd_T45 l4 (i : Int)).f3 last).bind fun e => if e = 0 then (if 0 ≤ (rd_T45 l4 (i : Int)).f1 ∧ (rd_T45 l4 (i : Int)).f1 < 4611686018427387904 then round_nmsg k a0 a1 a2 a3 a4 a5 a6 a7 a8 a9 B0 B1 b0 b1 l2 l3 l4 d (i + 1) (rd_T45 l4 (i : Int)).f1 else none) else some e
/-- Whether a slot of an honest owner is missed, of so many. -/
def round_nlate (k : Nat) (a0 a1 a2 a3 a4 a5 a6 a7 a8 a9 : Int) (B0 B1 : List Int) (l4 : List S45) : Nat → Nat → Option Int
 | 0, _ => some 0
 | d + 1, i => if (l4.map (·.f1)).count (i : Int) = 0 then (round_machine_lies.f k a0 a1 a2 a3 a4 a5 a6 a7 a8 a9 B0 B1 (rd B0 (i : Int))).bind fun b => (if b = true then round_nlate k a0 a1 a2 a3 a4 a5 a6 a7 a8 a9 B0 B1 l4 d (i + 1) else some 10) else round_nlate k a0 a1 a2 a3 a4 a5 a6 a7 a8 a9 B0 B1 l4 d (i + 1)
def round_machine_node.f (k : Nat) (a0 a1 a2 a3 a4 a5 a6 a7 a8 a9 : Int) (B0 B1 : List Int) (b0 : Int) (b1 : ByteArray) (l2 : List ByteArray) (l3 : List (List S45)) (l4 : List S45) : Option Int := if l4.length < 3518437208883 then (round_nmsg k a0 a1 a2 a3 a4 a5 a6 a7 a8 a9 B0 B1 b0 b1 l2 l3 l4 l4.length 0 (-1)).bind fun e => (if e = 0 then round_nlate k a0 a1 a2 a3 a4 a5 a6 a7 a8 a9 B0 B1 l4 B0.length 0 else some e) else none
theorem round_nmsg_mono (k : Nat) (a0 a1 a2 a3 a4 a5 a6 a7 a8 a9 : Int) (B0 B1 : List Int) (b0 : Int) (b1 : ByteArray) (l2 : List ByteArray) (l3 : List (List S45)) (l4 : List S45) : ∀ d i last, LeO (round_nmsg k a0 a1 a2 a3 a4 a5 a6 a7 a8 a9 B0 B1 b0 b1 l2 l3 l4 d i last) (round_nmsg (k + 1) a0 a1 a2 a3 a4 a5 a6 a7 a8 a9 B0 B1 b0 b1 l2 l3 l4 d i last)
 | 0, _, _ => LeO.refl _
 | d + 1, i, last => LeO.bind (round_machine_message.mono _ _ _ _ _ _ _ _ _ _ _ _ _ _ _ _ _ _ _ _ _ _) (fun e => LeO.ite (LeO.ite (round_nmsg_mono k a0 a1 a2 a3 a4 a5 a6 a7 a8 a9 B0 B1 b0 b1 l2 l3 l4 d (i + 1) _) (LeO.refl _)) (LeO.refl _))
theorem round_nlate_mono (k : Nat) (a0 a1 a2 a3 a4 a5 a6 a7 a8 a9 : Int) (B0 B1 : List Int) (l4 : List S45) : ∀ d i, LeO (round_nlate k a0 a1 a2 a3 a4 a5 a6 a7 a8 a9 B0 B1 l4 d i) (round_nlate (k + 1) a0 a1 a2 a3 a4 a5 a6 a7 a8 a9 B0 B1 l4 d i)
 | 0, _ => LeO.refl _
 | d + 1, i => LeO.ite (LeO.bind (round_machine_lies.mono _ _ _ _ _ _ _ _ _ _ _ _ _ _) (fun b => LeO.ite (round_nlate_mono k a0 a1 a2 a3 a4 a5 a6 a7 a8 a9 B0 B1 l4 d (i + 1)) (LeO.refl _))) (round_nlate_mono k a0 a1 a2 a3 a4 a5 a6 a7 a8 a9 B0 B1 l4 d (i + 1))
theorem round_machine_node.mono : ∀ a0 a1 a2 a3 a4 a5 a6 a7 a8 a9 B0 B1 b0 b1 l2 l3 l4 k, LeO (round_machine_node.f k a0 a1 a2 a3 a4 a5 a6 a7 a8 a9 B0 B1 b0 b1 l2 l3 l4) (round_machine_node.f (k + 1) a0 a1 a2 a3 a4 a5 a6 a7 a8 a9 B0 B1 b0 b1 l2 l3 l4) := by
 intro a0 a1 a2 a3 a4 a5 a6 a7 a8 a9 B0 B1 b0 b1 l2 l3 l4 k
 unfold round_machine_node.f
 exact LeO.ite (LeO.bind (round_nmsg_mono k a0 a1 a2 a3 a4 a5 a6 a7 a8 a9 B0 B1 b0 b1 l2 l3 l4 _ _ _) (fun e => LeO.ite (round_nlate_mono k a0 a1 a2 a3 a4 a5 a6 a7 a8 a9 B0 B1 l4 _ _) (LeO.refl _))) (LeO.refl _)
theorem own_setRow {H : Type} {P : Program} {t : TypeId} {R : Value → Option (DataW H × List MemPlace)} {W : World} {b n g : Nat} {cs : Array Value} {X : DataW H} (h : W.ownsMap P t R b n X) (hne : b ≠ g) : (W.setRow g cs).ownsMap P t R b n X :=
 h.kept (row := some g) ⟨rfl, rfl, rfl, by simp [World.setRow], fun k _ hn => setRow_other W g k cs (fun e => hn (by rw [e]))⟩ (fun e => hne (Option.some.inj e))
set_option maxHeartbeats 8000000 in
set_option maxRecDepth 100000 in
theorem round_machine_node.calls (k : Nat) (a0 a1 a2 a3 a4 a5 a6 a7 a8 a9 : Int) (Bi : Option Addr) (Bj : Nat) (B0 : List Int) (Bk : Option Addr) (Bl : Nat) (B5 : List Int) (b0 : Int) (b1 : ByteArray) (A2 : Option Addr) (c2 : Nat) (l2 : List ByteArray) (A3 : Option Addr) (c3 : Nat) (l3 : List (List S45)) (A4 : Option Addr) (c4 : Nat) (l4 : List S45) (r : Int) (w : World)
  (Bm : Kd.C (Kd.int .i64) w Bi B0.length B0) (B8 : B0.length ≤ Bj) (Bn : Kd.C (Kd.int .i64) w Bk B5.length B5) (B9 : B5.length ≤ Bl) (Bs : Kd.C Kd.string w A2 l2.length l2) (Bt : l2.length ≤ c2) (Bu : Kd.C (Kd.slice 45 k45) w A3 l3.length l3) (Bv : l3.length ≤ c3) (Bw : Kd.C k45 w A4 l4.length l4) (D6 : l4.length ≤ c4)
  (h : round_machine_node.f k a0 a1 a2 a3 a4 a5 a6 a7 a8 a9 B0 B5 b0 b1 l2 l3 l4 = some r) :
  Calls Try.prog 37 #[.agg #[.int .i64 a0, .int .i64 a1, .int .i64 a2, .int .i64 a3, .int .i64 a4, .int .i64 a5, .int .i64 a6, .int .i64 a7, .int .i64 a8, .int .i64 a9, .slice Bi B0.length Bj, .slice Bk B5.length Bl], .agg #[.int .i64 b0, .string b1, .slice A2 l2.length c2, .slice A3 l3.length c3], .slice A4 l4.length c4] w fun e w' => e = .returned (.int .i64 r) ∧ Below w.heap.size w w' := by
 have hmm := @run_makeMap Try.prog
 have hud := Try.underlying45
 unfold round_machine_node.f at h
 by_cases hlen : l4.length < 3518437208883
 ·rw [if_pos hlen] at h
  obtain ⟨e1, h1, h2⟩ := Option.bind_eq_some_iff.mp h
  have H1 := am_ h1
  have H2 := am_ h2
  clear h h1 h2
  have B7 := am_ Bm
  have Ba := am_ Bn
  have Bx := am_ Bs
  have By := am_ Bu
  have D3 := am_ Bw
  clear Bm Bn Bs Bu Bw
  have HB := am_ (Below.refl w.heap.size w)
  go_enter Try.func37, Try.ntmps37
  go_wp2_with (first | ((with_reducible refine gate_dst (N := 3) rfl ?_); refine bxe_ 3 47 #[.int .i64 a0, .int .i64 a1, .int .i64 a2, .int .i64 a3, .int .i64 a4, .int .i64 a5, .int .i64 a6, .int .i64 a7, .int .i64 a8, .int .i64 a9, .slice Bi B0.length Bj, .slice Bk B5.length Bl] ?_; intro gm hg w2 hbox hb; have BM := am_ hbox; have GM := am_ ((by rw [hg]; exact below_size HB.out) : w.heap.size ≤ gm); replace HB := am_ (below_step HB.out hb); clear hb hbox hg) | ((with_reducible refine gate_dst (N := 4) rfl ?_); refine bxe_ 4 32 #[.int .i64 b0, .string b1, .slice A2 l2.length c2, .slice A3 l3.length c3] ?_; intro gr hg w3 hbox hb; have BR := am_ hbox; replace BM := am_ (blk_below BM.out hb); replace HB := am_ (below_step HB.out hb); clear hb hbox hg))
  have MP := am_ (World.ownsMap_made w3 Try.prog 3 (plainElem (H := Unit) Try.prog 3))
  have N4 : gm ≠ w3.heap.size := Nat.ne_of_lt (blk_lt BM.out)
  have N5 : gr ≠ w3.heap.size := Nat.ne_of_lt (blk_lt BR.out)
  have GB : w.heap.size ≤ w3.heap.size := below_size HB.out
  replace BM := am_ (blk_alloc BM.out (.map #[] 0))
  replace BR := am_ (blk_alloc BR.out (.map #[] 0))
  replace HB := am_ (below_alloc HB.out (.map #[] 0))
  generalize w3.heap.size = B at N4 N5 GB MP ⊢
  go_loopg [7, 17] l4.length (fun kq v7 v17 w' => ∃ (j : Nat) (last : Int), v17 = .int .i64 (j : Int) ∧ v7 = .int .i64 last ∧ j + kq = l4.length ∧ Aside0 (round_nmsg k a0 a1 a2 a3 a4 a5 a6 a7 a8 a9 B0 B5 b0 b1 l2 l3 l4 kq j last = some e1) ∧ Aside0 (w'.heap[gm]? = some (.cells #[.int .i64 a0, .int .i64 a1, .int .i64 a2, .int .i64 a3, .int .i64 a4, .int .i64 a5, .int .i64 a6, .int .i64 a7, .int .i64 a8, .int .i64 a9, .slice Bi B0.length Bj, .slice Bk B5.length Bl] 47 (0, 0))) ∧ Aside0 (w'.heap[gr]? = some (.cells #[.int .i64 b0, .string b1, .slice A2 l2.length c2, .slice A3 l3.length c3] 32 (0, 0))) ∧ Aside0 (w'.ownsMap Try.prog 3 (plainElem (H := Unit) Try.prog 3) B j (tallyD ((l4.take j).map (·.f1)))) ∧ Aside0 (Below w.heap.size w w'))
  case atStart => exact ⟨0, -1, rfl, rfl, by omega, H1, BM, BR, MP, HB⟩
  case round =>
   clear HB BM BR MP H1
   obtain ⟨j, last, rfl, rfl, hj, H1, BM, BR, MP, HB⟩ := hrel
   cases gk with
   | zero =>
    have c : decide ((j : Int) < (l4.length : Int)) = false := decide_eq_false (by omega)
    have c' : decide (j < l4.length) = false := decide_eq_false (by omega)
    have e0 := (Option.some.inj H1.out).symm
    subst e0
    have Bz := am_ (show round_nlate k a0 a1 a2 a3 a4 a5 a6 a7 a8 a9 B0 B5 l4 B0.length 0 = some r from by have := H2.out; rw [if_pos rfl] at this; exact this)
    clear H2 H1
    have D0 := am_ (show _ from by have := MP.out; rw [List.take_of_length_le (show l4.length ≤ j by omega)] at this; exact this.mono (show j ≤ l4.length by omega))
    clear MP
    have hcz := (blk_cell BM.out 10).trans rfl
    go_wp2
    go_loopg [41] B0.length (fun kq v41 w' => ∃ (j : Nat), v41 = .int .i64 (j : Int) ∧ j + kq = B0.length ∧ Aside0 (round_nlate k a0 a1 a2 a3 a4 a5 a6 a7 a8 a9 B0 B5 l4 kq j = some r) ∧ Aside0 (w'.heap[gm]? = some (.cells #[.int .i64 a0, .int .i64 a1, .int .i64 a2, .int .i64 a3, .int .i64 a4, .int .i64 a5, .int .i64 a6, .int .i64 a7, .int .i64 a8, .int .i64 a9, .slice Bi B0.length Bj, .slice Bk B5.length Bl] 47 (0, 0))) ∧ Aside0 (w'.ownsMap Try.prog 3 (plainElem (H := Unit) Try.prog 3) B l4.length (tallyD (l4.map (·.f1)))) ∧ Aside0 (Below w.heap.size w w'))
    case atStart => exact ⟨0, rfl, by omega, Bz, BM, D0, HB⟩
    case round =>
     clear HB BM D0 Bz hcz
     obtain ⟨i, rfl, hi, H2, BM, MP, HB⟩ := hrel
     cases gk with
     | zero =>
      have c : decide ((i : Int) < (B0.length : Int)) = false := decide_eq_false (by omega)
      obtain rfl := Option.some.inj H2.out
      go_wp2
      go_ret
      exact ⟨rfl, HB.out⟩
     | succ k1 =>
      have hlt : i < B0.length := by omega
      have hmx := Kd.C_max B7.out
      have c : decide ((i : Int) < (B0.length : Int)) = true := decide_eq_true (by omega)
      have EW := am_ (show wrap64 ((i : Int) + 1) = ((i + 1 : Nat) : Int) by unfold wrap64; omega)
      obtain ⟨D1, Bp, Bb⟩ := Kd.at_int B7.out (i : Int) (by omega) (by omega)
      cases Bp
      rw [Int.toNat_natCast] at Bb
      replace Bb := (HB.out.cell (World.block_lt_of_cell? w _ Bb)).trans Bb
      have D4 : (0 ≤ (i : Int)) = True := eq_true (by omega)
      have D5 : ((i : Int) < (B0.length : Int)) = True := eq_true (by omega)
      have hkey := Maps.keyOf_int_mk Try.underlying3 (show (Lit.int .i64 (i : Int)).wf = true by simp [Lit.wf, IntKind.min, IntKind.max, IntKind.signed, IntKind.bits]; omega)
      have ht := tally_at (l4.map (·.f1)) (by rw [List.length_map]; omega) (i : Int)
      have hh := H2.out
      clear H2
      unfold round_nlate at hh
      by_cases h0 : (l4.map (·.f1)).count (i : Int) = 0
      ·rw [if_pos h0] at hh
       obtain ⟨b, h5, h6⟩ := Option.bind_eq_some_iff.mp hh
       have H5 := am_ h5
       clear hh h5
       rw [h0] at ht
       cases b with
       | true =>
        have H6 := am_ (show round_nlate k a0 a1 a2 a3 a4 a5 a6 a7 a8 a9 B0 B5 l4 k1 (i + 1) = some r from h6)
        clear h6 h0 hlt
        go_wp2_with (first | (at_lookup; refine wpList_lookup_own_int _ rfl _ _ 74 rfl 3 3 .i64 (Maps.int_keyed Try.underlying3) Try.underlying74 Try.underlying3 (Try.zeroValue3 _) B l4.length _ rfl MP.out _ _ rfl hkey ?_; intro cc hat hwc; obtain rfl : cc = 0 := (by rw [ht] at hat; simpa using hat.symm)) | ((with_reducible refine gate_load (t := 47) (x := .tmp 3) rfl ?_); refine lrg_ 47 (.tmp 3) gm 47 (by exact BM.out) Try.underlying47 ?_) | (go_at_call 25; (with_reducible refine (round_machine_lies.calls k a0 a1 a2 a3 a4 a5 a6 a7 a8 a9 _ _ B0 _ _ B5 (rd B0 (i : Int)) true _ ?side1 ?side2 ?side3 ?side4 H5.out).mono ?_); (case side1 => exact Kd.C_below B7.out HB.out); (case side2 => exact B8); (case side3 => exact Kd.C_below Ba.out HB.out); (case side4 => exact B9); rintro e w9 ⟨rfl, hb⟩; replace BM := am_ (blk_below BM.out hb); replace MP := am_ (MP.out.kept (grown_of_below hb none) (by simp)); replace HB := am_ (below_step HB.out hb); clear hb))
        go_roundg k1
        case measure => omega
        case rel => exact ⟨i + 1, by first | rfl | rw [EW.out], by omega, H6, BM, MP, HB⟩
       | false =>
        obtain rfl := Option.some.inj (show some 10 = some r from h6)
        clear h6 h0 hlt
        go_wp2_with (first | (at_lookup; refine wpList_lookup_own_int _ rfl _ _ 74 rfl 3 3 .i64 (Maps.int_keyed Try.underlying3) Try.underlying74 Try.underlying3 (Try.zeroValue3 _) B l4.length _ rfl MP.out _ _ rfl hkey ?_; intro cc hat hwc; obtain rfl : cc = 0 := (by rw [ht] at hat; simpa using hat.symm)) | ((with_reducible refine gate_load (t := 47) (x := .tmp 3) rfl ?_); refine lrg_ 47 (.tmp 3) gm 47 (by exact BM.out) Try.underlying47 ?_) | (go_at_call 25; (with_reducible refine (round_machine_lies.calls k a0 a1 a2 a3 a4 a5 a6 a7 a8 a9 _ _ B0 _ _ B5 (rd B0 (i : Int)) false _ ?side1 ?side2 ?side3 ?side4 H5.out).mono ?_); (case side1 => exact Kd.C_below B7.out HB.out); (case side2 => exact B8); (case side3 => exact Kd.C_below Ba.out HB.out); (case side4 => exact B9); rintro e w9 ⟨rfl, hb⟩; replace HB := am_ (below_step HB.out hb); clear hb))
        go_ret
        exact ⟨rfl, HB.out⟩
      ·rw [if_neg h0] at hh
       have H6 := am_ hh
       clear hh hlt
       have cz : (((l4.map (·.f1)).count (i : Int) : Int) == 0) = false := beq_eq_false_iff_ne.mpr (by omega)
       go_wp2_with (first | (at_lookup; refine wpList_lookup_own_int _ rfl _ _ 74 rfl 3 3 .i64 (Maps.int_keyed Try.underlying3) Try.underlying74 Try.underlying3 (Try.zeroValue3 _) B l4.length _ rfl MP.out _ _ rfl hkey ?_; intro cc hat hwc; obtain rfl : cc = ((l4.map (·.f1)).count (i : Int) : Int) := (by rw [ht] at hat; simpa using hat.symm)))
       go_roundg k1
       case measure => omega
       case rel => exact ⟨i + 1, by first | rfl | rw [EW.out], by omega, H6, BM, MP, HB⟩
   | succ k1 =>
    have hlt : j < l4.length := by omega
    have c : decide ((j : Int) < (l4.length : Int)) = true := decide_eq_true (by omega)
    have EW := am_ (show wrap64 ((j : Int) + 1) = ((j + 1 : Nat) : Int) by unfold wrap64; omega)
    have hh := H1.out
    clear H1
    unfold round_nmsg at hh
    obtain ⟨e2, h3, h4⟩ := Option.bind_eq_some_iff.mp hh
    have H3 := am_ h3
    clear hh h3
    have Bc : 0 ≤ (j : Int) := by omega
    have Bd : (j : Int) < (l4.length : Int) := by omega
    obtain ⟨D2, Bq, B1, B2, B3, B4⟩ := at_T45 D3.out (j : Int) Bc Bd
    cases Bq
    rw [Int.toNat_natCast] at B1 B2 B3 B4
    replace B1 := (HB.out.cell (World.block_lt_of_cell? w _ B1)).trans B1
    replace B2 := (HB.out.cell (World.block_lt_of_cell? w _ B2)).trans B2
    replace B3 := (HB.out.cell (World.block_lt_of_cell? w _ B3)).trans B3
    replace B4 := (HB.out.cell (World.block_lt_of_cell? w _ B4)).trans B4
    replace Bc := eq_true Bc
    replace Bd := eq_true Bd
    by_cases he : e2 = 0
    ·subst he
     rw [if_pos rfl] at h4
     by_cases hs : 0 ≤ (rd_T45 l4 (j : Int)).f1 ∧ (rd_T45 l4 (j : Int)).f1 < 4611686018427387904
     ·rw [if_pos hs] at h4
      have H4 := am_ h4
      clear h4
      have hkey := Maps.keyOf_int_mk Try.underlying3 (show (Lit.int .i64 (rd_T45 l4 (j : Int)).f1).wf = true by simp [Lit.wf, IntKind.min, IntKind.max, IntKind.signed, IntKind.bits]; omega)
      have htk : (l4.take (j + 1)).map (·.f1) = (l4.take j).map (·.f1) ++ [(rd_T45 l4 (j : Int)).f1] := by rw [List.take_succ_eq_append_getElem hlt, List.map_append, List.map_singleton]; congr 2; unfold rd_T45; simp [List.getD_eq_getElem?_getD, hlt]
      clear hlt hs
      go_wp2_with (first | ((with_reducible refine gate_dst (N := 10) rfl ?_); refine bxe_ 10 45 #[.int .i64 0, .int .i64 0, .int .i64 0, .string (⟨#[]⟩ : ByteArray)] ?_; intro gd hg w5 hbox hb; have BD := am_ hbox; have N1 := am_ ((by rw [hg]; exact Nat.ne_of_lt (blk_lt BM.out)) : gm ≠ gd); have N2 := am_ ((by rw [hg]; exact Nat.ne_of_lt (blk_lt BR.out)) : gr ≠ gd); have N3 := am_ ((by rw [hg]; exact Nat.ne_of_lt MP.out.lt) : B ≠ gd); have GD := am_ ((by rw [hg]; exact below_size HB.out) : w.heap.size ≤ gd); replace BM := am_ (blk_below BM.out hb); replace BR := am_ (blk_below BR.out hb); replace MP := am_ (MP.out.kept (grown_of_below hb none) (by simp)); replace HB := am_ (below_step HB.out hb); clear hb hbox hg) | ((with_reducible refine gate_store (t := 45) (p := 10) rfl ?_); refine row_store_event (t := 45) (p := 10) (v := ?vo_w6) ?hgd ?ho ?hn gd #[.int .i64 (rd_T45 l4 (j : Int)).f0, .int .i64 (rd_T45 l4 (j : Int)).f1, .int .i64 (rd_T45 l4 (j : Int)).f2, .string (rd_T45 l4 (j : Int)).f3] ?hx ?hy 45 #[.int .i64 0, .int .i64 0, .int .i64 0, .string (⟨#[]⟩ : ByteArray)] ?hg ?hi ?hold ?h1 ?_; (case hgd => rfl); (case ho => rfl); (case hn => rfl); (case hx => rfl); (case hy => rfl); (case hg => exact BD.out); (case hi => kernel_rfl); (case hold => rfl); (case h1 => (first | kernel_rfl | simp [Value.oneCell'])); intro w6 hw; have Be := blk_farc (cs := #[.int .i64 (rd_T45 l4 (j : Int)).f0, .int .i64 (rd_T45 l4 (j : Int)).f1, .int .i64 (rd_T45 l4 (j : Int)).f2, .string (rd_T45 l4 (j : Int)).f3]) BM.out N1.out; have Bf := blk_farc (cs := #[.int .i64 (rd_T45 l4 (j : Int)).f0, .int .i64 (rd_T45 l4 (j : Int)).f1, .int .i64 (rd_T45 l4 (j : Int)).f2, .string (rd_T45 l4 (j : Int)).f3]) BR.out N2.out; have Bg := below_setc (cs := #[.int .i64 (rd_T45 l4 (j : Int)).f0, .int .i64 (rd_T45 l4 (j : Int)).f1, .int .i64 (rd_T45 l4 (j : Int)).f2, .string (rd_T45 l4 (j : Int)).f3]) HB.out GD.out; have Bh := setRow_heap _ _ #[.int .i64 0, .int .i64 0, .int .i64 0, .string (⟨#[]⟩ : ByteArray)] #[.int .i64 (rd_T45 l4 (j : Int)).f0, .int .i64 (rd_T45 l4 (j : Int)).f1, .int .i64 (rd_T45 l4 (j : Int)).f2, .string (rd_T45 l4 (j : Int)).f3] 45 (0, 0) BD.out; have Br := own_setRow (cs := #[.int .i64 (rd_T45 l4 (j : Int)).f0, .int .i64 (rd_T45 l4 (j : Int)).f1, .int .i64 (rd_T45 l4 (j : Int)).f2, .string (rd_T45 l4 (j : Int)).f3]) MP.out N3.out; rw [← hw] at Be Bf Bg Bh Br; replace BM := am_ Be; replace BR := am_ Bf; replace HB := am_ Bg; replace BD := am_ Bh; replace MP := am_ Br; clear Br; clear hw Be Bf Bg Bh) | ((with_reducible refine gate_load (t := 47) (x := .tmp 3) rfl ?_); refine lrg_ 47 (.tmp 3) gm 47 (by exact BM.out) Try.underlying47 ?_) | ((with_reducible refine gate_load (t := 32) (x := .tmp 4) rfl ?_); refine lrg_ 32 (.tmp 4) gr 32 (by exact BR.out) Try.underlying32 ?_) | ((with_reducible refine gate_load (t := 45) (x := .tmp 10) rfl ?_); refine lrg_ 45 (.tmp 10) gd 45 (by exact BD.out) Try.underlying45 ?_) | (go_at_call 51; (with_reducible refine (round_machine_message.calls k a0 a1 a2 a3 a4 a5 a6 a7 a8 a9 _ _ B0 _ _ B5 b0 b1 _ _ l2 _ _ l3 (rd_T45 l4 (j : Int)).f0 (rd_T45 l4 (j : Int)).f1 (rd_T45 l4 (j : Int)).f2 (rd_T45 l4 (j : Int)).f3 last 0 _ ?side1 ?side2 ?side3 ?side4 ?side5 ?side6 ?side7 ?side8 H3.out).mono ?_); (case side1 => exact Kd.C_below B7.out HB.out); (case side2 => exact B8); (case side3 => exact Kd.C_below Ba.out HB.out); (case side4 => exact B9); (case side5 => exact Kd.C_below Bx.out HB.out); (case side6 => exact Bt); (case side7 => exact Kd.C_below By.out HB.out); (case side8 => exact Bv); rintro e w7 ⟨rfl, hb⟩; replace BM := am_ (blk_below BM.out hb); replace BR := am_ (blk_below BR.out hb); replace BD := am_ (blk_below BD.out hb); replace MP := am_ (MP.out.kept (grown_of_below hb none) (by simp)); replace HB := am_ (below_step HB.out hb); clear hb; have hcz := (blk_cell BD.out 1).trans rfl) | (at_lookup; refine wpList_lookup_own_int _ rfl _ _ 74 rfl 3 3 .i64 (Maps.int_keyed Try.underlying3) Try.underlying74 Try.underlying3 (Try.zeroValue3 _) B j _ rfl MP.out _ _ rfl hkey ?_; intro cc hat hwc) | (at_mapUpdate; refine wpList_mapUpdate_own _ rfl _ _ _ 74 rfl 3 3 (Maps.int_keyed Try.underlying3) Try.underlying74 _ B j _ rfl MP.out (by simp only [maxLen]; omega) _ _ _ rfl rfl hkey _ [] (plainElem_int Try.underlying3 (wrap64_wf _)) ?_; intro w8 Bo B6))
      go_roundg k1
      case measure => omega
      case rel => exact ⟨j + 1, _, by first | rfl | rw [EW.out], rfl, by omega, H4, ⟨blk_grown BM.out B6 (fun e => N4 (Option.some.inj e))⟩, ⟨blk_grown BR.out B6 (fun e => N5 (Option.some.inj e))⟩, ⟨by rw [htk, tallyD_snoc, bumpD, hat]; exact Bo⟩, ⟨HB.out.grown B6 HB.out.size (fun k e => by cases e; exact GB)⟩⟩
     ·rw [if_neg hs] at h4
      cases h4
    ·rw [if_neg he] at h4
     have e3 := Option.some.inj h4
     subst e3
     have hf : r = e2 := by have := H2.out; rw [if_neg he] at this; exact (Option.some.inj this).symm
     subst hf
     have cne : (r != 0) = true := bne_iff_ne.mpr he
     clear he hlt
     go_wp2_with (first | ((with_reducible refine gate_dst (N := 10) rfl ?_); refine bxe_ 10 45 #[.int .i64 0, .int .i64 0, .int .i64 0, .string (⟨#[]⟩ : ByteArray)] ?_; intro gd hg w5 hbox hb; have BD := am_ hbox; have N1 := am_ ((by rw [hg]; exact Nat.ne_of_lt (blk_lt BM.out)) : gm ≠ gd); have N2 := am_ ((by rw [hg]; exact Nat.ne_of_lt (blk_lt BR.out)) : gr ≠ gd); have GD := am_ ((by rw [hg]; exact below_size HB.out) : w.heap.size ≤ gd); replace BM := am_ (blk_below BM.out hb); replace BR := am_ (blk_below BR.out hb); replace HB := am_ (below_step HB.out hb); clear hb hbox hg) | ((with_reducible refine gate_store (t := 45) (p := 10) rfl ?_); refine row_store_event (t := 45) (p := 10) (v := ?vo_w6) ?hgd ?ho ?hn gd #[.int .i64 (rd_T45 l4 (j : Int)).f0, .int .i64 (rd_T45 l4 (j : Int)).f1, .int .i64 (rd_T45 l4 (j : Int)).f2, .string (rd_T45 l4 (j : Int)).f3] ?hx ?hy 45 #[.int .i64 0, .int .i64 0, .int .i64 0, .string (⟨#[]⟩ : ByteArray)] ?hg ?hi ?hold ?h1 ?_; (case hgd => rfl); (case ho => rfl); (case hn => rfl); (case hx => rfl); (case hy => rfl); (case hg => exact BD.out); (case hi => kernel_rfl); (case hold => rfl); (case h1 => (first | kernel_rfl | simp [Value.oneCell'])); intro w6 hw; have Be := blk_farc (cs := #[.int .i64 (rd_T45 l4 (j : Int)).f0, .int .i64 (rd_T45 l4 (j : Int)).f1, .int .i64 (rd_T45 l4 (j : Int)).f2, .string (rd_T45 l4 (j : Int)).f3]) BM.out N1.out; have Bf := blk_farc (cs := #[.int .i64 (rd_T45 l4 (j : Int)).f0, .int .i64 (rd_T45 l4 (j : Int)).f1, .int .i64 (rd_T45 l4 (j : Int)).f2, .string (rd_T45 l4 (j : Int)).f3]) BR.out N2.out; have Bg := below_setc (cs := #[.int .i64 (rd_T45 l4 (j : Int)).f0, .int .i64 (rd_T45 l4 (j : Int)).f1, .int .i64 (rd_T45 l4 (j : Int)).f2, .string (rd_T45 l4 (j : Int)).f3]) HB.out GD.out; have Bh := setRow_heap _ _ #[.int .i64 0, .int .i64 0, .int .i64 0, .string (⟨#[]⟩ : ByteArray)] #[.int .i64 (rd_T45 l4 (j : Int)).f0, .int .i64 (rd_T45 l4 (j : Int)).f1, .int .i64 (rd_T45 l4 (j : Int)).f2, .string (rd_T45 l4 (j : Int)).f3] 45 (0, 0) BD.out; rw [← hw] at Be Bf Bg Bh; replace BM := am_ Be; replace BR := am_ Bf; replace HB := am_ Bg; replace BD := am_ Bh; clear hw Be Bf Bg Bh) | ((with_reducible refine gate_load (t := 47) (x := .tmp 3) rfl ?_); refine lrg_ 47 (.tmp 3) gm 47 (by exact BM.out) Try.underlying47 ?_) | ((with_reducible refine gate_load (t := 32) (x := .tmp 4) rfl ?_); refine lrg_ 32 (.tmp 4) gr 32 (by exact BR.out) Try.underlying32 ?_) | ((with_reducible refine gate_load (t := 45) (x := .tmp 10) rfl ?_); refine lrg_ 45 (.tmp 10) gd 45 (by exact BD.out) Try.underlying45 ?_) | (go_at_call 51; (with_reducible refine (round_machine_message.calls k a0 a1 a2 a3 a4 a5 a6 a7 a8 a9 _ _ B0 _ _ B5 b0 b1 _ _ l2 _ _ l3 (rd_T45 l4 (j : Int)).f0 (rd_T45 l4 (j : Int)).f1 (rd_T45 l4 (j : Int)).f2 (rd_T45 l4 (j : Int)).f3 last _ _ ?side1 ?side2 ?side3 ?side4 ?side5 ?side6 ?side7 ?side8 H3.out).mono ?_); (case side1 => exact Kd.C_below B7.out HB.out); (case side2 => exact B8); (case side3 => exact Kd.C_below Ba.out HB.out); (case side4 => exact B9); (case side5 => exact Kd.C_below Bx.out HB.out); (case side6 => exact Bt); (case side7 => exact Kd.C_below By.out HB.out); (case side8 => exact Bv); rintro e w7 ⟨rfl, hb⟩; replace HB := am_ (below_step HB.out hb); clear hb))
     go_ret
     exact ⟨rfl, HB.out⟩
 ·rw [if_neg hlen] at h
  cases h
end Go.Proofs.Ytdnccjlfongdeaa.Gn
