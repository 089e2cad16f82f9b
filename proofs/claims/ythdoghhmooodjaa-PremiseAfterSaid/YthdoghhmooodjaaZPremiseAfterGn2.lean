import Derived.Test.YthdoghhmooodjaaZPremiseAfterGn0
import Derived.Test.YthdoghhmooodjaaZPremiseAfterGn1
namespace Go.Proofs.Ythdoghhmooodjaa.Gn
open Go.RowKit Go.Proofs.YthdoghhmooodjaaW.PrintWords Go.Proofs.YthdoghhmooodjaaW.PrintLast Go.Proofs.YthdoghhmooodjaaW.PrintMore
attribute [local go_sem] max2_int min2_int max_two min_two max_three min_three max_four min_four   -- for this text's walks alone
set_option linter.unusedVariables false
set_option linter.unusedSimpArgs false
mutual
def r33_Few.j0 : Nat → Bool → Int → Int → Int → Int → Int → Int → Int → Int → Int → Int → List Int → List Int → List ByteArray → List (S44) → Option (Bool)
 | 0, _, _, _, _, _, _, _, _, _, _, _, _, _, _, _ => none
 | k + 1, Bn, B2, B3, B4, B5, B6, B7, B8, B9, Ba, Bb, Bc, Bd, B1, B0 => if Bn = true then (some false) else (r33_Few.l0 k 0 B2 B3 B4 B5 B6 B7 B8 B9 Ba Bb Bc Bd B1 B0)
def r33_Few.l0 : Nat → Int → Int → Int → Int → Int → Int → Int → Int → Int → Int → Int → List Int → List Int → List ByteArray → List (S44) → Option (Bool)
 | 0, _, _, _, _, _, _, _, _, _, _, _, _, _, _, _ => none
 | k + 1, x5, B2, B3, B4, B5, B6, B7, B8, B9, Ba, Bb, Bc, Bd, B1, B0 => if x5 < (B1.length : Int) then (if 0 ≤ x5 then (if ((rdOf ByteArray.empty B1 x5).size : Int) > 16000 then (some false) else (r33_Few.l0 k (wrap64 (x5 + 1)) B2 B3 B4 B5 B6 B7 B8 B9 Ba Bb Bc Bd B1 B0)) else (none)) else (r33_Few.l1 k 0 B2 B3 B4 B5 B6 B7 B8 B9 Ba Bb Bc Bd B1 B0)
def r33_Few.l1 : Nat → Int → Int → Int → Int → Int → Int → Int → Int → Int → Int → Int → List Int → List Int → List ByteArray → List (S44) → Option (Bool)
 | 0, _, _, _, _, _, _, _, _, _, _, _, _, _, _, _ => none
 | k + 1, x6, B2, B3, B4, B5, B6, B7, B8, B9, Ba, Bb, Bc, Bd, B1, B0 => if x6 < (B0.length : Int) then (if 0 ≤ x6 then (if (((rd_T44 B0 x6).f0).length : Int) > 100 then (r33_Few.j3 k x6 true B2 B3 B4 B5 B6 B7 B8 B9 Ba Bb Bc Bd B1 B0 ((rd_T44 B0 x6).f0) ((rd_T44 B0 x6).f1) ((rd_T44 B0 x6).f2) ((rd_T44 B0 x6).f3) ((rd_T44 B0 x6).f4) ((rd_T44 B0 x6).f5)) else (if (((rd_T44 B0 x6).f1).length : Int) > 400 then (r33_Few.j3 k x6 true B2 B3 B4 B5 B6 B7 B8 B9 Ba Bb Bc Bd B1 B0 ((rd_T44 B0 x6).f0) ((rd_T44 B0 x6).f1) ((rd_T44 B0 x6).f2) ((rd_T44 B0 x6).f3) ((rd_T44 B0 x6).f4) ((rd_T44 B0 x6).f5)) else (if (((rd_T44 B0 x6).f2).length : Int) > 100 then (r33_Few.j3 k x6 true B2 B3 B4 B5 B6 B7 B8 B9 Ba Bb Bc Bd B1 B0 ((rd_T44 B0 x6).f0) ((rd_T44 B0 x6).f1) ((rd_T44 B0 x6).f2) ((rd_T44 B0 x6).f3) ((rd_T44 B0 x6).f4) ((rd_T44 B0 x6).f5)) else (if (((rd_T44 B0 x6).f3).length : Int) > 100 then (r33_Few.j3 k x6 true B2 B3 B4 B5 B6 B7 B8 B9 Ba Bb Bc Bd B1 B0 ((rd_T44 B0 x6).f0) ((rd_T44 B0 x6).f1) ((rd_T44 B0 x6).f2) ((rd_T44 B0 x6).f3) ((rd_T44 B0 x6).f4) ((rd_T44 B0 x6).f5)) else (if (((rd_T44 B0 x6).f4).length : Int) > 100 then (r33_Few.j3 k x6 true B2 B3 B4 B5 B6 B7 B8 B9 Ba Bb Bc Bd B1 B0 ((rd_T44 B0 x6).f0) ((rd_T44 B0 x6).f1) ((rd_T44 B0 x6).f2) ((rd_T44 B0 x6).f3) ((rd_T44 B0 x6).f4) ((rd_T44 B0 x6).f5)) else (r33_Few.j3 k x6 (decide ((((rd_T44 B0 x6).f5).length : Int) > 100)) B2 B3 B4 B5 B6 B7 B8 B9 Ba Bb Bc Bd B1 B0 ((rd_T44 B0 x6).f0) ((rd_T44 B0 x6).f1) ((rd_T44 B0 x6).f2) ((rd_T44 B0 x6).f3) ((rd_T44 B0 x6).f4) ((rd_T44 B0 x6).f5))))))) else (none)) else (some true)
def r33_Few.j3 : Nat → Int → Bool → Int → Int → Int → Int → Int → Int → Int → Int → Int → Int → List Int → List Int → List ByteArray → List (S44) → List Int → List Int → List (S74) → List (S48) → List (S74) → List (S81) → Option (Bool)
 | 0, _, _, _, _, _, _, _, _, _, _, _, _, _, _, _, _, _, _, _, _, _, _ => none
 | k + 1, x6, Bo, B2, B3, B4, B5, B6, B7, B8, B9, Ba, Bb, Bc, Bd, B1, B0, Bg, Bh, Bi, Be, Bj, Bk => if Bo = true then (some false) else (r33_Few.l2 k x6 Be (Be.length : Int) 0 B2 B3 B4 B5 B6 B7 B8 B9 Ba Bb Bc Bd B1 B0)
def r33_Few.l2 : Nat → Int → List (S48) → Int → Int → Int → Int → Int → Int → Int → Int → Int → Int → Int → Int → List Int → List Int → List ByteArray → List (S44) → Option (Bool)
 | 0, _, _, _, _, _, _, _, _, _, _, _, _, _, _, _, _, _, _ => none
 | k + 1, x6, Bl, Bm, Bf, B2, B3, B4, B5, B6, B7, B8, B9, Ba, Bb, Bc, Bd, B1, B0 => if Bf < Bm then (if 0 ≤ Bf then (if Bf < (Bl.length : Int) then (if (((rd_T48 Bl Bf).f1).size : Int) > 16000 then (some false) else (r33_Few.l2 k x6 Bl Bm (wrap64 (Bf + 1)) B2 B3 B4 B5 B6 B7 B8 B9 Ba Bb Bc Bd B1 B0)) else (none)) else (none)) else (r33_Few.l1 k (wrap64 (x6 + 1)) B2 B3 B4 B5 B6 B7 B8 B9 Ba Bb Bc Bd B1 B0)
end
def r33_Few.f (k : Nat) (B4 B5 B6 B7 B8 B9 Ba Bb Bc Bd : Int) (B0 B1 : List Int) (B2 : List ByteArray) (B3 : List (S44)) (a1 : Int) : Option (Bool) := if (B3.length : Int) > a1 then (r33_Few.j0 k true B4 B5 B6 B7 B8 B9 Ba Bb Bc Bd B0 B1 B2 B3) else (if (B0.length : Int) > 100 then (r33_Few.j0 k true B4 B5 B6 B7 B8 B9 Ba Bb Bc Bd B0 B1 B2 B3) else (if (B1.length : Int) > 100 then (r33_Few.j0 k true B4 B5 B6 B7 B8 B9 Ba Bb Bc Bd B0 B1 B2 B3) else (r33_Few.j0 k (decide ((B2.length : Int) > 100)) B4 B5 B6 B7 B8 B9 Ba Bb Bc Bd B0 B1 B2 B3)))
set_option maxHeartbeats 8000000 in
set_option maxRecDepth 100000 in
theorem r33_Few.calls (k : Nat) (Bj Bk Bl Bm Bn Bo Bp Bq Br Bs : Int) (Bt : Option Addr) (Bu : Nat) (B6 : List Int) (Bv : Option Addr) (Bw : Nat) (B7 : List Int) (Bx : Option Addr) (By : Nat) (B4 : List ByteArray) (Dc : Option Addr) (Bz : Nat) (B0 : List (S44)) (a1 : Int) (r : Bool) (w : World) (El : Kd.C (Kd.int .i64) w Bt B6.length B6) (Em : B6.length ≤ Bu) (En : Kd.C (Kd.int .i64) w Bv B7.length B7) (Eo : B7.length ≤ Bw) (Ep : Kd.C Kd.string w Bx B4.length B4) (Eq : B4.length ≤ By) (Er : Kd.C k44 w Dc B0.length B0) (Es : B0.length ≤ Bz) (h : r33_Few.f k Bj Bk Bl Bm Bn Bo Bp Bq Br Bs B6 B7 B4 B0 a1 = some r) :
  Calls Try.prog 10 #[.agg #[.int .i64 Bj, .int .i64 Bk, .int .i64 Bl, .int .i64 Bm, .int .i64 Bn, .int .i64 Bo, .int .i64 Bp, .int .i64 Bq, .int .i64 Br, .int .i64 Bs, .slice Bt B6.length Bu, .slice Bv B7.length Bw, .slice Bx B4.length By, .slice Dc B0.length Bz], .int .i64 a1] w fun e w' => e = .returned (.bool r) ∧ Below w.heap.size w w' := by
 have Lk := Try.underlying44
 have Ll := Try.underlying48
 have Ji := am_ El
 have Jj := am_ Em
 clear El Em
 have Jk := am_ En
 have Jl := am_ Eo
 clear En Eo
 have Et := am_ Ep
 have Jm := am_ Eq
 clear Ep Eq
 have Ga := am_ Er
 have Jn := am_ Es
 clear Er Es
 have HB := am_ (Below.refl w.heap.size w)
 have H := h
 unfold r33_Few.f at H
 clear h
 have Jo := am_ H
 clear H
 go_enter Try.func10, Try.ntmps10
 go_upto_region 1 with (first | ((with_reducible refine gate_load (t := 28) (x := .tmp 2) rfl ?_); refine lrg_ 28 (.tmp 2) Bi 28 (by exact B2.out) Try.underlying28 ?_) | ((with_reducible refine gate_dst (N := 2) rfl ?_); (try (refine gate_guard (by rfl) ?_; dsimp only)); refine bxe_ 2 28 #[.int .i64 Bj, .int .i64 Bk, .int .i64 Bl, .int .i64 Bm, .int .i64 Bn, .int .i64 Bo, .int .i64 Bp, .int .i64 Bq, .int .i64 Br, .int .i64 Bs, .slice Bt B6.length Bu, .slice Bv B7.length Bw, .slice Bx B4.length By, .slice Dc B0.length Bz] ?_; intro Bi hg w4 hbox hb; have B2 := am_ (hbox); have Gi := gwk_ HB hg; have B8 := Gi; replace HB := bst_ HB hb; clear hb hbox hg))
 (try simp only [Act.put, zs_])
 go_cut [33] (fun v33 wc => ∃ (kq : Nat) (Dx : Bool), v33 = .bool Dx ∧ Aside0 (r33_Few.j0 kq Dx Bj Bk Bl Bm Bn Bo Bp Bq Br Bs B6 B7 B4 B0 = some r) ∧ Aside0 (kq ≤ k) ∧ Aside0 (wc.heap[Bi]? = some (.cells #[.int .i64 Bj, .int .i64 Bk, .int .i64 Bl, .int .i64 Bm, .int .i64 Bn, .int .i64 Bo, .int .i64 Bp, .int .i64 Bq, .int .i64 Br, .int .i64 Bs, (.slice Bt B6.length Bu), (.slice Bv B7.length Bw), (.slice Bx B4.length By), (.slice Dc B0.length Bz)] 28 (0, 0))) ∧ Aside0 (Below w.heap.size w wc))
 case first =>
  have H := Jo.out
  clear Jo
  by_cases c5 : (B0.length : Int) > a1
  ·rw [if_pos c5] at H
   have D9 : decide (a1 < (B0.length : Int)) = true := decide_eq_true c5
   clear c5
   (first | rw [D9] | (simp only [i64_w, i32_w]; rw [D9]) | skip)
   have H' := am_ H
   clear H
   have Eu := cells_14 B2.out
   have Ev := frozen_14 B2.out
   go_wp2
   go_meet
   case rel => exact ⟨_, (true), (by first | rfl | (simp; done) | (simp [*]; done)), H', ⟨by first | omega | exact Nat.le_refl _⟩, ⟨by (with_reducible repeat (first | apply kn_ | apply kd_ | apply ka_)); exact B2.out⟩, ⟨by repeat (first | (with_reducible first | exact HB.out | apply ba_ | apply bn_ | apply bd_ | refine bs_ ?_ B8.out) | exact HB.out)⟩⟩
  ·rw [if_neg c5] at H
   have D9 : decide (a1 < (B0.length : Int)) = false := decide_eq_false c5
   clear c5
   (first | rw [D9] | (simp only [i64_w, i32_w]; rw [D9]) | skip)
   by_cases c7 : (B6.length : Int) > 100
   ·rw [if_pos c7] at H
    have Ef : decide (100 < (B6.length : Int)) = true := decide_eq_true c7
    have Eg : decide (100 < B6.length) = true := decide_eq_true (by omega)
    clear c7
    have H' := am_ H
    clear H
    have Ew := cells_14 B2.out
    have Ex := frozen_14 B2.out
    go_wp2
    go_meet
    case rel => exact ⟨_, (true), (by first | rfl | (simp; done) | (simp [*]; done)), H', ⟨by first | omega | exact Nat.le_refl _⟩, ⟨by (with_reducible repeat (first | apply kn_ | apply kd_ | apply ka_)); exact B2.out⟩, ⟨by repeat (first | (with_reducible first | exact HB.out | apply ba_ | apply bn_ | apply bd_ | refine bs_ ?_ B8.out) | exact HB.out)⟩⟩
   ·rw [if_neg c7] at H
    have Ef : decide (100 < (B6.length : Int)) = false := decide_eq_false c7
    have Eg : decide (100 < B6.length) = false := decide_eq_false (by omega)
    clear c7
    by_cases c9 : (B7.length : Int) > 100
    ·rw [if_pos c9] at H
     have Eh : decide (100 < (B7.length : Int)) = true := decide_eq_true c9
     have Ei : decide (100 < B7.length) = true := decide_eq_true (by omega)
     clear c9
     have H' := am_ H
     clear H
     have Dq := cells_14 B2.out
     have Dr := frozen_14 B2.out
     go_wp2
     go_meet
     case rel => exact ⟨_, (true), (by first | rfl | (simp; done) | (simp [*]; done)), H', ⟨by first | omega | exact Nat.le_refl _⟩, ⟨by (with_reducible repeat (first | apply kn_ | apply kd_ | apply ka_)); exact B2.out⟩, ⟨by repeat (first | (with_reducible first | exact HB.out | apply ba_ | apply bn_ | apply bd_ | refine bs_ ?_ B8.out) | exact HB.out)⟩⟩
    ·rw [if_neg c9] at H
     have Eh : decide (100 < (B7.length : Int)) = false := decide_eq_false c9
     have Ei : decide (100 < B7.length) = false := decide_eq_false (by omega)
     clear c9
     have H' := am_ H
     clear H
     have Ds := cells_14 B2.out
     have Dt := frozen_14 B2.out
     go_wp2
     go_meet
     case rel => exact ⟨_, (decide ((B4.length : Int) > 100)), (by first | rfl | (simp; done) | (simp [*]; done)), H', ⟨by first | omega | exact Nat.le_refl _⟩, ⟨by (with_reducible repeat (first | apply kn_ | apply kd_ | apply ka_)); exact B2.out⟩, ⟨by repeat (first | (with_reducible first | exact HB.out | apply ba_ | apply bn_ | apply bd_ | refine bs_ ?_ B8.out) | exact HB.out)⟩⟩
 case rest =>
  clear Jo
  try clear c1
  try clear p2
  try clear c5
  try clear D9
  try clear c7
  try clear Ef
  try clear Eg
  try clear c9
  try clear Eh
  try clear Ei
  try clear c10
  try clear Dq
  try clear Ds
  try clear Eu
  try clear Ew
  try clear Dr
  try clear Dt
  try clear Ev
  try clear Ex
  obtain ⟨kq, Dx, rfl, HA, Ej, B2, HB⟩ := hcut
  cases kq with
  | zero => exact absurd HA.out (by simp [r33_Few.j0])
  | succ Jq =>
   have H := HA.out
   clear HA
   simp only [r33_Few.j0] at H
   by_cases Fo : Dx = true
   ·subst Fo
    rw [if_pos rfl] at H
    obtain rfl := Option.some.inj H
    go_wp2
    go_ret
    exact ⟨by first | rfl | (simp [*] <;> rfl), by repeat (first | (with_reducible first | exact HB.out | apply ba_ | apply bn_ | apply bd_ | refine bs_ ?_ B8.out) | exact HB.out)⟩
   ·replace Fo := Bool.eq_false_iff.mpr Fo
    subst Fo
    rw [if_neg (show ¬ (false = true) by decide)] at H
    have H' := am_ H
    clear H
    go_wp2
    go_loopg [5] Jq (fun kq v5 w' => ∃ (Be : Int), v5 = .int .i64 Be ∧ Aside0 (r33_Few.l0 kq Be Bj Bk Bl Bm Bn Bo Bp Bq Br Bs B6 B7 B4 B0 = some r) ∧ Aside0 (kq ≤ Jq) ∧ Aside0 (w'.heap[Bi]? = some (.cells #[.int .i64 Bj, .int .i64 Bk, .int .i64 Bl, .int .i64 Bm, .int .i64 Bn, .int .i64 Bo, .int .i64 Bp, .int .i64 Bq, .int .i64 Br, .int .i64 Bs, (.slice Bt B6.length Bu), (.slice Bv B7.length Bw), (.slice Bx B4.length By), (.slice Dc B0.length Bz)] 28 (0, 0))) ∧ Aside0 (Below w.heap.size w w'))
    case atStart => exact ⟨(0), (by first | rfl | (simp; done) | (simp [*]; done)), H', ⟨Nat.le_refl _⟩, ⟨by (with_reducible repeat (first | apply kn_ | apply kd_ | apply ka_)); exact B2.out⟩, ⟨by repeat (first | (with_reducible first | exact HB.out | apply ba_ | apply bn_ | apply bd_ | refine bs_ ?_ B8.out) | exact HB.out)⟩⟩
    case round =>
     clear H'
     try clear c1
     try clear p2
     try clear c5
     try clear D9
     try clear c7
     try clear Ef
     try clear Eg
     try clear c9
     try clear Eh
     try clear Ei
     try clear c10
     try clear Fo
     try clear Dq
     try clear Ds
     try clear Eu
     try clear Ew
     try clear Dr
     try clear Dt
     try clear Ev
     try clear Ex
     try clear p2
     obtain ⟨Be, rfl, HA, Ek, B2, HB⟩ := hrel
     cases gk with
     | zero => exact absurd HA.out (by simp [r33_Few.l0])
     | succ k2 =>
      have H := HA.out
      clear HA
      simp only [r33_Few.l0] at H
      by_cases Fl : Be < (B4.length : Int)
      ·rw [if_pos Fl] at H
       have Dy : decide (Be < (B4.length : Int)) = true := decide_eq_true Fl
       clear Fl
       by_cases Gb : 0 ≤ Be
       ·rw [if_pos Gb] at H
        have Ey : decide (0 ≤ Be) = true := decide_eq_true Gb
        clear Gb
        by_cases Fm : ((rdOf ByteArray.empty B4 Be).size : Int) > 16000
        ·rw [if_pos Fm] at H
         have Dz : decide (16000 < ((rdOf ByteArray.empty B4 Be).size : Int)) = true := decide_eq_true Fm
         have E0 : decide (16000 < (rdOf ByteArray.empty B4 Be).size) = true := decide_eq_true (by omega)
         clear Fm
         obtain rfl := Option.some.inj H
         have Ez := cells_14 B2.out
         have F0 := frozen_14 B2.out
         have Da : 0 ≤ (Be : Int) := of_decide_eq_true (by first | (with_reducible assumption) | assumption)
         have Db : Be < (B4.length : Int) := of_decide_eq_true (by first | (with_reducible assumption) | assumption)
         obtain ⟨Gj, Gc, Bb⟩ := Kd.at_string Et.out Be Da Db
         cases Gc
         replace Bb := (HB.out.cell (World.block_lt_of_cell? w _ Bb)).trans Bb
         replace Da := eq_true Da
         replace Db := eq_true Db
         go_wp2
         go_ret
         exact ⟨by first | rfl | (simp [*] <;> rfl), by repeat (first | (with_reducible first | exact HB.out | apply ba_ | apply bn_ | apply bd_ | refine bs_ ?_ B8.out) | exact HB.out)⟩
        ·rw [if_neg Fm] at H
         have Dz : decide (16000 < ((rdOf ByteArray.empty B4 Be).size : Int)) = false := decide_eq_false Fm
         have E0 : decide (16000 < (rdOf ByteArray.empty B4 Be).size) = false := decide_eq_false (by omega)
         clear Fm
         have H' := am_ H
         clear H
         have F1 := cells_14 B2.out
         have F2 := frozen_14 B2.out
         have Da : 0 ≤ (Be : Int) := of_decide_eq_true (by first | (with_reducible assumption) | assumption)
         have Db : Be < (B4.length : Int) := of_decide_eq_true (by first | (with_reducible assumption) | assumption)
         obtain ⟨Gj, Gc, Bb⟩ := Kd.at_string Et.out Be Da Db
         cases Gc
         replace Bb := (HB.out.cell (World.block_lt_of_cell? w _ Bb)).trans Bb
         replace Da := eq_true Da
         replace Db := eq_true Db
         go_wp2
         go_roundg k2
         case measure => have := Ej.out; have := Ek.out; omega
         case rel => exact ⟨(wrap64 (Be + 1)), (by first | rfl | (simp; done) | (simp [*]; done)), H', ⟨by have := Ej.out; have := Ek.out; omega⟩, ⟨by (with_reducible repeat (first | apply kn_ | apply kd_ | apply ka_)); exact B2.out⟩, ⟨by repeat (first | (with_reducible first | exact HB.out | apply ba_ | apply bn_ | apply bd_ | refine bs_ ?_ B8.out) | exact HB.out)⟩⟩
       ·rw [if_neg Gb] at H
        exact absurd H (by simp)
      ·rw [if_neg Fl] at H
       have Dy : decide (Be < (B4.length : Int)) = false := decide_eq_false Fl
       clear Fl
       have H' := am_ H
       clear H
       have F3 := cells_14 B2.out
       have F4 := frozen_14 B2.out
       go_wp2
       go_loopg [6] k2 (fun kq v6 w' => ∃ (B1 : Int), v6 = .int .i64 B1 ∧ Aside0 (r33_Few.l1 kq B1 Bj Bk Bl Bm Bn Bo Bp Bq Br Bs B6 B7 B4 B0 = some r) ∧ Aside0 (kq ≤ k2) ∧ Aside0 (w'.heap[Bi]? = some (.cells #[.int .i64 Bj, .int .i64 Bk, .int .i64 Bl, .int .i64 Bm, .int .i64 Bn, .int .i64 Bo, .int .i64 Bp, .int .i64 Bq, .int .i64 Br, .int .i64 Bs, (.slice Bt B6.length Bu), (.slice Bv B7.length Bw), (.slice Bx B4.length By), (.slice Dc B0.length Bz)] 28 (0, 0))) ∧ Aside0 (Below w.heap.size w w'))
       case atStart => exact ⟨(0), (by first | rfl | (simp; done) | (simp [*]; done)), H', ⟨Nat.le_refl _⟩, ⟨by (with_reducible repeat (first | apply kn_ | apply kd_ | apply ka_)); exact B2.out⟩, ⟨by repeat (first | (with_reducible first | exact HB.out | apply ba_ | apply bn_ | apply bd_ | refine bs_ ?_ B8.out) | exact HB.out)⟩⟩
       case round =>
        clear H'
        try clear c1
        try clear p2
        try clear p4
        try clear q4
        try clear hx4
        try clear c5
        try clear D9
        try clear p6
        try clear c7
        try clear Ef
        try clear Eg
        try clear c9
        try clear Eh
        try clear Ei
        try clear c10
        try clear Fo
        try clear Fl
        try clear Dy
        try clear Gb
        try clear Ey
        try clear Fm
        try clear Dz
        try clear E0
        try clear Dq
        try clear Ds
        try clear Ez
        try clear F1
        try clear F3
        try clear Eu
        try clear Ew
        try clear Dr
        try clear Dt
        try clear F0
        try clear F2
        try clear F4
        try clear Ev
        try clear Ex
        try clear Bb
        try clear p2
        try clear Da
        try clear Db
        obtain ⟨B1, rfl, HA, Fk, B2, HB⟩ := hrel
        cases gk with
        | zero => exact absurd HA.out (by simp [r33_Few.l1])
        | succ k3 =>
         have H := HA.out
         clear HA
         simp only [r33_Few.l1] at H
         by_cases Fp : B1 < (B0.length : Int)
         ·rw [if_pos Fp] at H
          have F5 : decide (B1 < (B0.length : Int)) = true := decide_eq_true Fp
          clear Fp
          by_cases Gf : 0 ≤ B1
          ·rw [if_pos Gf] at H
           have Fq : decide (0 ≤ B1) = true := decide_eq_true Gf
           clear Gf
           have Gd := am_ H
           clear H
           have Fr := cells_14 B2.out
           have Fs := frozen_14 B2.out
           have F6 : 0 ≤ (B1 : Int) := of_decide_eq_true (by first | (with_reducible assumption) | assumption)
           have F7 : B1 < (B0.length : Int) := of_decide_eq_true (by first | (with_reducible assumption) | assumption)
           obtain ⟨F8, Dd, De, Df, Dg, Dh, Di, Dj, Dk, Dl, Dm, Dn, Do, Jp, D0, D1, D2, D3, D4, D5, E1, E2, E3, E4, E5, E6, E7, E8, E9, Ea, Eb, Ec⟩ := at_T44 Ga.out B1 F6 F7
           cases Jp
           replace D0 := (HB.out.cell (World.block_lt_of_cell? w _ D0)).trans D0
           replace D1 := (HB.out.cell (World.block_lt_of_cell? w _ D1)).trans D1
           replace D2 := (HB.out.cell (World.block_lt_of_cell? w _ D2)).trans D2
           replace D3 := (HB.out.cell (World.block_lt_of_cell? w _ D3)).trans D3
           replace D4 := (HB.out.cell (World.block_lt_of_cell? w _ D4)).trans D4
           replace D5 := (HB.out.cell (World.block_lt_of_cell? w _ D5)).trans D5
           have Gw := am_ E2
           have Gx := am_ E1
           clear E2 E1
           have Gy := am_ E4
           have Gz := am_ E3
           clear E4 E3
           have J0 := am_ E6
           have J1 := am_ E5
           clear E6 E5
           have Ed := am_ E8
           have J2 := am_ E7
           clear E8 E7
           have J3 := am_ Ea
           have J4 := am_ E9
           clear Ea E9
           have J5 := am_ Ec
           have J6 := am_ Eb
           clear Ec Eb
           replace F6 := eq_true F6
           replace F7 := eq_true F7
           go_upto_region 12 with (first | ((with_reducible refine gate_load (t := 28) (x := .tmp 2) rfl ?_); refine lrg_ 28 (.tmp 2) Bi 28 (by exact B2.out) Try.underlying28 ?_) | ((with_reducible refine gate_dst (N := 7) rfl ?_); (try (refine gate_guard (by rfl) ?_; dsimp only)); refine bxe_ 7 44 #[.slice none 0 0, .slice none 0 0, .slice none 0 0, .slice none 0 0, .slice none 0 0, .slice none 0 0] ?_; intro Ee hg w23 hbox hb; have B3 := am_ (hbox); have Gk := gwk_ HB hg; have Bf := Gk; replace HB := bst_ HB hb; have B5 := nbk_ B2 hg; have Ba := nbs_ B5; replace B2 := bkb_ B2 hb; clear hb hbox hg) | ((with_reducible refine gate_store (t := 44) (p := 7) rfl ?_); refine row_store_event (t := 44) (p := 7) (v := ?vo_w24) ?hgd ?ho ?hn Ee #[.slice Dd ((rd_T44 B0 B1).f0).length De, .slice Df ((rd_T44 B0 B1).f1).length Dg, .slice Dh ((rd_T44 B0 B1).f2).length Di, .slice Dj ((rd_T44 B0 B1).f3).length Dk, .slice Dl ((rd_T44 B0 B1).f4).length Dm, .slice Dn ((rd_T44 B0 B1).f5).length Do] ?hx ?hy 44 #[.slice none 0 0, .slice none 0 0, .slice none 0 0, .slice none 0 0, .slice none 0 0, .slice none 0 0] ?hg ?hi ?hold ?h1 ?_; (case hgd => rfl); (case ho => rfl); (case hn => rfl); (case hx => rfl); (case hy => rfl); (case hg => exact (by (with_reducible repeat (first | apply kn_ | apply kd_ | apply ka_)); exact B3.out)); (case hi => kernel_rfl); (case hold => rfl); (case h1 => (first | kernel_rfl | simp [Value.oneCell'])); intro w24 hw; have Jr : Aside0 (w24.heap[Bi]? = some (.cells #[.int .i64 Bj, .int .i64 Bk, .int .i64 Bl, .int .i64 Bm, .int .i64 Bn, .int .i64 Bo, .int .i64 Bp, .int .i64 Bq, .int .i64 Br, .int .i64 Bs, .slice Bt B6.length Bu, .slice Bv B7.length Bw, .slice Bx B4.length By, .slice (some F8) B0.length Bz] 28 (0, 0))) := ⟨(by rw [hw]; exact (by (with_reducible repeat (first | apply kn_ | apply kd_ | apply ka_)); refine blk_farc ?_ B5.out; (with_reducible repeat (first | apply kn_ | apply kd_ | apply ka_)); exact B2.out))⟩; have Js : Aside0 (w24.heap[Ee]? = some (.cells #[.slice Dd ((rd_T44 B0 B1).f0).length De, .slice Df ((rd_T44 B0 B1).f1).length Dg, .slice Dh ((rd_T44 B0 B1).f2).length Di, .slice Dj ((rd_T44 B0 B1).f3).length Dk, .slice Dl ((rd_T44 B0 B1).f4).length Dm, .slice Dn ((rd_T44 B0 B1).f5).length Do] 44 (0, 0))) := ⟨(by rw [hw]; exact (by (with_reducible repeat (first | apply kn_ | apply kd_ | apply ka_)); refine setRow_heap _ _ #[.slice none 0 0, .slice none 0 0, .slice none 0 0, .slice none 0 0, .slice none 0 0, .slice none 0 0] _ 44 (0, 0) ?_; (with_reducible repeat (first | apply kn_ | apply kd_ | apply ka_)); exact B3.out))⟩; have Jt : Aside0 (Below w.heap.size w w24) := ⟨(by rw [hw]; exact (by repeat (first | (with_reducible first | exact HB.out | refine below_setc ?_ Bf.out | apply below_alloc | apply pw_below_drewN | apply below_drew1 | refine bs_ ?_ B8.out | refine bs_ ?_ Bf.out) | exact HB.out)))⟩; clear hw; clear B2; clear B3; clear HB; have B2 := Jr; have B3 := Js; have HB := Jt; clear Jr Js Jt))
           (try simp only [Act.put, zs_])
           go_cut [93] (fun v93 wc => ∃ (kq : Nat) (Dp : Bool), v93 = .bool Dp ∧ Aside0 (r33_Few.j3 kq B1 Dp Bj Bk Bl Bm Bn Bo Bp Bq Br Bs B6 B7 B4 B0 ((rd_T44 B0 B1).f0) ((rd_T44 B0 B1).f1) ((rd_T44 B0 B1).f2) ((rd_T44 B0 B1).f3) ((rd_T44 B0 B1).f4) ((rd_T44 B0 B1).f5) = some r) ∧ Aside0 (kq ≤ k3) ∧ Aside0 (wc.heap[Bi]? = some (.cells #[.int .i64 Bj, .int .i64 Bk, .int .i64 Bl, .int .i64 Bm, .int .i64 Bn, .int .i64 Bo, .int .i64 Bp, .int .i64 Bq, .int .i64 Br, .int .i64 Bs, (.slice Bt B6.length Bu), (.slice Bv B7.length Bw), (.slice Bx B4.length By), (.slice (some F8) B0.length Bz)] 28 (0, 0))) ∧ Aside0 (wc.heap[Ee]? = some (.cells #[(.slice Dd ((rd_T44 B0 B1).f0).length De), (.slice Df ((rd_T44 B0 B1).f1).length Dg), (.slice Dh ((rd_T44 B0 B1).f2).length Di), (.slice Dj ((rd_T44 B0 B1).f3).length Dk), (.slice Dl ((rd_T44 B0 B1).f4).length Dm), (.slice Dn ((rd_T44 B0 B1).f5).length Do)] 44 (0, 0))) ∧ Aside0 (Below w.heap.size w wc))
           case first =>
            have H := Gd.out
            clear Gd
            by_cases Ft : (((rd_T44 B0 B1).f0).length : Int) > 100
            ·rw [if_pos Ft] at H
             have D8 : decide (100 < (((rd_T44 B0 B1).f0).length : Int)) = true := decide_eq_true Ft
             have F9 : decide (100 < ((rd_T44 B0 B1).f0).length) = true := decide_eq_true (by omega)
             clear Ft
             (first | rw [D8] | (simp only [i64_w, i32_w]; rw [D8]) | skip)
             have H' := am_ H
             clear H
             have Ju := Ba.out
             have Jv := B5.out
             have Fu := cells_6 B3.out
             have Fv := frozen_6 B3.out
             go_wp2
             go_meet
             case rel => exact ⟨_, (true), (by first | rfl | (simp; done) | (simp [*]; done)), H', ⟨by have := Ej.out; have := Ek.out; have := Fk.out; first | omega | exact Nat.le_refl _⟩, ⟨by (with_reducible repeat (first | apply kn_ | apply kd_ | apply ka_)); exact B2.out⟩, ⟨by (with_reducible repeat (first | apply kn_ | apply kd_ | apply ka_)); exact B3.out⟩, ⟨by repeat (first | (with_reducible first | exact HB.out | apply ba_ | apply bn_ | apply bd_ | refine bs_ ?_ B8.out | refine bs_ ?_ Bf.out) | exact HB.out)⟩⟩
            ·rw [if_neg Ft] at H
             have D8 : decide (100 < (((rd_T44 B0 B1).f0).length : Int)) = false := decide_eq_false Ft
             have F9 : decide (100 < ((rd_T44 B0 B1).f0).length) = false := decide_eq_false (by omega)
             clear Ft
             (first | rw [D8] | (simp only [i64_w, i32_w]; rw [D8]) | skip)
             by_cases Fw : (((rd_T44 B0 B1).f1).length : Int) > 400
             ·rw [if_pos Fw] at H
              have Fa : decide (400 < (((rd_T44 B0 B1).f1).length : Int)) = true := decide_eq_true Fw
              have Fb : decide (400 < ((rd_T44 B0 B1).f1).length) = true := decide_eq_true (by omega)
              clear Fw
              have H' := am_ H
              clear H
              have Jw := Ba.out
              have Jx := B5.out
              have Fx := cells_6 B3.out
              have Fy := frozen_6 B3.out
              go_wp2
              go_meet
              case rel => exact ⟨_, (true), (by first | rfl | (simp; done) | (simp [*]; done)), H', ⟨by have := Ej.out; have := Ek.out; have := Fk.out; first | omega | exact Nat.le_refl _⟩, ⟨by (with_reducible repeat (first | apply kn_ | apply kd_ | apply ka_)); exact B2.out⟩, ⟨by (with_reducible repeat (first | apply kn_ | apply kd_ | apply ka_)); exact B3.out⟩, ⟨by repeat (first | (with_reducible first | exact HB.out | apply ba_ | apply bn_ | apply bd_ | refine bs_ ?_ B8.out | refine bs_ ?_ Bf.out) | exact HB.out)⟩⟩
             ·rw [if_neg Fw] at H
              have Fa : decide (400 < (((rd_T44 B0 B1).f1).length : Int)) = false := decide_eq_false Fw
              have Fb : decide (400 < ((rd_T44 B0 B1).f1).length) = false := decide_eq_false (by omega)
              clear Fw
              by_cases Fz : (((rd_T44 B0 B1).f2).length : Int) > 100
              ·rw [if_pos Fz] at H
               have Fc : decide (100 < (((rd_T44 B0 B1).f2).length : Int)) = true := decide_eq_true Fz
               have Fd : decide (100 < ((rd_T44 B0 B1).f2).length) = true := decide_eq_true (by omega)
               clear Fz
               have H' := am_ H
               clear H
               have Jy := Ba.out
               have Jz := B5.out
               have G0 := cells_6 B3.out
               have G1 := frozen_6 B3.out
               go_wp2
               go_meet
               case rel => exact ⟨_, (true), (by first | rfl | (simp; done) | (simp [*]; done)), H', ⟨by have := Ej.out; have := Ek.out; have := Fk.out; first | omega | exact Nat.le_refl _⟩, ⟨by (with_reducible repeat (first | apply kn_ | apply kd_ | apply ka_)); exact B2.out⟩, ⟨by (with_reducible repeat (first | apply kn_ | apply kd_ | apply ka_)); exact B3.out⟩, ⟨by repeat (first | (with_reducible first | exact HB.out | apply ba_ | apply bn_ | apply bd_ | refine bs_ ?_ B8.out | refine bs_ ?_ Bf.out) | exact HB.out)⟩⟩
              ·rw [if_neg Fz] at H
               have Fc : decide (100 < (((rd_T44 B0 B1).f2).length : Int)) = false := decide_eq_false Fz
               have Fd : decide (100 < ((rd_T44 B0 B1).f2).length) = false := decide_eq_false (by omega)
               clear Fz
               by_cases G2 : (((rd_T44 B0 B1).f3).length : Int) > 100
               ·rw [if_pos G2] at H
                have Fe : decide (100 < (((rd_T44 B0 B1).f3).length : Int)) = true := decide_eq_true G2
                have Ff : decide (100 < ((rd_T44 B0 B1).f3).length) = true := decide_eq_true (by omega)
                clear G2
                have H' := am_ H
                clear H
                have L0 := Ba.out
                have L1 := B5.out
                have G3 := cells_6 B3.out
                have G4 := frozen_6 B3.out
                go_wp2
                go_meet
                case rel => exact ⟨_, (true), (by first | rfl | (simp; done) | (simp [*]; done)), H', ⟨by have := Ej.out; have := Ek.out; have := Fk.out; first | omega | exact Nat.le_refl _⟩, ⟨by (with_reducible repeat (first | apply kn_ | apply kd_ | apply ka_)); exact B2.out⟩, ⟨by (with_reducible repeat (first | apply kn_ | apply kd_ | apply ka_)); exact B3.out⟩, ⟨by repeat (first | (with_reducible first | exact HB.out | apply ba_ | apply bn_ | apply bd_ | refine bs_ ?_ B8.out | refine bs_ ?_ Bf.out) | exact HB.out)⟩⟩
               ·rw [if_neg G2] at H
                have Fe : decide (100 < (((rd_T44 B0 B1).f3).length : Int)) = false := decide_eq_false G2
                have Ff : decide (100 < ((rd_T44 B0 B1).f3).length) = false := decide_eq_false (by omega)
                clear G2
                by_cases G5 : (((rd_T44 B0 B1).f4).length : Int) > 100
                ·rw [if_pos G5] at H
                 have Fg : decide (100 < (((rd_T44 B0 B1).f4).length : Int)) = true := decide_eq_true G5
                 have Fh : decide (100 < ((rd_T44 B0 B1).f4).length) = true := decide_eq_true (by omega)
                 clear G5
                 have H' := am_ H
                 clear H
                 have L2 := Ba.out
                 have L3 := B5.out
                 have G6 := cells_6 B3.out
                 have G7 := frozen_6 B3.out
                 go_wp2
                 go_meet
                 case rel => exact ⟨_, (true), (by first | rfl | (simp; done) | (simp [*]; done)), H', ⟨by have := Ej.out; have := Ek.out; have := Fk.out; first | omega | exact Nat.le_refl _⟩, ⟨by (with_reducible repeat (first | apply kn_ | apply kd_ | apply ka_)); exact B2.out⟩, ⟨by (with_reducible repeat (first | apply kn_ | apply kd_ | apply ka_)); exact B3.out⟩, ⟨by repeat (first | (with_reducible first | exact HB.out | apply ba_ | apply bn_ | apply bd_ | refine bs_ ?_ B8.out | refine bs_ ?_ Bf.out) | exact HB.out)⟩⟩
                ·rw [if_neg G5] at H
                 have Fg : decide (100 < (((rd_T44 B0 B1).f4).length : Int)) = false := decide_eq_false G5
                 have Fh : decide (100 < ((rd_T44 B0 B1).f4).length) = false := decide_eq_false (by omega)
                 clear G5
                 have H' := am_ H
                 clear H
                 have L4 := Ba.out
                 have L5 := B5.out
                 have G8 := cells_6 B3.out
                 have G9 := frozen_6 B3.out
                 go_wp2
                 go_meet
                 case rel => exact ⟨_, (decide ((((rd_T44 B0 B1).f5).length : Int) > 100)), (by first | rfl | (simp; done) | (simp [*]; done)), H', ⟨by have := Ej.out; have := Ek.out; have := Fk.out; first | omega | exact Nat.le_refl _⟩, ⟨by (with_reducible repeat (first | apply kn_ | apply kd_ | apply ka_)); exact B2.out⟩, ⟨by (with_reducible repeat (first | apply kn_ | apply kd_ | apply ka_)); exact B3.out⟩, ⟨by repeat (first | (with_reducible first | exact HB.out | apply ba_ | apply bn_ | apply bd_ | refine bs_ ?_ B8.out | refine bs_ ?_ Bf.out) | exact HB.out)⟩⟩
           case rest =>
            clear Gd
            try clear c1
            try clear c2
            try clear p2
            try clear c3
            try clear c4
            try clear p4
            try clear q4
            try clear hx4
            try clear c5
            try clear D9
            try clear p6
            try clear c7
            try clear Ef
            try clear Eg
            try clear c9
            try clear Eh
            try clear Ei
            try clear c10
            try clear Fo
            try clear Fl
            try clear Dy
            try clear Gb
            try clear Ey
            try clear Fm
            try clear Dz
            try clear E0
            try clear Fp
            try clear F5
            try clear Gf
            try clear Fq
            try clear Ft
            try clear D8
            try clear F9
            try clear c26
            try clear Fw
            try clear Fa
            try clear Fb
            try clear c29
            try clear Fz
            try clear Fc
            try clear Fd
            try clear c32
            try clear G2
            try clear Fe
            try clear Ff
            try clear c35
            try clear G5
            try clear Fg
            try clear Fh
            try clear c38
            try clear c40
            try clear p40
            try clear q40
            try clear hx40
            try clear Dq
            try clear Ds
            try clear Ez
            try clear F1
            try clear F3
            try clear Fr
            try clear Fu
            try clear Fx
            try clear G0
            try clear G3
            try clear G6
            try clear G8
            try clear Eu
            try clear Ew
            try clear Dr
            try clear Dt
            try clear F0
            try clear F2
            try clear F4
            try clear Fs
            try clear Fv
            try clear Fy
            try clear G1
            try clear G4
            try clear G7
            try clear G9
            try clear Ev
            try clear Ex
            try clear Bb
            try clear D0
            try clear D1
            try clear D2
            try clear D3
            try clear D4
            try clear D5
            try clear p2
            try clear p4
            try clear Da
            try clear F6
            try clear p6
            try clear q4
            try clear Db
            try clear F7
            obtain ⟨kq, Dp, rfl, HA, Fn, B2, B3, HB⟩ := hcut
            cases kq with
            | zero => exact absurd HA.out (by simp [r33_Few.j3])
            | succ Gl =>
             have H := HA.out
             clear HA
             simp only [r33_Few.j3] at H
             by_cases Gm : Dp = true
             ·subst Gm
              rw [if_pos rfl] at H
              obtain rfl := Option.some.inj H
              go_wp2
              go_ret
              exact ⟨by first | rfl | (simp [*] <;> rfl), by repeat (first | (with_reducible first | exact HB.out | apply ba_ | apply bn_ | apply bd_ | refine bs_ ?_ B8.out | refine bs_ ?_ Bf.out) | exact HB.out)⟩
             ·replace Gm := Bool.eq_false_iff.mpr Gm
              subst Gm
              rw [if_neg (show ¬ (false = true) by decide)] at H
              have H' := am_ H
              clear H
              have L6 := Ba.out
              have L7 := B5.out
              have Gp := cells_6 B3.out
              have Gq := frozen_6 B3.out
              go_wp2
              go_loopg [97] Gl (fun kq v97 w' => ∃ (B9 : Int), v97 = .int .i64 B9 ∧ Aside0 (r33_Few.l2 kq B1 ((rd_T44 B0 B1).f3) (((rd_T44 B0 B1).f3).length : Int) B9 Bj Bk Bl Bm Bn Bo Bp Bq Br Bs B6 B7 B4 B0 = some r) ∧ Aside0 (kq ≤ Gl) ∧ Aside0 (w'.heap[Bi]? = some (.cells #[.int .i64 Bj, .int .i64 Bk, .int .i64 Bl, .int .i64 Bm, .int .i64 Bn, .int .i64 Bo, .int .i64 Bp, .int .i64 Bq, .int .i64 Br, .int .i64 Bs, (.slice Bt B6.length Bu), (.slice Bv B7.length Bw), (.slice Bx B4.length By), (.slice (some F8) B0.length Bz)] 28 (0, 0))) ∧ Aside0 (w'.heap[Ee]? = some (.cells #[(.slice Dd ((rd_T44 B0 B1).f0).length De), (.slice Df ((rd_T44 B0 B1).f1).length Dg), (.slice Dh ((rd_T44 B0 B1).f2).length Di), (.slice Dj ((rd_T44 B0 B1).f3).length Dk), (.slice Dl ((rd_T44 B0 B1).f4).length Dm), (.slice Dn ((rd_T44 B0 B1).f5).length Do)] 44 (0, 0))) ∧ Aside0 (Below w.heap.size w w'))
              case atStart => exact ⟨(0), (by first | rfl | (simp; done) | (simp [*]; done)), H', ⟨Nat.le_refl _⟩, ⟨by (with_reducible repeat (first | apply kn_ | apply kd_ | apply ka_)); exact B2.out⟩, ⟨by (with_reducible repeat (first | apply kn_ | apply kd_ | apply ka_)); exact B3.out⟩, ⟨by repeat (first | (with_reducible first | exact HB.out | apply ba_ | apply bn_ | apply bd_ | refine bs_ ?_ B8.out | refine bs_ ?_ Bf.out) | exact HB.out)⟩⟩
              case round =>
               clear H'
               try clear c1
               try clear c2
               try clear p2
               try clear c3
               try clear c4
               try clear p4
               try clear q4
               try clear hx4
               try clear c5
               try clear D9
               try clear p6
               try clear c7
               try clear Ef
               try clear Eg
               try clear c9
               try clear Eh
               try clear Ei
               try clear c10
               try clear Fo
               try clear Fl
               try clear Dy
               try clear Gb
               try clear Ey
               try clear Fm
               try clear Dz
               try clear E0
               try clear Fp
               try clear F5
               try clear Gf
               try clear Fq
               try clear Ft
               try clear D8
               try clear F9
               try clear c26
               try clear Fw
               try clear Fa
               try clear Fb
               try clear c29
               try clear Fz
               try clear Fc
               try clear Fd
               try clear c32
               try clear G2
               try clear Fe
               try clear Ff
               try clear c35
               try clear G5
               try clear Fg
               try clear Fh
               try clear c38
               try clear c40
               try clear p40
               try clear q40
               try clear hx40
               try clear Gm
               try clear c43
               try clear Dq
               try clear Ds
               try clear Ez
               try clear F1
               try clear F3
               try clear Fr
               try clear Fu
               try clear Fx
               try clear G0
               try clear G3
               try clear G6
               try clear G8
               try clear Gp
               try clear Eu
               try clear Ew
               try clear Dr
               try clear Dt
               try clear F0
               try clear F2
               try clear F4
               try clear Fs
               try clear Fv
               try clear Fy
               try clear G1
               try clear G4
               try clear G7
               try clear G9
               try clear Gq
               try clear Ev
               try clear Ex
               try clear Bb
               try clear D0
               try clear D1
               try clear D2
               try clear D3
               try clear D4
               try clear D5
               try clear p2
               try clear p4
               try clear p40
               try clear Da
               try clear F6
               try clear p6
               try clear q4
               try clear q40
               try clear Db
               try clear F7
               obtain ⟨B9, rfl, HA, J7, B2, B3, HB⟩ := hrel
               cases gk with
               | zero => exact absurd HA.out (by simp [r33_Few.l2])
               | succ k5 =>
                have H := HA.out
                clear HA
                simp only [r33_Few.l2] at H
                by_cases Gg : B9 < (((rd_T44 B0 B1).f3).length : Int)
                ·rw [if_pos Gg] at H
                 have Gr : decide (B9 < (((rd_T44 B0 B1).f3).length : Int)) = true := decide_eq_true Gg
                 clear Gg
                 by_cases J8 : 0 ≤ B9
                 ·rw [if_pos J8] at H
                  have L8 : decide (0 ≤ B9) = true := decide_eq_true J8
                  clear J8
                  by_cases J9 : B9 < (((rd_T44 B0 B1).f3).length : Int)
                  ·rw [if_pos J9] at H
                   have L9 : decide (B9 < (((rd_T44 B0 B1).f3).length : Int)) = true := decide_eq_true J9
                   clear J9
                   by_cases Gh : (((rd_T48 ((rd_T44 B0 B1).f3) B9).f1).size : Int) > 16000
                   ·rw [if_pos Gh] at H
                    have Gs : decide (16000 < (((rd_T48 ((rd_T44 B0 B1).f3) B9).f1).size : Int)) = true := decide_eq_true Gh
                    have Gt : decide (16000 < ((rd_T48 ((rd_T44 B0 B1).f3) B9).f1).size) = true := decide_eq_true (by omega)
                    clear Gh
                    obtain rfl := Option.some.inj H
                    have Dv : 0 ≤ (B9 : Int) := of_decide_eq_true (by first | (with_reducible assumption) | assumption)
                    have Dw : B9 < (((rd_T44 B0 B1).f3).length : Int) := of_decide_eq_true (by first | (with_reducible assumption) | assumption)
                    obtain ⟨Gu, Ge, Bg, Bh⟩ := at_T48 Ed.out B9 Dv Dw
                    cases Ge
                    replace Bg := (HB.out.cell (World.block_lt_of_cell? w _ Bg)).trans Bg
                    replace Bh := (HB.out.cell (World.block_lt_of_cell? w _ Bh)).trans Bh
                    replace Dv := eq_true Dv
                    replace Dw := eq_true Dw
                    go_wp2_with (first | ((with_reducible refine gate_load (t := 28) (x := .tmp 2) rfl ?_); refine lrg_ 28 (.tmp 2) Bi 28 (by exact B2.out) Try.underlying28 ?_) | ((with_reducible refine gate_dst (N := 9) rfl ?_); (try (refine gate_guard (by rfl) ?_; dsimp only)); refine bxe_ 9 48 #[.int .i64 0, .string (⟨#[]⟩ : ByteArray)] ?_; intro Gv hg w49 hbox hb; have Du := am_ (hbox); have Fi := gwk_ HB hg; have Fj := Fi; replace HB := bst_ HB hb; have Bc := nbk_ B2 hg; have D6 := nbs_ Bc; replace B2 := bkb_ B2 hb; have Bd := nbk_ B3 hg; have D7 := nbs_ Bd; replace B3 := bkb_ B3 hb; clear hb hbox hg; have La := D6.out; have Lb := Bc.out; have Lc := D7.out; have Ld := Bd.out; obtain ⟨Ja, Jb⟩ := cells_2 Du.out; obtain ⟨Jc, Jd⟩ := frozen_2 Du.out))
                    go_ret
                    exact ⟨by first | rfl | (simp [*] <;> rfl), by repeat (first | (with_reducible first | exact HB.out | apply ba_ | apply bn_ | apply bd_ | refine bs_ ?_ B8.out | refine bs_ ?_ Bf.out | refine bs_ ?_ Fj.out) | exact HB.out)⟩
                   ·rw [if_neg Gh] at H
                    have Gs : decide (16000 < (((rd_T48 ((rd_T44 B0 B1).f3) B9).f1).size : Int)) = false := decide_eq_false Gh
                    have Gt : decide (16000 < ((rd_T48 ((rd_T44 B0 B1).f3) B9).f1).size) = false := decide_eq_false (by omega)
                    clear Gh
                    have H' := am_ H
                    clear H
                    have Dv : 0 ≤ (B9 : Int) := of_decide_eq_true (by first | (with_reducible assumption) | assumption)
                    have Dw : B9 < (((rd_T44 B0 B1).f3).length : Int) := of_decide_eq_true (by first | (with_reducible assumption) | assumption)
                    obtain ⟨Gu, Ge, Bg, Bh⟩ := at_T48 Ed.out B9 Dv Dw
                    cases Ge
                    replace Bg := (HB.out.cell (World.block_lt_of_cell? w _ Bg)).trans Bg
                    replace Bh := (HB.out.cell (World.block_lt_of_cell? w _ Bh)).trans Bh
                    replace Dv := eq_true Dv
                    replace Dw := eq_true Dw
                    go_wp2_with (first | ((with_reducible refine gate_load (t := 28) (x := .tmp 2) rfl ?_); refine lrg_ 28 (.tmp 2) Bi 28 (by exact B2.out) Try.underlying28 ?_) | ((with_reducible refine gate_dst (N := 9) rfl ?_); (try (refine gate_guard (by rfl) ?_; dsimp only)); refine bxe_ 9 48 #[.int .i64 0, .string (⟨#[]⟩ : ByteArray)] ?_; intro Gv hg w53 hbox hb; have Du := am_ (hbox); have Fi := gwk_ HB hg; have Fj := Fi; replace HB := bst_ HB hb; have Bc := nbk_ B2 hg; have D6 := nbs_ Bc; replace B2 := bkb_ B2 hb; have Bd := nbk_ B3 hg; have D7 := nbs_ Bd; replace B3 := bkb_ B3 hb; clear hb hbox hg; have Le := D6.out; have Lf := Bc.out; have Lg := D7.out; have Lh := Bd.out; obtain ⟨Je, Jf⟩ := cells_2 Du.out; obtain ⟨Jg, Jh⟩ := frozen_2 Du.out))
                    go_roundg k5
                    case measure => have := Ej.out; have := Ek.out; have := Fk.out; have := Fn.out; have := J7.out; omega
                    case rel => exact ⟨(wrap64 (B9 + 1)), (by first | rfl | (simp; done) | (simp [*]; done)), H', ⟨by have := Ej.out; have := Ek.out; have := Fk.out; have := Fn.out; have := J7.out; omega⟩, ⟨by (iterate 2 ((with_reducible repeat (first | apply kn_ | apply kd_ | apply ka_)); refine blk_far ?_ Bc.out _)); (with_reducible repeat (first | apply kn_ | apply kd_ | apply ka_)); exact B2.out⟩, ⟨by (iterate 2 ((with_reducible repeat (first | apply kn_ | apply kd_ | apply ka_)); refine blk_far ?_ Bd.out _)); (with_reducible repeat (first | apply kn_ | apply kd_ | apply ka_)); exact B3.out⟩, ⟨by repeat (first | (with_reducible first | exact HB.out | apply ba_ | apply bn_ | apply bd_ | refine bs_ ?_ B8.out | refine bs_ ?_ Bf.out | refine bs_ ?_ Fj.out) | exact HB.out)⟩⟩
                  ·rw [if_neg J9] at H
                   exact absurd H (by simp)
                 ·rw [if_neg J8] at H
                  exact absurd H (by simp)
                ·rw [if_neg Gg] at H
                 have Gr : decide (B9 < (((rd_T44 B0 B1).f3).length : Int)) = false := decide_eq_false Gg
                 clear Gg
                 have H' := am_ H
                 clear H
                 go_wp2
                 go_roundg k5
                 case measure => have := Ej.out; have := Ek.out; have := Fk.out; have := Fn.out; have := J7.out; omega
                 case rel => exact ⟨(wrap64 (B1 + 1)), (by first | rfl | (simp; done) | (simp [*]; done)), H', ⟨by have := Ej.out; have := Ek.out; have := Fk.out; have := Fn.out; have := J7.out; omega⟩, ⟨by (with_reducible repeat (first | apply kn_ | apply kd_ | apply ka_)); exact B2.out⟩, ⟨by repeat (first | (with_reducible first | exact HB.out | apply ba_ | apply bn_ | apply bd_ | refine bs_ ?_ B8.out | refine bs_ ?_ Bf.out) | exact HB.out)⟩⟩
          ·rw [if_neg Gf] at H
           exact absurd H (by simp)
         ·rw [if_neg Fp] at H
          have F5 : decide (B1 < (B0.length : Int)) = false := decide_eq_false Fp
          clear Fp
          obtain rfl := Option.some.inj H
          have Li := cells_14 B2.out
          have Lj := frozen_14 B2.out
          go_wp2
          go_ret
          exact ⟨by first | rfl | (simp [*] <;> rfl), by repeat (first | (with_reducible first | exact HB.out | apply ba_ | apply bn_ | apply bd_ | refine bs_ ?_ B8.out) | exact HB.out)⟩
end Go.Proofs.Ythdoghhmooodjaa.Gn
