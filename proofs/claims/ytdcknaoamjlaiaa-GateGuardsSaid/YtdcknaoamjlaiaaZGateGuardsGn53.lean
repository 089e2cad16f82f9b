import Derived.Test.YtdcknaoamjlaiaaZGateGuardsGn0
import Derived.Test.YtdcknaoamjlaiaaZGateGuardsGn3
namespace Go.Proofs.Ytdcknaoamjlaiaa.Gn
open Go.RowKit Go.Proofs.YtdcknaoamjlaiaaW.PrintWords Go.Proofs.YtdcknaoamjlaiaaW.PrintLast Go.Proofs.YtdcknaoamjlaiaaW.PrintMore
attribute [local go_sem] max2_int min2_int max_two min_two max_three min_three max_four min_four   -- for this text's walks alone
set_option linter.unusedVariables false
set_option linter.unusedSimpArgs false
def packet_Strip.f (a0_0 : ByteArray) (a0_1 : Int) (a0_2 : ByteArray) (a0_3 a0_4 : Int) (a0_5 : ByteArray) : Option (ByteArray × Int × ByteArray × Int × Int × ByteArray) := some (a0_0, a0_1, a0_2, 0, 0, (⟨#[]⟩ : ByteArray))
set_option maxHeartbeats 8000000 in
set_option maxRecDepth 100000 in
theorem packet_Strip.calls (a0_0 : ByteArray) (a0_1 : Int) (a0_2 : ByteArray) (a0_3 a0_4 : Int) (a0_5 r1 : ByteArray) (r2 : Int) (r3 : ByteArray) (r4 r5 : Int) (r6 : ByteArray) (w : World) (h : packet_Strip.f a0_0 a0_1 a0_2 a0_3 a0_4 a0_5 = some (r1, r2, r3, r4, r5, r6)) :
  Calls Try.prog 106 #[.agg #[.string a0_0, .int .i64 a0_1, .string a0_2, .int .i64 a0_3, .int .i64 a0_4, .string a0_5]] w fun e w' => e = .returned (.agg #[.string r1, .int .i64 r2, .string r3, .int .i64 r4, .int .i64 r5, .string r6]) ∧ Below w.heap.size w w' := by
 have hu76 := Try.underlying76
 have HB := Aside0.mk (Below.refl w.heap.size w)
 have H : (some (a0_0, a0_1, a0_2, 0, 0, (⟨#[]⟩ : ByteArray))) = some (r1, r2, r3, r4, r5, r6) := h
 clear h
 simp only [Option.some.injEq, Prod.mk.injEq] at H
 obtain ⟨rfl, rfl, rfl, rfl, rfl, rfl⟩ := H
 go_enter Try.func106, Try.ntmps106
 go_wp2_with (first | ((with_reducible refine gate_dst (N := 1) rfl ?_); refine box_event ?hg (N := 1) ?hd (cs := #[.string a0_0, .int .i64 a0_1, .string a0_2, .int .i64 a0_3, .int .i64 a0_4, .string a0_5]) (t := 76) ?hr ?_; (case hd => rfl); (case hg => rfl); (case hr => first | (go_simp; done) | (go_simp; rfl)); intro gb417 hg w2 hbox hb; have n0_ := Aside0.mk (below_step HB.out hb); have n1_ := Aside0.mk (hbox); have n2_ := Aside0.mk ((by rw [hg]; exact (below_size HB.out) : w.heap.size ≤ gb417)); have n3_ := Aside0.mk ((by rw [hg]; exact (below_size HB.out) : w.heap.size ≤ gb417)); clear HB; have HB := n0_; have BK417 := n1_; have GW417 := n2_; have GE417 := n3_; clear n0_ n1_ n2_ n3_; clear hb hbox hg) | ((with_reducible refine gate_dst (N := 2) rfl ?_); refine box_event ?hg (N := 2) ?hd (cs := #[.string (⟨#[]⟩ : ByteArray), .int .i64 0, .string (⟨#[]⟩ : ByteArray), .int .i64 0, .int .i64 0, .string (⟨#[]⟩ : ByteArray)]) (t := 76) ?hr ?_; (case hd => rfl); (case hg => rfl); (case hr => first | (go_simp; done) | (go_simp; rfl)); intro gb418 hg w3 hbox hb; have n0_ := Aside0.mk (blk_below BK417.out hb); have n1_ := Aside0.mk (below_step HB.out hb); have n2_ := Aside0.mk (hbox); have n3_ := Aside0.mk ((by rw [hg]; exact (below_size HB.out) : w.heap.size ≤ gb418)); have n4_ := Aside0.mk ((by rw [hg]; exact (below_size HB.out) : w.heap.size ≤ gb418)); have n5_ := Aside0.mk ((by rw [hg]; exact Nat.ne_of_lt (blk_lt BK417.out) : gb417 ≠ gb418)); have n6_ := Aside0.mk ((by rw [hg]; exact Nat.ne_of_gt (blk_lt BK417.out) : gb418 ≠ gb417)); clear BK417; clear HB; have BK417 := n0_; have HB := n1_; have BK418 := n2_; have GW418 := n3_; have GE418 := n4_; have NB417_418 := n5_; have NB418_417 := n6_; clear n0_ n1_ n2_ n3_ n4_ n5_ n6_; clear hb hbox hg; have hnb4 := NB417_418.out; have hnc4 := NB418_417.out; obtain ⟨hcz5_0, hcz5_1, hcz5_2, hcz5_3, hcz5_4, hcz5_5⟩ := cells_6 BK417.out; obtain ⟨hfz5_0, hfz5_1, hfz5_2, hfz5_3, hfz5_4, hfz5_5⟩ := frozen_6 BK417.out) | ((with_reducible refine gate_store (t := 76) (p := 2) rfl ?_); refine row_store_event (t := 76) (p := 2) (v := ?vo_w6) ?hgd ?ho ?hn gb418 #[.string a0_0, .int .i64 a0_1, .string a0_2, .int .i64 0, .int .i64 0, .string (⟨#[]⟩ : ByteArray)] ?hx ?hy 76 #[.string (⟨#[]⟩ : ByteArray), .int .i64 0, .string (⟨#[]⟩ : ByteArray), .int .i64 0, .int .i64 0, .string (⟨#[]⟩ : ByteArray)] ?hg ?hi ?hold ?h1 ?_; (case hgd => rfl); (case ho => rfl); (case hn => rfl); (case hx => rfl); (case hy => rfl); (case hg => exact (by (iterate 3 ((with_reducible repeat (first | refine blk_drewN ?_ _ | refine blk_drew ?_ | refine blk_alloc ?_ _)); refine blk_far ?_ NB418_417.out _)); (with_reducible repeat (first | refine blk_drewN ?_ _ | refine blk_drew ?_ | refine blk_alloc ?_ _)); exact BK418.out)); (case hi => kernel_rfl); (case hold => rfl); (case h1 => (first | kernel_rfl | simp [Value.oneCell'])); intro w6 hw; have n0_ : Aside0 (w6.heap[gb417]? = some (.cells #[.string a0_0, .int .i64 a0_1, .string a0_2, .int .i64 0, .int .i64 0, .string (⟨#[]⟩ : ByteArray)] 76 (0, 0))) := ⟨(by rw [hw]; exact (by (with_reducible repeat (first | refine blk_drewN ?_ _ | refine blk_drew ?_ | refine blk_alloc ?_ _)); refine blk_farc ?_ NB417_418.out; (with_reducible repeat (first | refine blk_drewN ?_ _ | refine blk_drew ?_ | refine blk_alloc ?_ _)); refine blk_put (cs := #[.string a0_0, .int .i64 a0_1, .string a0_2, .int .i64 0, .int .i64 0, .string a0_5]) ?_ 5 _ rfl; (with_reducible repeat (first | refine blk_drewN ?_ _ | refine blk_drew ?_ | refine blk_alloc ?_ _)); refine blk_put (cs := #[.string a0_0, .int .i64 a0_1, .string a0_2, .int .i64 0, .int .i64 a0_4, .string a0_5]) ?_ 4 _ rfl; (with_reducible repeat (first | refine blk_drewN ?_ _ | refine blk_drew ?_ | refine blk_alloc ?_ _)); refine blk_put (cs := #[.string a0_0, .int .i64 a0_1, .string a0_2, .int .i64 a0_3, .int .i64 a0_4, .string a0_5]) ?_ 3 _ rfl; (with_reducible repeat (first | refine blk_drewN ?_ _ | refine blk_drew ?_ | refine blk_alloc ?_ _)); exact BK417.out))⟩; have n1_ : Aside0 (w6.heap[gb418]? = some (.cells #[.string a0_0, .int .i64 a0_1, .string a0_2, .int .i64 0, .int .i64 0, .string (⟨#[]⟩ : ByteArray)] 76 (0, 0))) := ⟨(by rw [hw]; exact (by (with_reducible repeat (first | refine blk_drewN ?_ _ | refine blk_drew ?_ | refine blk_alloc ?_ _)); refine setRow_heap _ _ #[.string (⟨#[]⟩ : ByteArray), .int .i64 0, .string (⟨#[]⟩ : ByteArray), .int .i64 0, .int .i64 0, .string (⟨#[]⟩ : ByteArray)] _ 76 (0, 0) ?_; (iterate 3 ((with_reducible repeat (first | refine blk_drewN ?_ _ | refine blk_drew ?_ | refine blk_alloc ?_ _)); refine blk_far ?_ NB418_417.out _)); (with_reducible repeat (first | refine blk_drewN ?_ _ | refine blk_drew ?_ | refine blk_alloc ?_ _)); exact BK418.out))⟩; have n2_ : Aside0 (Below w.heap.size w w6) := ⟨(by rw [hw]; exact (by repeat (first | (with_reducible first | exact HB.out | refine below_setc ?_ GE418.out | apply below_alloc | apply pw_below_drewN | apply below_drew1 | refine below_set ?_ GE417.out | refine below_set ?_ GE418.out) | exact HB.out)))⟩; clear hw; clear BK417; clear BK418; clear HB; have BK417 := n0_; have BK418 := n1_; have HB := n2_; clear n0_ n1_ n2_))
 refine bodyPost_ret (results_cell_row rfl _ _ gb418 76 #[.string a0_0, .int .i64 a0_1, .string a0_2, .int .i64 0, .int .i64 0, .string (⟨#[]⟩ : ByteArray)] (0, 0) _ rfl (by (with_reducible repeat (first | refine blk_drewN ?_ _ | refine blk_drew ?_ | refine blk_alloc ?_ _)); exact BK418.out) Try.underlying76 rfl (by kernel_rfl)) rfl ?_
 exact ⟨by first | rfl | (simp [errW_none, errW_some] <;> rfl) | (simp [*, errW_none, errW_some] <;> rfl), by repeat (first | (with_reducible first | exact HB.out | apply below_alloc | apply pw_below_drewN | apply below_drew1 | refine below_set ?_ GE417.out | refine below_set ?_ GE418.out) | exact HB.out)⟩
theorem store_row_w {P : Program} {ops : Array Oper} {rest : List Oper} {o : Oper} {a : Act} {w : World} {Q : Exit → Act → World → Prop} (hw : Region.wanted o (yielded ops a.tmps) = true) (ty : TypeId) (x y : Operand) (ho : o.op = .store ty x y)
  (g : Nat) (cells : Array Value) (hx : a.eval x = .pointer (some ⟨g, 0, none⟩)) (hy : a.eval y = .agg cells) (t : TypeId) (old : Array Value) (hg : w.heap[g]? = some (.cells old t (0, 0))) (hi : (P.info? ty).map (·.size) = some cells.size)
  (hold : old.size = cells.size) (h1 : cells.all (·.oneCell') = true)
  (h : ∀ w2, w2.heap[g]? = some (.cells cells t (0, 0)) → (∀ (k : Nat) o', k ≠ g → w.heap[k]? = some o' → w2.heap[k]? = some o') → (∀ B w0, B ≤ g → Below B w0 w → Below B w0 w2) → wpList P ops Q rest (a.put o.dst undef) w2) : wpList P ops Q (o :: rest) a w := by
 unfold wpList
 rw [if_pos hw]
 exact Or.inl (wp_store_row ty x y ho g cells hx hy t old hg hi hold h1 (h _ (setRow_heap w g old cells t _ hg) (fun k o' hk h => (setRow_other w g k cells hk).trans h) (fun B w0 hB hb => hb.trans ⟨rfl, rfl, rfl, by simp [World.setRow], fun k hk => setRow_other w g k cells (by omega)⟩)))
theorem load_row_w {P : Program} {ops : Array Oper} {rest : List Oper} {o : Oper} {a : Act} {w : World} {Q : Exit → Act → World → Prop} (hw : Region.wanted o (yielded ops a.tmps) = true) (ty : TypeId) (x : Operand) (ho : o.op = .load ty x)
  (g : Nat) (hx : a.eval x = .pointer (some ⟨g, 0, none⟩)) (t : TypeId) (cs : Array Value) (fr : Nat × Nat) (d : TypeDesc) (hg : w.heap[g]? = some (.cells cs t fr))
  (hu : P.underlying ty = some d) (hd : (match d with | .struct _ | .array _ _ => true | _ => false) = true) (hi : (P.info? ty).map (·.size) = some cs.size)
  (h : wpList P ops Q rest (a.put o.dst (.agg cs)) w) : wpList P ops Q (o :: rest) a w := by
 unfold wpList
 rw [if_pos hw]
 exact Or.inl (wp_load_row ty x ho g hx t cs fr d hg hu hd hi h)
theorem gate_op {P : Program} {ops : Array Oper} {rest : List Oper} {o : Oper} {a : Act} {W : World} {Q : Exit → Act → World → Prop} {q : Op} (_h : o.op = q) (h : wpList P ops Q (o :: rest) a W) : wpList P ops Q (o :: rest) a W := h
def packet_Carry.f (a0_0 : ByteArray) (a0_1 : Int) (a0_2 : ByteArray) (a0_3 a0_4 : Int) (a0_5 : ByteArray) (a1 a2 : Int) (a3 : ByteArray) : Option (ByteArray × Int × ByteArray × Int × Int × ByteArray) := if a1 < 0 then some (a0_0, a0_1, a0_2, 0, 0, (⟨#[]⟩ : ByteArray)) else if a1 ≥ 32 then some (a0_0, a0_1, a0_2, 0, 0, (⟨#[]⟩ : ByteArray)) else some (a0_0, a0_1, a0_2, wrap64 (a1 + 1), a2, a3)
set_option maxHeartbeats 8000000 in
set_option maxRecDepth 100000 in
theorem packet_Carry.calls (a0_0 : ByteArray) (a0_1 : Int) (a0_2 : ByteArray) (a0_3 a0_4 : Int) (a0_5 : ByteArray) (a1 a2 : Int) (a3 r1 : ByteArray) (r2 : Int) (r3 : ByteArray) (r4 r5 : Int) (r6 : ByteArray) (w : World) (h : packet_Carry.f a0_0 a0_1 a0_2 a0_3 a0_4 a0_5 a1 a2 a3 = some (r1, r2, r3, r4, r5, r6)) :
  Calls Try.prog 125 #[.agg #[.string a0_0, .int .i64 a0_1, .string a0_2, .int .i64 a0_3, .int .i64 a0_4, .string a0_5], .int .i64 a1, .int .i64 a2, .string a3] w fun e w' => e = .returned (.agg #[.string r1, .int .i64 r2, .string r3, .int .i64 r4, .int .i64 r5, .string r6]) ∧ Below w.heap.size w w' := by
 have hS := fun W => packet_Strip.calls a0_0 a0_1 a0_2 a0_3 a0_4 a0_5 a0_0 a0_1 a0_2 0 0 (⟨#[]⟩ : ByteArray) W rfl
 have bP := blk_alloc (blk_new w (Obj.cells #[.string a0_0, .int .i64 a0_1, .string a0_2, .int .i64 a0_3, .int .i64 a0_4, .string a0_5] 76)) (Obj.cells #[.string ⟨#[]⟩, .int .i64 0, .string ⟨#[]⟩, .int .i64 0, .int .i64 0, .string ⟨#[]⟩] 76)
 have bR := blk_new (w.alloc (Obj.cells #[.string a0_0, .int .i64 a0_1, .string a0_2, .int .i64 a0_3, .int .i64 a0_4, .string a0_5] 76)) (Obj.cells #[.string ⟨#[]⟩, .int .i64 0, .string ⟨#[]⟩, .int .i64 0, .int .i64 0, .string ⟨#[]⟩] 76)
 rw [World.size_alloc] at bR
 have hB := below_alloc (below_alloc (Below.refl _ w) (Obj.cells #[.string a0_0, .int .i64 a0_1, .string a0_2, .int .i64 a0_3, .int .i64 a0_4, .string a0_5] 76)) (Obj.cells #[.string ⟨#[]⟩, .int .i64 0, .string ⟨#[]⟩, .int .i64 0, .int .i64 0, .string ⟨#[]⟩] 76)
 have BP := Aside0.mk bP
 have BR := Aside0.mk bR
 have HB := Aside0.mk hB
 clear bP bR hB
 have go1 : ∀ w1, Below _ _ w1 → _ := fun w1 hb => Aside0.mk (And.intro (blk_below BP.out hb) (And.intro (blk_below BR.out hb) (below_step HB.out hb)))
 unfold packet_Carry.f at h
 by_cases c1 : a1 < 0
 ·rw [if_pos c1] at h
  simp only [Option.some.injEq, Prod.mk.injEq] at h
  obtain ⟨rfl, rfl, rfl, rfl, rfl, rfl⟩ := h
  have c1d : decide (a1 < 0) = true := decide_eq_true c1
  clear c1
  go_enter Try.func125, Try.ntmps125
  go_wp2_with fail
  refine (hS _).mono ?_
  rintro e w1 ⟨rfl, hb⟩
  obtain ⟨BP, BR, HB1⟩ := (go1 w1 hb).out
  have BP := Aside0.mk BP
  have BR := Aside0.mk BR
  have HB1 := Aside0.mk HB1
  clear hb hS
  go_wp2_with (first | ((with_reducible refine gate_op (q := .store 76 (.tmp 4) (.tmp 10)) rfl ?_); refine store_row_w ?hw 76 (.tmp 4) (.tmp 10) ?ho (w.heap.size) #[.string a0_0, .int .i64 a0_1, .string a0_2, .int .i64 0, .int .i64 0, .string (⟨#[]⟩ : ByteArray)] ?hx ?hy 76 #[.string a0_0, .int .i64 a0_1, .string a0_2, .int .i64 a0_3, .int .i64 a0_4, .string a0_5] ?hg ?hi ?hold ?h1 ?_; (case hw => rfl); (case ho => rfl); (case hold => rfl); (case h1 => (first | kernel_rfl | simp [Value.oneCell'])); (case hx => rfl); (case hy => rfl); (case hg => exact BP.out); (case hi => kernel_rfl); intro w2 hp2 hk2 hbl2; have BP2 := Aside0.mk hp2; have BR2 := Aside0.mk (hk2 _ _ (by omega) BR.out); have HB2 := Aside0.mk (hbl2 _ _ (Nat.le_refl _) HB1.out); obtain ⟨hcz_0, hcz_1, hcz_2, hcz_3, hcz_4, hcz_5⟩ := cells_6 hp2; obtain ⟨hfz_0, hfz_1, hfz_2, hfz_3, hfz_4, hfz_5⟩ := frozen_6 hp2; clear hp2 hk2 hbl2) | ((with_reducible refine gate_op (q := .load 76 (.tmp 4)) rfl ?_); refine load_row_w ?hw 76 (.tmp 4) ?ho (w.heap.size) ?hx 76 #[.string a0_0, .int .i64 a0_1, .string a0_2, .int .i64 0, .int .i64 0, .string (⟨#[]⟩ : ByteArray)] (0, 0) _ ?hg Try.underlying76 ?hd ?hi ?_; (case hw => rfl); (case ho => rfl); (case hd => rfl); (case hx => rfl); (case hg => exact BP2.out); (case hi => kernel_rfl)) | ((with_reducible refine gate_op (q := .store 76 (.tmp 8) (.tmp 17)) rfl ?_); refine store_row_w ?hw 76 (.tmp 8) (.tmp 17) ?ho (w.heap.size + 1) #[.string a0_0, .int .i64 a0_1, .string a0_2, .int .i64 0, .int .i64 0, .string (⟨#[]⟩ : ByteArray)] ?hx ?hy 76 #[.string (⟨#[]⟩ : ByteArray), .int .i64 0, .string (⟨#[]⟩ : ByteArray), .int .i64 0, .int .i64 0, .string (⟨#[]⟩ : ByteArray)] ?hg ?hi ?hold ?h1 ?_; (case hw => rfl); (case ho => rfl); (case hold => rfl); (case h1 => (first | kernel_rfl | simp [Value.oneCell'])); (case hx => rfl); (case hy => rfl); (case hg => exact BR2.out); (case hi => kernel_rfl); intro w3 hp3 hk3 hbl3; have BR3 := Aside0.mk hp3; have HB3 := Aside0.mk (hbl3 _ _ (by omega) HB2.out); clear hp3 hk3 hbl3))
  refine bodyPost_ret (results_cell_row rfl _ _ (w.heap.size + 1) 76 #[.string a0_0, .int .i64 a0_1, .string a0_2, .int .i64 0, .int .i64 0, .string (⟨#[]⟩ : ByteArray)] (0, 0) _ rfl BR3.out Try.underlying76 rfl (by kernel_rfl)) rfl ?_
  exact ⟨rfl, HB3.out⟩
 ·rw [if_neg c1] at h
  have c1d : decide (a1 < 0) = false := decide_eq_false c1
  by_cases c2 : a1 ≥ 32
  ·rw [if_pos c2] at h
   simp only [Option.some.injEq, Prod.mk.injEq] at h
   obtain ⟨rfl, rfl, rfl, rfl, rfl, rfl⟩ := h
   have c2d : decide (32 ≤ a1) = true := decide_eq_true c2
   clear c1 c2
   go_enter Try.func125, Try.ntmps125
   go_wp2_with fail
   refine (hS _).mono ?_
   rintro e w1 ⟨rfl, hb⟩
   obtain ⟨BP, BR, HB1⟩ := (go1 w1 hb).out
   have BP := Aside0.mk BP
   have BR := Aside0.mk BR
   have HB1 := Aside0.mk HB1
   clear hb hS
   go_wp2_with (first | ((with_reducible refine gate_op (q := .store 76 (.tmp 4) (.tmp 10)) rfl ?_); refine store_row_w ?hw 76 (.tmp 4) (.tmp 10) ?ho (w.heap.size) #[.string a0_0, .int .i64 a0_1, .string a0_2, .int .i64 0, .int .i64 0, .string (⟨#[]⟩ : ByteArray)] ?hx ?hy 76 #[.string a0_0, .int .i64 a0_1, .string a0_2, .int .i64 a0_3, .int .i64 a0_4, .string a0_5] ?hg ?hi ?hold ?h1 ?_; (case hw => rfl); (case ho => rfl); (case hold => rfl); (case h1 => (first | kernel_rfl | simp [Value.oneCell'])); (case hx => rfl); (case hy => rfl); (case hg => exact BP.out); (case hi => kernel_rfl); intro w2 hp2 hk2 hbl2; have BP2 := Aside0.mk hp2; have BR2 := Aside0.mk (hk2 _ _ (by omega) BR.out); have HB2 := Aside0.mk (hbl2 _ _ (Nat.le_refl _) HB1.out); obtain ⟨hcz_0, hcz_1, hcz_2, hcz_3, hcz_4, hcz_5⟩ := cells_6 hp2; obtain ⟨hfz_0, hfz_1, hfz_2, hfz_3, hfz_4, hfz_5⟩ := frozen_6 hp2; clear hp2 hk2 hbl2) | ((with_reducible refine gate_op (q := .load 76 (.tmp 4)) rfl ?_); refine load_row_w ?hw 76 (.tmp 4) ?ho (w.heap.size) ?hx 76 #[.string a0_0, .int .i64 a0_1, .string a0_2, .int .i64 0, .int .i64 0, .string (⟨#[]⟩ : ByteArray)] (0, 0) _ ?hg Try.underlying76 ?hd ?hi ?_; (case hw => rfl); (case ho => rfl); (case hd => rfl); (case hx => rfl); (case hg => exact BP2.out); (case hi => kernel_rfl)) | ((with_reducible refine gate_op (q := .store 76 (.tmp 8) (.tmp 17)) rfl ?_); refine store_row_w ?hw 76 (.tmp 8) (.tmp 17) ?ho (w.heap.size + 1) #[.string a0_0, .int .i64 a0_1, .string a0_2, .int .i64 0, .int .i64 0, .string (⟨#[]⟩ : ByteArray)] ?hx ?hy 76 #[.string (⟨#[]⟩ : ByteArray), .int .i64 0, .string (⟨#[]⟩ : ByteArray), .int .i64 0, .int .i64 0, .string (⟨#[]⟩ : ByteArray)] ?hg ?hi ?hold ?h1 ?_; (case hw => rfl); (case ho => rfl); (case hold => rfl); (case h1 => (first | kernel_rfl | simp [Value.oneCell'])); (case hx => rfl); (case hy => rfl); (case hg => exact BR2.out); (case hi => kernel_rfl); intro w3 hp3 hk3 hbl3; have BR3 := Aside0.mk hp3; have HB3 := Aside0.mk (hbl3 _ _ (by omega) HB2.out); clear hp3 hk3 hbl3))
   refine bodyPost_ret (results_cell_row rfl _ _ (w.heap.size + 1) 76 #[.string a0_0, .int .i64 a0_1, .string a0_2, .int .i64 0, .int .i64 0, .string (⟨#[]⟩ : ByteArray)] (0, 0) _ rfl BR3.out Try.underlying76 rfl (by kernel_rfl)) rfl ?_
   exact ⟨rfl, HB3.out⟩
  ·rw [if_neg c2] at h
   simp only [Option.some.injEq, Prod.mk.injEq] at h
   obtain ⟨rfl, rfl, rfl, rfl, rfl, rfl⟩ := h
   have c2d : decide (32 ≤ a1) = false := decide_eq_false c2
   clear c1 c2
   go_enter Try.func125, Try.ntmps125
   go_wp2_with fail
   refine (hS _).mono ?_
   rintro e w1 ⟨rfl, hb⟩
   obtain ⟨BP, BR, HB1⟩ := (go1 w1 hb).out
   have BP := Aside0.mk BP
   have BR := Aside0.mk BR
   have HB1 := Aside0.mk HB1
   clear hb hS
   go_wp2_with (first | ((with_reducible refine gate_op (q := .store 76 (.tmp 4) (.tmp 10)) rfl ?_); refine store_row_w ?hw 76 (.tmp 4) (.tmp 10) ?ho (w.heap.size) #[.string a0_0, .int .i64 a0_1, .string a0_2, .int .i64 0, .int .i64 0, .string (⟨#[]⟩ : ByteArray)] ?hx ?hy 76 #[.string a0_0, .int .i64 a0_1, .string a0_2, .int .i64 a0_3, .int .i64 a0_4, .string a0_5] ?hg ?hi ?hold ?h1 ?_; (case hw => rfl); (case ho => rfl); (case hold => rfl); (case h1 => (first | kernel_rfl | simp [Value.oneCell'])); (case hx => rfl); (case hy => rfl); (case hg => exact BP.out); (case hi => kernel_rfl); intro w2 hp2 hk2 hbl2; have BP2 := Aside0.mk hp2; have BR2 := Aside0.mk (hk2 _ _ (by omega) BR.out); have HB2 := Aside0.mk (hbl2 _ _ (Nat.le_refl _) HB1.out); obtain ⟨hcz_0, hcz_1, hcz_2, hcz_3, hcz_4, hcz_5⟩ := cells_6 hp2; obtain ⟨hfz_0, hfz_1, hfz_2, hfz_3, hfz_4, hfz_5⟩ := frozen_6 hp2; clear hp2 hk2 hbl2) | ((with_reducible refine gate_op (q := .load 76 (.tmp 4)) rfl ?_); refine load_row_w ?hw 76 (.tmp 4) ?ho (w.heap.size) ?hx 76 #[.string a0_0, .int .i64 a0_1, .string a0_2, .int .i64 (wrap64 (a1 + 1)), .int .i64 a2, .string a3] (0, 0) _ ?hg Try.underlying76 ?hd ?hi ?_; (case hw => rfl); (case ho => rfl); (case hd => rfl); (case hx => rfl); (case hg => exact (blk_set (blk_set (blk_set BP2.out 3 (.int .i64 (wrap64 (a1 + 1)))) 4 (.int .i64 a2)) 5 (.string a3)).trans rfl); (case hi => kernel_rfl)) | ((with_reducible refine gate_op (q := .store 76 (.tmp 8) (.tmp 25)) rfl ?_); refine store_row_w ?hw 76 (.tmp 8) (.tmp 25) ?ho (w.heap.size + 1) #[.string a0_0, .int .i64 a0_1, .string a0_2, .int .i64 (wrap64 (a1 + 1)), .int .i64 a2, .string a3] ?hx ?hy 76 #[.string (⟨#[]⟩ : ByteArray), .int .i64 0, .string (⟨#[]⟩ : ByteArray), .int .i64 0, .int .i64 0, .string (⟨#[]⟩ : ByteArray)] ?hg ?hi ?hold ?h1 ?_; (case hw => rfl); (case ho => rfl); (case hold => rfl); (case h1 => (first | kernel_rfl | simp [Value.oneCell'])); (case hx => rfl); (case hy => rfl); (case hg => (refine blk_far (blk_far (blk_far BR2.out ?_ _) ?_ _) ?_ _ <;> (first | (show _ ≠ _; simp; done) | (simp; done) | omega))); (case hi => kernel_rfl); intro w3 hp3 hk3 hbl3; have BR3 := Aside0.mk hp3; have HB3 := Aside0.mk (hbl3 _ _ (by omega) (((HB2.out.setCell (p := ⟨w.heap.size, 3, none⟩) (Nat.le_refl _) _).setCell (p := ⟨w.heap.size, 4, none⟩) (Nat.le_refl _) _).setCell (p := ⟨w.heap.size, 5, none⟩) (Nat.le_refl _) _)); clear hp3 hk3 hbl3))
   refine bodyPost_ret (results_cell_row rfl _ _ (w.heap.size + 1) 76 #[.string a0_0, .int .i64 a0_1, .string a0_2, .int .i64 (wrap64 (a1 + 1)), .int .i64 a2, .string a3] (0, 0) _ rfl BR3.out Try.underlying76 rfl (by kernel_rfl)) rfl ?_
   exact ⟨rfl, HB3.out⟩
end Go.Proofs.Ytdcknaoamjlaiaa.Gn
