import Derived.Test.YtdnccjlfongdeaaZRoundOnlyWMore
import Derived.ChangeArms
import Derived.OpenShut
import Derived.DataElems
import Derived.SizedLaws
import Derived.ProofKit
import Derived.Below
import Derived.KernelRfl
namespace Go.Proofs.Ytdnccjlfongdeaa.Opens
open Go.RowKit Go.Proofs.YtdnccjlfongdeaaW.PrintWords Go.Proofs.YtdnccjlfongdeaaW.PrintLast
set_option linter.unusedVariables false
set_option linter.unusedSimpArgs false
/-- Values of type t read as kind k tells, and what they read as meets wf. -/
structure Opens {α : Type} (P : Program) (t : TypeId) (k : Kd α) (wf : α → Prop) : Prop where
  sz : k.sz = P.cellsOf t
  out : ∀ {H : Type} {enc : TypeId × Value → H} {W : World} {fuel : Nat} {cs : List Value} {d : DataW H} {ps : List MemPlace},
    DataW.trod enc P W 0 (fun _ => true) true fuel t cs = some (d, ps) → (∀ n ∈ d.weights P t, n ≤ reachBytes) → ∃ x, k.K W x cs ∧ wf x
def wfInt (k : IntKind) (x : Int) : Prop := (Lit.int k x).wf = true
def wfStr (x : ByteArray) : Prop := x.size ≤ 140737488351232
def wfList {α : Type} (B : Nat) (wf : α → Prop) (l : List α) : Prop := l.length * B ≤ 140737488351232 ∧ ∀ x ∈ l, wf x
variable {P : Program}
theorem opens_int {t : TypeId} {k : IntKind} (ht : P.underlying t = some (.int k)) (hc : P.cellsOf t = 1) : Opens P t (Kd.int k) (wfInt k) :=
  ⟨hc.symm, fun h _ => by
    obtain ⟨n, rfl, _, hw⟩ := DataW.trod_int ht h
    exact ⟨n, rfl, hw⟩⟩
theorem opens_str {t : TypeId} (ht : P.underlying t = some .string) (hc : P.cellsOf t = 1) : Opens P t Kd.string wfStr :=
  ⟨hc.symm, fun h hw => by
    obtain ⟨s, rfl, hx, _⟩ := DataW.trod_string ht h
    obtain ⟨rfl, _⟩ := Prod.mk.inj hx
    refine ⟨s, rfl, ?_⟩
    have := hw s.data.toList.length (by simp [DataW.weights])
    rw [Array.length_toList] at this
    exact this⟩
theorem choose_list {α : Type} (Q : Nat → α → Prop) : ∀ n, (∀ i, i < n → ∃ x, Q i x) → ∃ xs : List α, xs.length = n ∧ ∀ (i : Nat) x, xs[i]? = some x → Q i x
  | 0, _ => ⟨[], rfl, fun i x h => by simp at h⟩
  | n + 1, h => by
    obtain ⟨xs, hl, hq⟩ := choose_list Q n (fun i hi => h i (by omega))
    obtain ⟨x, hx⟩ := h n (by omega)
    refine ⟨xs ++ [x], by simp [hl], fun i y hy => ?_⟩
    by_cases hi : i < n
    · exact hq i y (by rw [List.getElem?_append_left (by omega)] at hy; exact hy)
    · rw [List.getElem?_append_right (by omega), hl] at hy
      have : i = n := by
        have := (List.getElem?_eq_some_iff.1 hy).1
        simp at this
        omega
      subst this
      simp at hy
      subst hy
      exact hx
theorem weights_all {H : Type} {e : TypeId} : ∀ {l : List (DataW H)} {d : DataW H}, d ∈ l → ∀ n ∈ d.weights P e, n ∈ DataW.weightsAll P e l
  | d0 :: l, d, hd, n, hn => by
    simp only [DataW.weightsAll, List.mem_append]
    rcases List.mem_cons.1 hd with rfl | hd
    · exact .inl hn
    · exact .inr (weights_all hd n hn)
theorem opens_slice {α : Type} {t e : TypeId} {k : Kd α} {wf : α → Prop} (ht : P.underlying t = some (.slice e)) (hc : P.cellsOf t = 1) {B : Nat} (hB : P.bytesOf e = B) (h : Opens P e k wf) :
    Opens P t (Kd.slice e k) (wfList B wf) := by
  refine ⟨hc.symm, fun {H enc W fuel cs d ps} ho hw => ?_⟩
  rcases DataW.trod_slice ht ho with ⟨rfl, _⟩ | ⟨a, len, cap, elems, rest, n, rfl, rfl, hx, _, hl, hm, hlen, he, _, _⟩
  · refine ⟨[], ⟨none, 0, rfl, Nat.le_refl _, rfl, by simp, fun hn => absurd hn (by simp)⟩, by simp [wfList], fun x hx => by simp at hx⟩
  · obtain ⟨rfl, _⟩ := Prod.mk.inj hx
    have hw1 : (elems.length + rest.length) * B ≤ reachBytes := by
      have := hw ((elems.length + rest.length) * P.bytesOf e) (by simp [DataW.weights, ht])
      rwa [hB] at this
    obtain ⟨xs, hxl, hq⟩ := choose_list (fun i x => (∃ c, c.length = k.sz ∧ k.K W x c ∧ ∀ (j : Nat) u, c[j]? = some u → W.cell? (a.add (i * k.sz + j)) = some u) ∧ wf x) len (fun i hi => by
      have h1 := he i hi
      obtain ⟨y, hy⟩ : ∃ y, elems[i]? = some y := ⟨elems[i]'(by omega), List.getElem?_eq_getElem (by omega)⟩
      rw [hy] at h1
      obtain ⟨c, hc1, hc2⟩ := Option.bind_eq_some_iff.1 h1
      obtain ⟨_, hcl, hcc⟩ := World.cells?_some hc1
      obtain ⟨d1, p1⟩ := y
      have hmem : (d1, p1) ∈ elems := List.mem_of_getElem? hy
      obtain ⟨x, hx1, hx2⟩ := h.out hc2 (fun m hm => hw m (by
        have : m ∈ DataW.weightsAll P e (elems.map (·.1)) := weights_all (List.mem_map.2 ⟨_, hmem, rfl⟩) m hm
        simp [DataW.weights, ht, this]))
      refine ⟨x, ⟨c, by rw [hcl, h.sz], hx1, fun j u hu => ?_⟩, hx2⟩
      have hj : j < P.cellsOf e := by rw [← hcl]; exact (List.getElem?_eq_some_iff.1 hu).1
      have := hcc j hj
      rw [hu, Addr.add_add] at this
      rw [h.sz]
      exact this)
    have hll : len * B ≤ 140737488351232 := by
      have h2 : len * B ≤ (elems.length + rest.length) * B := Nat.mul_le_mul_right _ (by omega)
      exact Nat.le_trans h2 hw1
    refine ⟨xs, ⟨some a, cap, by rw [hxl], by omega, rfl, by unfold maxLen at hm; omega, fun hn => ⟨a, rfl, fun j p hp => ?_⟩⟩, by rw [hxl]; exact hll, fun x hx => ?_⟩
    · obtain ⟨⟨c, c1, c2, c3⟩, _⟩ := hq j p hp
      exact ⟨c, c1, c2, c3⟩
    · obtain ⟨i, hi⟩ := List.mem_iff_getElem?.1 hx
      exact (hq i x hi).2
/-- Fields, one behind another, from a place on. -/
structure OpensF {α : Type} (P : Program) (fs : List Field) (k : Kd α) (wf : α → Prop) (off : Nat) : Prop where
  out : ∀ {H : Type} {enc : TypeId × Value → H} {W : World} {fuel : Nat} {cs : List Value} {xs : List (DataW H × List MemPlace)},
    xs.length = fs.length → (∀ (i : Nat) (f : Field), fs[i]? = some f → DataW.trod enc P W 0 (fun _ => true) true fuel f.type ((cs.drop f.offset).take (P.cellsOf f.type)) = xs[i]?) →
    (∀ n ∈ DataW.weightsEach P (fs.map (·.type)) (xs.map (·.1)), n ≤ reachBytes) → ∃ x, k.K W x ((cs.drop off).take k.sz) ∧ wf x
theorem opensF_one {α : Type} {f : Field} {k : Kd α} {wf : α → Prop} {off : Nat} (h : Opens P f.type k wf) (ho : f.offset = off) : OpensF P [f] k wf off := by
  refine ⟨fun {H enc W fuel cs xs} hl hf hw => ?_⟩
  match xs, hl with
  | [(d, ps)], _ =>
    obtain ⟨x, h1, h2⟩ := h.out (hf 0 f rfl) (fun n hn => hw n (by simp [DataW.weightsEach, hn]))
    rw [ho, ← h.sz] at h1
    exact ⟨x, h1, h2⟩
theorem opensF_cons {α β : Type} {f : Field} {r : List Field} {a : Kd α} {b : Kd β} {wa : α → Prop} {wb : β → Prop} {off : Nat} (h : Opens P f.type a wa) (ho : f.offset = off) (hr : OpensF P r b wb (off + a.sz)) :
    OpensF P (f :: r) (Kd.pair a b) (fun x => wa x.1 ∧ wb x.2) off := by
  refine ⟨fun {H enc W fuel cs xs} hl hf hw => ?_⟩
  match xs, hl with
  | (d, ps) :: ys, hl =>
    obtain ⟨x, h1, h2⟩ := h.out (hf 0 f rfl) (fun n hn => hw n (by simp [DataW.weightsEach, hn]))
    obtain ⟨y, g1, g2⟩ := hr.out (xs := ys) (by simpa using hl) (fun i g hg => by simpa using hf (i + 1) g (by simpa using hg)) (fun n hn => hw n (by simp [DataW.weightsEach, hn]))
    rw [ho, ← h.sz] at h1
    refine ⟨(x, y), ⟨_, _, ?_, h1, g1⟩, h2, g2⟩
    show (cs.drop off).take (a.sz + b.sz) = _
    rw [List.take_add, List.drop_drop]
theorem opens_struct {α β : Type} {t : TypeId} {fs : Array Field} {k : Kd α} {wf : α → Prop} {g : β → α} (ht : P.underlying t = some (.struct fs)) (h : OpensF P fs.toList k wf 0) (hs : k.sz = P.cellsOf t) (hg : ∀ y, ∃ x, g x = y) :
    Opens P t (Kd.iso k g) (fun x => wf (g x)) := by
  refine ⟨hs, fun {H enc W fuel cs d ps} ho hw => ?_⟩
  obtain ⟨xs, n, rfl, hx, hl, hxl, hf⟩ := DataW.trod_struct ht ho
  obtain ⟨rfl, _⟩ := Prod.mk.inj hx
  obtain ⟨y, h1, h2⟩ := h.out (xs := xs) (by simpa using hxl) (fun i f hi => hf i f (by simpa using hi)) (fun m hm => hw m (by simp only [DataW.weights, ht]; exact hm))
  obtain ⟨x, rfl⟩ := hg y
  rw [List.drop_zero, List.take_of_length_le (by omega)] at h1
  exact ⟨x, h1, h2⟩
/-- An argument's reading, opened. -/
theorem opened {α : Type} {t : TypeId} {k : Kd α} {wf : α → Prop} (h : Opens P t k wf) {H : Type} {enc : TypeId × Value → H} {W : World} {v : Value} {d : DataW H} {ps : List MemPlace} {ts : List TypeId} {ds : List (DataW H)}
    (hr : DataW.Trod enc P W 0 (fun _ => true) true t v d ps) (hsz : (DataW.weightsEach P ts ds).all (· ≤ reachBytes) = true) {j : Nat} (ht : ts[j]? = some t) (hd : ds[j]? = some d) :
    ∃ x, k.K W x v.cells.toList ∧ wf x := by
  obtain ⟨fuel, hf⟩ := hr
  exact h.out hf (fun n hn => by simpa using List.all_eq_true.1 hsz n (DataW.weights_mem_each ht hd n hn))
theorem okWide_agg {t : TypeId} {fs : Array Field} {W : World} {r : Reach} {base : Nat} {v : Value} (ht : P.underlying t = some (.struct fs)) (h : Value.okWide P W r base t v) : ∃ cs, v = .agg cs := by
  simp only [Value.okWide, ht] at h
  obtain ⟨cs, rfl, _⟩ := h
  exact ⟨cs, rfl⟩
theorem arr_of {cs : Array Value} {l : List Value} (h : (Value.agg cs).cells.toList = l) : cs = l.toArray := by
  have : cs.toList = l := h
  rw [← this]
theorem one_of {α : Type} {enc : α → Value} {h1 : ∀ x, (enc x).oneCell' = true} {W : World} {x : α} {v : Value} (h : (Kd.scalar enc h1).K W x [v]) : v = enc x := by
  have : [v] = [enc x] := h
  simpa using this
theorem slice_of {a b : Option Addr} {n m c d : Nat} (h : (Value.slice a n c).cells.toList = [.slice b m d]) : a = b ∧ n = m ∧ c = d := by
  simpa [Value.cells] using h
theorem trod_block {H : Type} {enc : TypeId × Value → H} {W : World} {t : TypeId} {v : Value} {d : DataW H} {ps : List MemPlace} (h : DataW.Trod enc P W 0 (fun _ => true) true t v d ps) : ∀ x ∈ ps, x.block < W.heap.size := by
  obtain ⟨m, hm⟩ := h
  exact DataW.trod_lt m _ _ _ hm
end Go.Proofs.Ytdnccjlfongdeaa.Opens
