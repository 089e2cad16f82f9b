import Derived.Test.YtdnccjlfongdeaaZRoundOnlyGn18
import Derived.Test.YtdnccjlfongdeaaZRoundOnlyGn19
import Derived.Test.YtdnccjlfongdeaaZRoundOnlyRoundRef
namespace Go.Proofs.Ytdnccjlfongdeaa.Facts
open Go.RowKit Go.Proofs.Ytdnccjlfongdeaa.Gn Go.Proofs.YtdnccjlfongdeaaW.PrintWords Go.Proofs.YtdnccjlfongdeaaW.PrintLast
open FactsM (markV cl cl_id)
set_option linter.unusedVariables false
set_option linter.unusedSimpArgs false
/-- Why a message can't be. -/
def msgV (c : CF) (F : List Int) (num : Int) (L : List ByteArray) (d : DL) (last : Int) : Int :=
  if d.f1 ≤ last ∨ d.f1 ≥ (c.f10.length : Int) then 11 else if d.f0 = rd c.f10 d.f1 then (if d.f2 = num then (if (d.f3.size : Int) > 16 then 15 else if F.contains d.f0 = true then 0 else if d.f3.toList = (rdOf ByteArray.empty L d.f0).toList then 0 else 15) else 16) else 12
theorem rd_in (l : List Int) (i : Int) (h0 : 0 ≤ i) (h1 : i < (l.length : Int)) : rd l i ∈ l := by
  have e : i = ((i.toNat : Nat) : Int) := by omega
  have hl : i.toNat < l.length := by omega
  rw [e, rd_at l _ hl]
  exact List.getElem_mem hl
theorem msg_eq (c : CF) (F : List Int) (num : Int) (mem : ByteArray) (L : List ByteArray) (G : List (List DL)) (d : DL) (last : Int) (hF : F.length ≤ 100) (htb : ∀ x ∈ c.f10, 0 ≤ x ∧ x < (L.length : Int)) (hl : -1 ≤ last) (k : Nat) (hk : 200 ≤ k) : round_machine_message.f k c.f0 c.f1 c.f2 c.f3 c.f4 c.f5 c.f6 c.f7 c.f8 c.f9 c.f10 F num mem L G d.f0 d.f1 d.f2 d.f3 last = some (msgV c F num L d last) := by
  obtain ⟨k, rfl, hk'⟩ := peel (show 199 + 1 ≤ k by omega)
  unfold round_machine_message.f msgV
  by_cases h0 : d.f1 ≤ last
  · rw [if_pos h0, decide_eq_true h0, round_machine_message.j0, if_pos rfl, if_pos (.inl h0)]
  · rw [if_neg h0]
    by_cases h1 : d.f1 ≥ (c.f10.length : Int)
    · rw [decide_eq_true h1, round_machine_message.j0, if_pos rfl, if_pos (.inr h1)]
    · rw [decide_eq_false h1, round_machine_message.j0, if_neg (by decide), if_pos (by omega), if_pos (by omega), if_neg (show ¬ (d.f1 ≤ last ∨ d.f1 ≥ (c.f10.length : Int)) by omega)]
      by_cases h2 : d.f0 = rd c.f10 d.f1
      · have hb := htb _ (rd_in c.f10 d.f1 (by omega) (by omega))
        rw [← h2] at hb
        rw [if_pos h2, if_pos h2]
        by_cases h3 : d.f2 = num
        · rw [if_pos h3, if_pos h3]
          by_cases h4 : (d.f3.size : Int) > 16
          · rw [if_pos h4, if_pos h4]
          · rw [if_neg h4, if_neg h4, lies_eq c F _ (by omega) k (by omega), Option.bind_some]
            cases F.contains d.f0 with
            | true => rw [if_pos rfl, if_pos rfl]
            | false =>
              rw [if_neg (show ¬ (false = true) by decide), if_neg (show ¬ (false = true) by decide), if_pos hb.1, if_pos hb.2]
              split <;> rfl
        · rw [if_neg h3, if_neg h3]
      · rw [if_neg h2, if_neg h2]
theorem msg_ok {c : CF} {F : List Int} {num : Int} {L : List ByteArray} {d : DL} {last : Int} (h : msgV c F num L d last = 0) : last < d.f1 ∧ d.f1 < (c.f10.length : Int) ∧ d.f0 = rd c.f10 d.f1 ∧ d.f2 = num ∧ d.f3.size ≤ 16 ∧ (F.contains d.f0 = true ∨ d.f3.toList = (rdOf ByteArray.empty L d.f0).toList) := by
  unfold msgV at h
  split at h
  · omega
  · rename_i h0
    split at h
    · rename_i h1
      split at h
      · rename_i h2
        split at h
        · omega
        · rename_i h3
          split at h
          · rename_i h4
            exact ⟨by omega, by omega, h1, h2, by omega, .inl h4⟩
          · split at h
            · rename_i h5
              exact ⟨by omega, by omega, h1, h2, by omega, .inr h5⟩
            · omega
      · omega
    · omega
/-- Why what a node delivered can't be: message by message; then, whether a slot of an honest owner is missed. -/
def nodeV (c : CF) (F : List Int) (num : Int) (L : List ByteArray) : List DL → Int → Int
  | [], _ => 0
  | d :: ds, last => if msgV c F num L d last = 0 then nodeV c F num L ds d.f1 else msgV c F num L d last
def lateV (c : CF) (F : List Int) (l : List DL) : Nat → Nat → Int
  | 0, _ => 0
  | d + 1, i => if (l.map (·.f1)).contains (i : Int) = true then lateV c F l d (i + 1) else if F.contains (rd c.f10 (i : Int)) = true then lateV c F l d (i + 1) else 10
def oneV (c : CF) (F : List Int) (num : Int) (L : List ByteArray) (l : List DL) : Int := if nodeV c F num L l (-1) = 0 then lateV c F l c.f10.length 0 else nodeV c F num L l (-1)
theorem nmsg_eq (c : CF) (F : List Int) (num : Int) (mem : ByteArray) (L : List ByteArray) (G : List (List DL)) (l : List DL) (hF : F.length ≤ 100) (htb : ∀ x ∈ c.f10, 0 ≤ x ∧ x < (L.length : Int)) (ht : c.f10.length ≤ 100) (k : Nat) (hk : 200 ≤ k) : ∀ (d i : Nat) (last : Int), i + d = l.length → -1 ≤ last → round_nmsg k c.f0 c.f1 c.f2 c.f3 c.f4 c.f5 c.f6 c.f7 c.f8 c.f9 c.f10 F num mem L G l d i last = some (nodeV c F num L (l.drop i) last)
  | 0, i, last, h, hl => by
    rw [round_nmsg, List.drop_of_length_le (by omega)]
    rfl
  | d + 1, i, last, h, hl => by
    have hi : i < l.length := by omega
    rw [round_nmsg, rd_del l i hi, msg_eq c F num mem L G l[i] last hF htb hl k hk, Option.bind_some, List.drop_eq_getElem_cons hi, nodeV]
    by_cases h0 : msgV c F num L l[i] last = 0
    · have hm := msg_ok h0
      rw [if_pos h0, if_pos h0, if_pos (by omega)]
      exact nmsg_eq c F num mem L G l hF htb ht k hk d (i + 1) _ (by omega) (by omega)
    · rw [if_neg h0, if_neg h0]
theorem nlate_eq (c : CF) (F : List Int) (l : List DL) (hF : F.length ≤ 100) (k : Nat) (hk : 200 ≤ k) : ∀ (d i : Nat), round_nlate k c.f0 c.f1 c.f2 c.f3 c.f4 c.f5 c.f6 c.f7 c.f8 c.f9 c.f10 F l d i = some (lateV c F l d i)
  | 0, i => rfl
  | d + 1, i => by
    have ih := nlate_eq c F l hF k hk d (i + 1)
    rw [round_nlate, lateV, lies_eq c F _ (by omega) k (by omega), Option.bind_some, ih]
    by_cases h : (i : Int) ∈ l.map (·.f1)
    · rw [if_neg (fun e => absurd (List.count_eq_zero.1 e) (fun q => q h)), if_pos (List.contains_iff_mem.2 h)]
    · rw [if_pos (List.count_eq_zero.2 h), if_neg (fun e => h (List.contains_iff_mem.1 e))]
      split <;> rfl
theorem node_eq (c : CF) (F : List Int) (num : Int) (mem : ByteArray) (L : List ByteArray) (G : List (List DL)) (l : List DL) (hl : l.length ≤ 1000) (hF : F.length ≤ 100) (htb : ∀ x ∈ c.f10, 0 ≤ x ∧ x < (L.length : Int)) (ht : c.f10.length ≤ 100) (k : Nat) (hk : 200 ≤ k) : round_machine_node.f k c.f0 c.f1 c.f2 c.f3 c.f4 c.f5 c.f6 c.f7 c.f8 c.f9 c.f10 F num mem L G l = some (oneV c F num L l) := by
  unfold round_machine_node.f oneV
  rw [if_pos (by omega), nmsg_eq c F num mem L G l hF htb ht k hk l.length 0 (-1) (by omega) (by omega), Option.bind_some, List.drop_zero, nlate_eq c F l hF k hk]
  split <;> rfl
end Go.Proofs.Ytdnccjlfongdeaa.Facts
