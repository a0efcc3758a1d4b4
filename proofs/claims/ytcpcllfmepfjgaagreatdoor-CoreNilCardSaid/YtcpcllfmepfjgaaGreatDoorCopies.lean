/- Plain: the document's copies of lists of bytes and of pairs, and the law's copy with room behind it, give what they were given. Conditions: the lists' lengths fit a machine. -/
import Derived.Test.YtcpcllfmepfjgaaGreatDoorQCoreNilx7
namespace Go.Proofs.YtcpcllfmepfjgaaGreatDoor.core
open Go.RowKit Go.Proofs.YtcpcllfmepfjgaaGreatDoorW.PrintWords Go.Proofs.YtcpcllfmepfjgaaGreatDoorW.PrintLast Go.Proofs.YtcpcllfmepfjgaaGreatDoorW.PrintMore Go.Proofs.YtcpcllfmepfjgaaGreatDoor.PCoreNil
set_option linter.unusedVariables false

theorem wrapN (i : Nat) (h : i < 9223372036854775807) : wrap64 ((i : Int) + 1) = ((i + 1 : Nat) : Int) := by unfold wrap64; omega
theorem take_rd (l : List Int) (i : Nat) (h : i < l.length) : l.take i ++ [rd l (i : Int)] = l.take (i + 1) := by
  rw [List.take_succ_eq_append_getElem h]
  simp [rd, List.getD_eq_getElem?_getD, h]

theorem bytes_l0 (l : List Int) (hl : l.length < 140737488355328) : ∀ (d k i : Nat), i + d = l.length → d < k → shardref10_Bytes.l0 k l (l.take i) (i : Int) = some l := by
  intro d
  induction d with
  | zero =>
    intro k i hi hk
    obtain ⟨k, rfl⟩ : ∃ m, k = m + 1 := ⟨k - 1, by omega⟩
    simp only [shardref10_Bytes.l0]
    rw [if_neg (by omega), List.take_of_length_le (by omega)]
  | succ d ih =>
    intro k i hi hk
    obtain ⟨k, rfl⟩ : ∃ m, k = m + 1 := ⟨k - 1, by omega⟩
    simp only [shardref10_Bytes.l0]
    rw [if_pos (by omega), if_pos (by omega), if_pos (by rw [List.length_take]; omega), wrapN i (by omega), take_rd l i (by omega), ih k (i + 1) (by omega) (by omega)]
theorem bytes_f (l : List Int) (hl : l.length < 140737488355328) (k : Nat) (hk : l.length < k) : shardref10_Bytes.f k l = some l := by
  have := bytes_l0 l hl l.length k 0 (by omega) hk
  simpa [shardref10_Bytes.f] using this

theorem roomy_l0 (l : List Int) (hl : l.length < 140737488355312) : ∀ (d k i : Nat) (acc : List Int), i + d = 16 → d < k → acc.length = l.length + i → acc.take l.length = l → shardlaw10_roomy.l0 k l acc (i : Int) = some l := by
  intro d
  induction d with
  | zero =>
    intro k i acc hi hk ha ht
    obtain ⟨k, rfl⟩ : ∃ m, k = m + 1 := ⟨k - 1, by omega⟩
    simp only [shardlaw10_roomy.l0]
    rw [if_neg (by omega), if_pos (by omega), if_pos (by omega), Int.toNat_natCast, ht]
  | succ d ih =>
    intro k i acc hi hk ha ht
    obtain ⟨k, rfl⟩ : ∃ m, k = m + 1 := ⟨k - 1, by omega⟩
    simp only [shardlaw10_roomy.l0]
    rw [if_pos (by omega), if_pos (by omega), wrapN i (by omega)]
    exact ih k (i + 1) _ (by omega) (by omega) (by simp; omega) (by rw [List.take_append_of_le_length (by omega)]; exact ht)
theorem roomy_f (l : List Int) (hl : l.length < 140737488355312) (k : Nat) (hk : l.length + 16 < k) : shardlaw10_roomy.f k l = some l := by
  unfold shardlaw10_roomy.f
  rw [bytes_f l (by omega) k (by omega)]
  simp only [Option.bind_some]
  exact roomy_l0 l hl 16 k 0 l rfl (by omega) rfl (List.take_length)

theorem rdT_eq (l : List S101) (i : Nat) (h : i < l.length) : rd_T101 l (i : Int) = l[i] := by simp [rd_T101, List.getD_eq_getElem?_getD, h]
theorem take_rdT (l : List S101) (i : Nat) (h : i < l.length) : l.take i ++ [(⟨(rd_T101 l (i : Int)).f0, (rd_T101 l (i : Int)).f1⟩ : S101)] = l.take (i + 1) := by
  rw [rdT_eq l i h, List.take_succ_eq_append_getElem h]
theorem rdT_mem (l : List S101) (i : Nat) (h : i < l.length) : rd_T101 l (i : Int) ∈ l := by
  rw [rdT_eq l i h]
  exact List.getElem_mem h
theorem pairs_l0 (l : List S101) (n : Nat) (hl : l.length < 4398046511104) (hv : ∀ x ∈ l, x.f1.length < n) (hn : n ≤ 140737488355328) : ∀ (d k i : Nat), i + d = l.length → d + n < k → shardref10_Pairs.l0 k l (l.take i) (i : Int) = some l := by
  intro d
  induction d with
  | zero =>
    intro k i hi hk
    obtain ⟨k, rfl⟩ : ∃ m, k = m + 1 := ⟨k - 1, by omega⟩
    simp only [shardref10_Pairs.l0]
    rw [if_neg (by omega), List.take_of_length_le (by omega)]
  | succ d ih =>
    intro k i hi hk
    obtain ⟨k, rfl⟩ : ∃ m, k = m + 1 := ⟨k - 1, by omega⟩
    have hx := hv _ (rdT_mem l i (by omega))
    simp only [shardref10_Pairs.l0]
    rw [if_pos (by omega), if_pos (by omega), bytes_f _ (by omega) k (by omega)]
    simp only [Option.bind_some]
    rw [if_pos (by rw [List.length_take]; omega), wrapN i (by omega), take_rdT l i (by omega), ih k (i + 1) (by omega) (by omega)]
theorem pairs_f (l : List S101) (n : Nat) (hl : l.length < 4398046511104) (hv : ∀ x ∈ l, x.f1.length < n) (hn : n ≤ 140737488355328) (k : Nat) (hk : l.length + n < k) : shardref10_Pairs.f k l = some l := by
  have := pairs_l0 l n hl hv hn l.length k 0 (by omega) hk
  simpa [shardref10_Pairs.f] using this
end Go.Proofs.YtcpcllfmepfjgaaGreatDoor.core
