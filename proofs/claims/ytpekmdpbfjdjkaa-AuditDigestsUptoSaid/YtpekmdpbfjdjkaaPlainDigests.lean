/- Plain: what the reference's copies, comparison and digest come to, on lists. -/
import Derived.Test.YtpekmdpbfjdjkaaFnv
namespace Go.Proofs.Ytpekmdpbfjdjkaa.PAuditDigests
open Go.RowKit Go.Proofs.YtpekmdpbfjdjkaaW.PrintWords Go.Proofs.YtpekmdpbfjdjkaaW.PrintLast Go.Proofs.YtpekmdpbfjdjkaaW.PrintMore
set_option linter.unusedVariables false

theorem take_rd (l : List Int) (i : Nat) (h : i < l.length) : l.take i ++ [rd l (i : Int)] = l.take (i + 1) := by
  rw [List.take_succ_eq_append_getElem h]
  simp [rd, List.getD_eq_getElem?_getD, h]

theorem bytes_l0 (l : List Int) (hl : l.length < 140737488355328) : ∀ (d k i : Nat), i + d = l.length → d < k → shardref10_Bytes.l0 k l (l.take i) (i : Int) = some l := by
  intro d
  induction d with
  | zero =>
    intro k i hi hk
    obtain ⟨k, rfl⟩ : ∃ m, k = m + 1 := ⟨k - 1, by omega⟩
    simp only [shardref10_Bytes.l0]
    rw [if_neg (by omega), List.take_of_length_le (by omega)]
  | succ d ih =>
    intro k i hi hk
    obtain ⟨k, rfl⟩ : ∃ m, k = m + 1 := ⟨k - 1, by omega⟩
    simp only [shardref10_Bytes.l0]
    rw [if_pos (by omega), if_pos (by omega), if_pos (by rw [List.length_take]; omega), wrap_nat i (by omega), take_rd l i (by omega), ih k (i + 1) (by omega) (by omega)]

theorem bytes_f (l : List Int) (hl : l.length < 140737488355328) (k : Nat) (hk : l.length < k) : shardref10_Bytes.f k l = some l := by
  have := bytes_l0 l hl l.length k 0 (by omega) hk
  simpa [shardref10_Bytes.f] using this

theorem rdT_eq (l : List S55) (i : Nat) (h : i < l.length) : rd_T55 l (i : Int) = l[i] := by simp [rd_T55, List.getD_eq_getElem?_getD, h]
theorem take_rdT (l : List S55) (i : Nat) (h : i < l.length) : l.take i ++ [(⟨(rd_T55 l (i : Int)).f0, (rd_T55 l (i : Int)).f1⟩ : S55)] = l.take (i + 1) := by
  rw [rdT_eq l i h, List.take_succ_eq_append_getElem h]

theorem rdT_mem (l : List S55) (i : Nat) (h : i < l.length) : rd_T55 l (i : Int) ∈ l := by
  have e : rd_T55 l (i : Int) = l[i] := by simp [rd_T55, List.getD_eq_getElem?_getD, h]
  rw [e]
  exact List.getElem_mem h

theorem pairs_l0 (l : List S55) (n : Nat) (hl : l.length < 4398046511104) (hv : ∀ x ∈ l, x.f1.length < n) (hn : n ≤ 140737488355328) : ∀ (d k i : Nat), i + d = l.length → d + n < k → shardref10_Pairs.l0 k l (l.take i) (i : Int) = some l := by
  intro d
  induction d with
  | zero =>
    intro k i hi hk
    obtain ⟨k, rfl⟩ : ∃ m, k = m + 1 := ⟨k - 1, by omega⟩
    simp only [shardref10_Pairs.l0]
    rw [if_neg (by omega), List.take_of_length_le (by omega)]
  | succ d ih =>
    intro k i hi hk
    obtain ⟨k, rfl⟩ : ∃ m, k = m + 1 := ⟨k - 1, by omega⟩
    have hx := hv _ (rdT_mem l i (by omega))
    simp only [shardref10_Pairs.l0]
    rw [if_pos (by omega), if_pos (by omega), bytes_f _ (by omega) k (by omega)]
    simp only [Option.bind_some]
    rw [if_pos (by rw [List.length_take]; omega), wrap_nat i (by omega), take_rdT l i (by omega), ih k (i + 1) (by omega) (by omega)]

theorem pairs_f (l : List S55) (n : Nat) (hl : l.length < 4398046511104) (hv : ∀ x ∈ l, x.f1.length < n) (hn : n ≤ 140737488355328) (k : Nat) (hk : l.length + n < k) : shardref10_Pairs.f k l = some l := by
  have := pairs_l0 l n hl hv hn l.length k 0 (by omega) hk
  simpa [shardref10_Pairs.f] using this

theorem same_l0 (l : List S55) (hl : l.length < 4398046511104) : ∀ (d k i : Nat), i + d = l.length → d < k → shardref3_SamePairs.l0 k l l (i : Int) = some true := by
  intro d
  induction d with
  | zero =>
    intro k i hi hk
    obtain ⟨k, rfl⟩ : ∃ m, k = m + 1 := ⟨k - 1, by omega⟩
    simp only [shardref3_SamePairs.l0]
    rw [if_neg (by omega)]
  | succ d ih =>
    intro k i hi hk
    obtain ⟨k, rfl⟩ : ∃ m, k = m + 1 := ⟨k - 1, by omega⟩
    simp only [shardref3_SamePairs.l0, shardref3_SameBytes.f]
    rw [if_pos (by omega), if_pos (by omega), if_pos (by omega)]
    simp only [Option.bind_some, BEq.rfl, if_true]
    rw [wrap_nat i (by omega), ih k (i + 1) (by omega) (by omega)]

theorem same_f (l : List S55) (hl : l.length < 4398046511104) (k : Nat) (hk : l.length < k) : shardref3_SamePairs.f k l l = some true := by
  have := same_l0 l hl l.length k 0 (by omega) hk
  simpa [shardref3_SamePairs.f] using this

def inRange (x : S55) : Prop := 0 ≤ x.f0 ∧ x.f0 < 18446744073709551616

theorem drop_consT (l : List S55) (i : Nat) (h : i < l.length) : l.drop i = rd_T55 l (i : Int) :: l.drop (i + 1) := by
  rw [List.drop_eq_getElem_cons h]
  congr 1
  simp [rd_T55, List.getD_eq_getElem?_getD, h]

theorem shr_lit (x : Int) (n : Nat) (h : n ≤ 64) : shr .u64 x (n : Int) = x / 2 ^ n := by
  simp [shr, IntKind.bits, Nat.min_eq_left h]

theorem ref_step (l : List S55) (i : Nat) (hi : i < l.length) (acc : List Int) (k s : Nat) (hs : s ≤ 7) (hb : acc.length < 140737488355328) :
    refDigest.l1 (k + 1) l acc (i : Int) (s : Int) = refDigest.l1 k l (acc ++ [(rd_T55 l (i : Int)).f0 / 2 ^ (8 * s) % 256]) (i : Int) ((s : Int) - 1) := by
  have h8 : wrap64 (8 * (s : Int)) = ((8 * s : Nat) : Int) := by unfold wrap64; omega
  have h1 : wrap64 ((s : Int) - 1) = (s : Int) - 1 := by unfold wrap64; omega
  conv => lhs; unfold refDigest.l1
  rw [if_pos (by omega), if_pos (by omega), if_pos (by omega), h8, if_pos (by omega), if_pos hb, h1, shr_lit _ _ (by omega)]

theorem ref_last (l : List S55) (i : Nat) (hi : i < l.length) (hl : l.length < 4398046511104) (acc : List Int) (k : Nat) (hb : acc.length + 2 + (rd_T55 l (i : Int)).f1.length < 140737488355328) :
    refDigest.l1 (k + 1) l acc (i : Int) (-1) = refDigest.l0 k l (acc ++ [((rd_T55 l (i : Int)).f1.length : Int) % 65536 / 256] ++ [((rd_T55 l (i : Int)).f1.length : Int) % 256] ++ (rd_T55 l (i : Int)).f1) ((i + 1 : Nat) : Int) := by
  conv => lhs; unfold refDigest.l1
  rw [if_neg (by omega), if_pos (by omega), if_pos (by omega), if_pos (by omega)]
  simp only [Option.bind_some]
  rw [if_pos (by simp; omega)]
  rw [if_pos (by simp; omega), wrap_nat i (by omega)]

/-- The inner loop: eight rounds, then the length's two bytes and the value. -/
theorem ref_inner (l : List S55) (i : Nat) (hi : i < l.length) (hl : l.length < 4398046511104) (acc : List Int) (k : Nat) (hb : acc.length + 10 + (rd_T55 l (i : Int)).f1.length < 140737488355328) :
    refDigest.l1 (k + 9) l acc (i : Int) 7 = refDigest.l0 k l (acc ++ pairBytes (rd_T55 l (i : Int))) ((i + 1 : Nat) : Int) := by
  have s7 := ref_step l i hi acc (k + 8) 7 (by omega) (by omega)
  have s6 := ref_step l i hi (acc ++ [(rd_T55 l (i : Int)).f0 / 2 ^ (8 * 7) % 256]) (k + 7) 6 (by omega) (by simp; omega)
  have s5 := ref_step l i hi (acc ++ [(rd_T55 l (i : Int)).f0 / 2 ^ (8 * 7) % 256] ++ [(rd_T55 l (i : Int)).f0 / 2 ^ (8 * 6) % 256]) (k + 6) 5 (by omega) (by simp; omega)
  have s4 := ref_step l i hi (acc ++ [(rd_T55 l (i : Int)).f0 / 2 ^ (8 * 7) % 256] ++ [(rd_T55 l (i : Int)).f0 / 2 ^ (8 * 6) % 256] ++ [(rd_T55 l (i : Int)).f0 / 2 ^ (8 * 5) % 256]) (k + 5) 4 (by omega) (by simp; omega)
  have s3 := ref_step l i hi (acc ++ [(rd_T55 l (i : Int)).f0 / 2 ^ (8 * 7) % 256] ++ [(rd_T55 l (i : Int)).f0 / 2 ^ (8 * 6) % 256] ++ [(rd_T55 l (i : Int)).f0 / 2 ^ (8 * 5) % 256] ++ [(rd_T55 l (i : Int)).f0 / 2 ^ (8 * 4) % 256]) (k + 4) 3 (by omega) (by simp; omega)
  have s2 := ref_step l i hi (acc ++ [(rd_T55 l (i : Int)).f0 / 2 ^ (8 * 7) % 256] ++ [(rd_T55 l (i : Int)).f0 / 2 ^ (8 * 6) % 256] ++ [(rd_T55 l (i : Int)).f0 / 2 ^ (8 * 5) % 256] ++ [(rd_T55 l (i : Int)).f0 / 2 ^ (8 * 4) % 256] ++ [(rd_T55 l (i : Int)).f0 / 2 ^ (8 * 3) % 256]) (k + 3) 2 (by omega) (by simp; omega)
  have s1 := ref_step l i hi (acc ++ [(rd_T55 l (i : Int)).f0 / 2 ^ (8 * 7) % 256] ++ [(rd_T55 l (i : Int)).f0 / 2 ^ (8 * 6) % 256] ++ [(rd_T55 l (i : Int)).f0 / 2 ^ (8 * 5) % 256] ++ [(rd_T55 l (i : Int)).f0 / 2 ^ (8 * 4) % 256] ++ [(rd_T55 l (i : Int)).f0 / 2 ^ (8 * 3) % 256] ++ [(rd_T55 l (i : Int)).f0 / 2 ^ (8 * 2) % 256]) (k + 2) 1 (by omega) (by simp; omega)
  have s0 := ref_step l i hi (acc ++ [(rd_T55 l (i : Int)).f0 / 2 ^ (8 * 7) % 256] ++ [(rd_T55 l (i : Int)).f0 / 2 ^ (8 * 6) % 256] ++ [(rd_T55 l (i : Int)).f0 / 2 ^ (8 * 5) % 256] ++ [(rd_T55 l (i : Int)).f0 / 2 ^ (8 * 4) % 256] ++ [(rd_T55 l (i : Int)).f0 / 2 ^ (8 * 3) % 256] ++ [(rd_T55 l (i : Int)).f0 / 2 ^ (8 * 2) % 256] ++ [(rd_T55 l (i : Int)).f0 / 2 ^ (8 * 1) % 256]) (k + 1) 0 (by omega) (by simp; omega)
  have e := ((s7.trans s6).trans s5).trans (((s4.trans s3).trans s2).trans (s1.trans s0))
  refine e.trans ?_
  refine (ref_last l i hi hl _ k (by simp; omega)).trans ?_
  congr 1
  generalize rd_T55 l (i : Int) = x
  have ha : (x.f1.length : Int) % 65536 / 256 = (x.f1.length : Int) / 256 % 256 := by omega
  simp [pairBytes, headOf, ha]

theorem ref_l0 (l : List S55) (hl : l.length < 4398046511104) (hb : (bytesAll l).length < 140737488355328) : ∀ (d k i : Nat), i + d = l.length → 10 * d + (bytesAll l).length + 2 ≤ k → refDigest.l0 k l (bytesAll (l.take i)) (i : Int) = some (digestL l) := by
  intro d
  induction d with
  | zero =>
    intro k i hi hk
    obtain ⟨k, rfl⟩ : ∃ m, k = m + 1 := ⟨k - 1, by omega⟩
    unfold refDigest.l0
    rw [if_neg (by omega), List.take_of_length_le (by omega), shardref2_Fnv.f, ref_more_f _ (by omega) k (by omega)]
    rfl
  | succ d ih =>
    intro k i hi hk
    obtain ⟨k, rfl⟩ : ∃ m, k = m + 10 := ⟨k - 10, by omega⟩
    have hcat : bytesAll (l.take (i + 1)) = bytesAll (l.take i) ++ pairBytes (rd_T55 l (i : Int)) := by
      rw [rdT_eq l i (by omega), List.take_succ_eq_append_getElem (by omega), bytesAll, List.flatMap_append]
      simp [bytesAll]
    have hle : (bytesAll (l.take (i + 1))).length ≤ (bytesAll l).length := by
      have : bytesAll l = bytesAll (l.take (i + 1)) ++ bytesAll (l.drop (i + 1)) := by
        simp only [bytesAll, ← List.flatMap_append, List.take_append_drop]
      rw [this, List.length_append]
      omega
    have hlen : (bytesAll (l.take (i + 1))).length = (bytesAll (l.take i)).length + (10 + (rd_T55 l (i : Int)).f1.length) := by
      rw [hcat, List.length_append]
      simp [pairBytes, headOf]
      omega
    show refDigest.l0 ((k + 9) + 1) l _ _ = _
    unfold refDigest.l0
    rw [if_pos (by omega), ref_inner l i (by omega) hl _ k (by omega), ← hcat]
    exact ih k (i + 1) (by omega) (by omega)

theorem ref_f (l : List S55) (hl : l.length < 4398046511104) (hb : (bytesAll l).length < 140737488355328) (k : Nat) (hk : 10 * l.length + (bytesAll l).length + 2 ≤ k) : refDigest.f k l = some (digestL l) := by
  have := ref_l0 l hl hb l.length k 0 (by omega) hk
  simpa [refDigest.f, bytesAll] using this
end Go.Proofs.Ytpekmdpbfjdjkaa.PAuditDigests
