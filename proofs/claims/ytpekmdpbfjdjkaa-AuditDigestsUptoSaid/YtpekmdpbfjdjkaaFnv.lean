/- Plain: the two hashes of FnvMore (the program's and the reference's) are one fold over the bytes, from every start; the copies and comparisons of pairs. No program in sight but the printed plain functions. -/
import Derived.Test.YtpekmdpbfjdjkaaPAuditDigestsx1
import Derived.Test.YtpekmdpbfjdjkaaRefDigest
namespace Go.Proofs.Ytpekmdpbfjdjkaa.PAuditDigests
open Go.RowKit Go.Proofs.YtpekmdpbfjdjkaaW.PrintWords Go.Proofs.YtpekmdpbfjdjkaaW.PrintLast Go.Proofs.YtpekmdpbfjdjkaaW.PrintMore
set_option linter.unusedVariables false

theorem u64w (n : Int) : IntKind.u64.wrap n = n % 18446744073709551616 := by simp [IntKind.wrap, IntKind.signed, IntKind.bits]
theorem wrap_nat (i : Nat) (h : i < 4611686018427387904) : wrap64 ((i : Int) + 1) = ((i + 1 : Nat) : Int) := by
  unfold wrap64
  omega

def fstep (h c : Int) : Int := IntKind.u64.wrap ((Go.bits .xor .u64 h (IntKind.u64.wrap c)) * 1099511628211)
def fnvL (h : Int) (l : List Int) : Int := l.foldl fstep h
theorem fnvL_append (h : Int) (a b : List Int) : fnvL h (a ++ b) = fnvL (fnvL h a) b := by simp [fnvL, List.foldl_append]

theorem drop_cons (l : List Int) (i : Nat) (h : i < l.length) : l.drop i = rd l (i : Int) :: l.drop (i + 1) := by
  rw [List.drop_eq_getElem_cons h]
  congr 1
  simp [rd, List.getD_eq_getElem?_getD, h]

theorem prog_more (l : List Int) (hl : l.length < 4611686018427387904) : ∀ (d k i : Nat) (h : Int), i + d = l.length → d < k → codec_FnvMore.l0 k h l (l.length : Int) (i : Int) = some (fnvL h (l.drop i)) := by
  intro d
  induction d with
  | zero =>
    intro k i h hi hk
    obtain ⟨k, rfl⟩ : ∃ m, k = m + 1 := ⟨k - 1, by omega⟩
    simp only [codec_FnvMore.l0]
    rw [if_neg (by omega), List.drop_of_length_le (by omega)]
    rfl
  | succ d ih =>
    intro k i h hi hk
    obtain ⟨k, rfl⟩ : ∃ m, k = m + 1 := ⟨k - 1, by omega⟩
    simp only [codec_FnvMore.l0]
    rw [if_pos (by omega), if_pos (by omega), if_pos (by omega), wrap_nat i (by omega), ih k (i + 1) _ (by omega) (by omega), drop_cons l i (by omega)]
    rfl

theorem prog_more_f (l : List Int) (hl : l.length < 4611686018427387904) (h : Int) : codec_FnvMore.f (l.length + 1) h l = some (fnvL h l) := by
  have := prog_more l hl l.length (l.length + 1) 0 h (by omega) (by omega)
  simpa [codec_FnvMore.f] using this

theorem ref_more (l : List Int) (hl : l.length < 4611686018427387904) : ∀ (d k i : Nat) (h : Int), i + d = l.length → d < k → shardref2_FnvMore.l0 k h l (i : Int) = some (fnvL h (l.drop i)) := by
  intro d
  induction d with
  | zero =>
    intro k i h hi hk
    obtain ⟨k, rfl⟩ : ∃ m, k = m + 1 := ⟨k - 1, by omega⟩
    simp only [shardref2_FnvMore.l0]
    rw [if_neg (by omega), List.drop_of_length_le (by omega)]
    rfl
  | succ d ih =>
    intro k i h hi hk
    obtain ⟨k, rfl⟩ : ∃ m, k = m + 1 := ⟨k - 1, by omega⟩
    simp only [shardref2_FnvMore.l0]
    rw [if_pos (by omega), if_pos (by omega), wrap_nat i (by omega), ih k (i + 1) _ (by omega) (by omega), drop_cons l i (by omega)]
    show some (fnvL _ _) = some (fnvL (fstep h _) _)
    congr 2
    unfold fstep
    generalize Go.bits .xor .u64 h (IntKind.u64.wrap (rd l ↑i)) = x
    simp only [u64w]
    omega

theorem ref_more_f (l : List Int) (hl : l.length < 4611686018427387904) (k : Nat) (hk : l.length < k) (h : Int) : shardref2_FnvMore.f k h l = some (fnvL h l) := by
  have := ref_more l hl l.length k 0 h (by omega) hk
  simpa [shardref2_FnvMore.f] using this

/-- A pair's head: eight bytes of the key, two of the length. -/
def headOf (x : S55) : List Int :=
  [x.f0 / 72057594037927936 % 256, x.f0 / 281474976710656 % 256, x.f0 / 1099511627776 % 256, x.f0 / 4294967296 % 256, x.f0 / 16777216 % 256, x.f0 / 65536 % 256, x.f0 / 256 % 256, x.f0 % 256, (x.f1.length : Int) / 256 % 256, (x.f1.length : Int) % 256]
def pairBytes (x : S55) : List Int := headOf x ++ x.f1
def bytesAll (l : List S55) : List Int := l.flatMap pairBytes
def digestL (l : List S55) : Int := fnvL 14695981039346656037 (bytesAll l)
def tot (l : List S55) : Nat := (bytesAll l).length
end Go.Proofs.Ytpekmdpbfjdjkaa.PAuditDigests
