/-
  No cell of these rows narrows 'for every input' (looked for: loops, veiled, ifaces, maps, wideKeys, modest, calm, conditions, laid).
  DERIVED. THE GIVEN ROWS OF THIS SEAT. 3 by the template 'for every input the law returns true; each argument reads behind the call as it read before'; 0 by the template 'total and deterministic' (their statements: YtpekmdpbfjdjkaaGreatTotals.lean).
  GIVEN WITH THE SEED: the statements are not yours to turn. If you find one false, say at which input.
  Laid BY PROGRAM, IN A SANDBOX (cutbox-rows.mjs): the forced cells as the released guide's own fill.sh prints them over the translation a68aea5cf2b25ce1… (all of the seat's roots in one cut). By AI agents, Wed Nov 11 2026. No macro, syntax, notation, axiom, sorry.
-/
import Derived.Test.YtpekmdpbfjdjkaaGreatChecked
import GoSem.Claim
import GoSem.ClaimJoined
import GoSem.ClaimMapViews
import Derived.JoinedTies
import Derived.KernelRfl
namespace Go.Proofs.YtpekmdpbfjdjkaaGreat
/- THE CELL 'sum', in the pinned program and in every row, IS THE sha256 OF THE DUMP (.gsa) THAT YtpekmdpbfjdjkaaGreatProg.lean LOADS. Nothing in Lean hashes anything: it is a label: what it is worth is what the hold of that sum in a sandbox is worth. -/
noncomputable def Tryz.pinned : Pinned := { name := "ytpekmdpbfjdjkaagreat", sum := "a68aea5cf2b25ce1fdd81fa58d3564813890660bd327d90e616d9929b5ab26d3", checked := Tryz.checked }
namespace Rows
def none {H : Type} : Left H := { results := [], args := [] }

/-- 'shardlaw10.CoreSaves': WHATEVER THE INPUT: true; the input reads as it did. -/
def coreSavesSpec : ChangeSpec := { name := "coreSaves", fn := fun _ => fun
  | [d] => { results := [.lit (.bool true)], args := [d] }
  | _ => none }
def coreSavesRow : OpenClaim := { program := "ytpekmdpbfjdjkaagreat", sum := "a68aea5cf2b25ce1fdd81fa58d3564813890660bd327d90e616d9929b5ab26d3", func := "shard/shardlaw10.CoreSaves", spec := "coreSaves", unfollowed := true, recurses := true, apart := false }
def CoreSavesSaid : Prop := coreSavesRow.holds Tryz.pinned (OpenSpec.ofChange coreSavesSpec)

/-- ITS FALSE NEIGHBOUR: 'it returns false'. Refute it at one input. -/
def coreSavesWrong : ChangeSpec := { name := "coreSaves", fn := fun _ => fun
  | [d] => { results := [.lit (.bool false)], args := [d] }
  | _ => none }
def CoreSavesWrongFalsely : Prop := coreSavesRow.holds Tryz.pinned (OpenSpec.ofChange coreSavesWrong)

/-- 'shardlaw10.CoreReads': WHATEVER THE INPUT: true; the input reads as it did. -/
def coreReadsSpec : ChangeSpec := { name := "coreReads", fn := fun _ => fun
  | [d] => { results := [.lit (.bool true)], args := [d] }
  | _ => none }
def coreReadsRow : OpenClaim := { program := "ytpekmdpbfjdjkaagreat", sum := "a68aea5cf2b25ce1fdd81fa58d3564813890660bd327d90e616d9929b5ab26d3", func := "shard/shardlaw10.CoreReads", spec := "coreReads", unfollowed := true, recurses := true, apart := false }
def CoreReadsSaid : Prop := coreReadsRow.holds Tryz.pinned (OpenSpec.ofChange coreReadsSpec)

/-- ITS FALSE NEIGHBOUR: 'it returns false'. Refute it at one input. -/
def coreReadsWrong : ChangeSpec := { name := "coreReads", fn := fun _ => fun
  | [d] => { results := [.lit (.bool false)], args := [d] }
  | _ => none }
def CoreReadsWrongFalsely : Prop := coreReadsRow.holds Tryz.pinned (OpenSpec.ofChange coreReadsWrong)

/-- 'shardlaw10.CoreAgain': WHATEVER THE INPUT: true; the input reads as it did. -/
def coreAgainSpec : ChangeSpec := { name := "coreAgain", fn := fun _ => fun
  | [d1, d2] => { results := [.lit (.bool true)], args := [d1, d2] }
  | _ => none }
def coreAgainRow : OpenClaim := { program := "ytpekmdpbfjdjkaagreat", sum := "a68aea5cf2b25ce1fdd81fa58d3564813890660bd327d90e616d9929b5ab26d3", func := "shard/shardlaw10.CoreAgain", spec := "coreAgain", unfollowed := true, recurses := true, apart := false }
def CoreAgainSaid : Prop := coreAgainRow.holds Tryz.pinned (OpenSpec.ofChange coreAgainSpec)

/-- ITS FALSE NEIGHBOUR: 'it returns false'. Refute it at one input. -/
def coreAgainWrong : ChangeSpec := { name := "coreAgain", fn := fun _ => fun
  | [d1, d2] => { results := [.lit (.bool false)], args := [d1, d2] }
  | _ => none }
def CoreAgainWrongFalsely : Prop := coreAgainRow.holds Tryz.pinned (OpenSpec.ofChange coreAgainWrong)

/- THE SECOND FORM. 'bulk': how many values and letters a reading holds, each counted each time it is reached (what is shared counts as often as it is met; a slice's spare places count too). A statement '..UptoSaid' is the law's where the arguments, and the package variables that the reading takes, are together of bulk at most 1048576: NARROWER than '..Said'. Prove '..Said' where nothing that the law and all that it calls make is longer than what came in: it says more and counts as full. Else prove '..UptoSaid'. A law counts once. -/
mutual
def uptoBulk {H : Type} : DataW H → Nat
  | .lit (.string bytes) => bytes.length + 1
  | .lit _ => 1
  | .nil => 1
  | .ptr d => uptoBulk d + 1
  | .slice elems spare => uptoBulkAll elems + uptoBulkAll spare + 1
  | .agg parts => uptoBulkAll parts + 1
  | .iface _ d => uptoBulk d + 1
  | .map entries => uptoBulkEntries entries + 1
  | .held _ => 1
def uptoBulkAll {H : Type} : List (DataW H) → Nat
  | [] => 0
  | d :: r => uptoBulk d + uptoBulkAll r
def uptoBulkEntries {H : Type} : List (Lit × DataW H) → Nat
  | [] => 0
  | x :: r => uptoBulkEntry x + uptoBulkEntries r
def uptoBulkEntry {H : Type} : Lit × DataW H → Nat
  | (.string bytes, d) => bytes.length + uptoBulk d + 1
  | (_, d) => uptoBulk d + 1
 end
def uptoSmall : (H : Type) → List (DataW H) → Bool := fun _ ds => decide (uptoBulkAll ds ≤ 1048576)
def OpenSpec.upto (s : _root_.Go.ChangeSpec) : _root_.Go.OpenSpec := { _root_.Go.OpenSpec.ofChange s with cond := some uptoSmall }

/-- 'shardlaw10.CoreSaves', WHERE WHAT IT READS IS OF BULK AT MOST 1048576: true; the input reads as it did. -/
def coreSavesUptoRow : OpenClaim := { program := "ytpekmdpbfjdjkaagreat", sum := "a68aea5cf2b25ce1fdd81fa58d3564813890660bd327d90e616d9929b5ab26d3", func := "shard/shardlaw10.CoreSaves", spec := "coreSaves", unfollowed := true, recurses := true, apart := false, narrowed := true }
def CoreSavesUptoSaid : Prop := coreSavesUptoRow.holds Tryz.pinned (OpenSpec.upto coreSavesSpec)

/-- 'shardlaw10.CoreReads', WHERE WHAT IT READS IS OF BULK AT MOST 1048576: true; the input reads as it did. -/
def coreReadsUptoRow : OpenClaim := { program := "ytpekmdpbfjdjkaagreat", sum := "a68aea5cf2b25ce1fdd81fa58d3564813890660bd327d90e616d9929b5ab26d3", func := "shard/shardlaw10.CoreReads", spec := "coreReads", unfollowed := true, recurses := true, apart := false, narrowed := true }
def CoreReadsUptoSaid : Prop := coreReadsUptoRow.holds Tryz.pinned (OpenSpec.upto coreReadsSpec)

/-- 'shardlaw10.CoreAgain', WHERE WHAT IT READS IS OF BULK AT MOST 1048576: true; the input reads as it did. -/
def coreAgainUptoRow : OpenClaim := { program := "ytpekmdpbfjdjkaagreat", sum := "a68aea5cf2b25ce1fdd81fa58d3564813890660bd327d90e616d9929b5ab26d3", func := "shard/shardlaw10.CoreAgain", spec := "coreAgain", unfollowed := true, recurses := true, apart := false, narrowed := true }
def CoreAgainUptoSaid : Prop := coreAgainUptoRow.holds Tryz.pinned (OpenSpec.upto coreAgainSpec)

end Rows
end Go.Proofs.YtpekmdpbfjdjkaaGreat
