/-
  No cell of these rows narrows 'for every input' (looked for: loops, veiled, ifaces, maps, wideKeys, modest, calm, conditions, laid).
  DERIVED. THE GIVEN ROWS OF THIS SEAT. 2 by the template 'for every input the law returns true; each argument reads behind the call as it read before'; 0 by the template 'total and deterministic' (their statements: YtpekmdpbfjdjkaaTotals.lean).
  GIVEN WITH THE SEED: the statements are not yours to turn. If you find one false, say at which input.
  Laid BY PROGRAM, IN A SANDBOX (cutbox-rows.mjs): the forced cells as the released guide's own fill.sh prints them over the translation def55f0cbda34a69… (all of the seat's roots in one cut). By AI agents, Wed Nov 11 2026. No macro, syntax, notation, axiom, sorry.
-/
import Derived.Test.YtpekmdpbfjdjkaaChecked
import GoSem.Claim
import GoSem.ClaimJoined
import GoSem.ClaimMapViews
import Derived.JoinedTies
import Derived.KernelRfl
namespace Go.Proofs.Ytpekmdpbfjdjkaa
/- THE CELL 'sum', in the pinned program and in every row, IS THE sha256 OF THE DUMP (.gsa) THAT YtpekmdpbfjdjkaaProg.lean LOADS. Nothing in Lean hashes anything: it is a label: what it is worth is what the hold of that sum in a sandbox is worth. -/
noncomputable def Try.pinned : Pinned := { name := "ytpekmdpbfjdjkaa", sum := "def55f0cbda34a699be86602f6caa80843ff2a98b442dddd325e0eeed60296e9", checked := Try.checked }
namespace Rows
def none {H : Type} : Left H := { results := [], args := [] }

/-- 'shardlaw16.AuditDigests': WHATEVER THE INPUT: true; the input reads as it did. -/
def auditDigestsSpec : ChangeSpec := { name := "auditDigests", fn := fun _ => fun
  | [d] => { results := [.lit (.bool true)], args := [d] }
  | _ => none }
def auditDigestsRow : OpenClaim := { program := "ytpekmdpbfjdjkaa", sum := "def55f0cbda34a699be86602f6caa80843ff2a98b442dddd325e0eeed60296e9", func := "shard/shardlaw16.AuditDigests", spec := "auditDigests", apart := false }
def AuditDigestsSaid : Prop := auditDigestsRow.holds Try.pinned (OpenSpec.ofChange auditDigestsSpec)

/-- ITS FALSE NEIGHBOUR: 'it returns false'. Refute it at one input. -/
def auditDigestsWrong : ChangeSpec := { name := "auditDigests", fn := fun _ => fun
  | [d] => { results := [.lit (.bool false)], args := [d] }
  | _ => none }
def AuditDigestsWrongFalsely : Prop := auditDigestsRow.holds Try.pinned (OpenSpec.ofChange auditDigestsWrong)

/-- 'shardlaw10.CoreConfigs': WHATEVER THE INPUT: true; the input reads as it did. -/
def coreConfigsSpec : ChangeSpec := { name := "coreConfigs", fn := fun _ => fun
  | [d1, d2] => { results := [.lit (.bool true)], args := [d1, d2] }
  | _ => none }
def coreConfigsRow : OpenClaim := { program := "ytpekmdpbfjdjkaa", sum := "def55f0cbda34a699be86602f6caa80843ff2a98b442dddd325e0eeed60296e9", func := "shard/shardlaw10.CoreConfigs", spec := "coreConfigs", unfollowed := true, recurses := true, apart := false }
def CoreConfigsSaid : Prop := coreConfigsRow.holds Try.pinned (OpenSpec.ofChange coreConfigsSpec)

/-- ITS FALSE NEIGHBOUR: 'it returns false'. Refute it at one input. -/
def coreConfigsWrong : ChangeSpec := { name := "coreConfigs", fn := fun _ => fun
  | [d1, d2] => { results := [.lit (.bool false)], args := [d1, d2] }
  | _ => none }
def CoreConfigsWrongFalsely : Prop := coreConfigsRow.holds Try.pinned (OpenSpec.ofChange coreConfigsWrong)

/- THE SECOND FORM. 'bulk': how many values and letters a reading holds, each counted each time it is reached (what is shared counts as often as it is met; a slice's spare places count too). A statement '..UptoSaid' is the law's where the arguments, and the package variables that the reading takes, are together of bulk at most 1048576: NARROWER than '..Said'. Prove '..Said' where nothing that the law and all that it calls make is longer than what came in: it says more and counts as full. Else prove '..UptoSaid'. A law counts once. -/
mutual
def uptoBulk {H : Type} : DataW H → Nat
  | .lit (.string bytes) => bytes.length + 1
  | .lit _ => 1
  | .nil => 1
  | .ptr d => uptoBulk d + 1
  | .slice elems spare => uptoBulkAll elems + uptoBulkAll spare + 1
  | .agg parts => uptoBulkAll parts + 1
  | .iface _ d => uptoBulk d + 1
  | .map entries => uptoBulkEntries entries + 1
  | .held _ => 1
def uptoBulkAll {H : Type} : List (DataW H) → Nat
  | [] => 0
  | d :: r => uptoBulk d + uptoBulkAll r
def uptoBulkEntries {H : Type} : List (Lit × DataW H) → Nat
  | [] => 0
  | x :: r => uptoBulkEntry x + uptoBulkEntries r
def uptoBulkEntry {H : Type} : Lit × DataW H → Nat
  | (.string bytes, d) => bytes.length + uptoBulk d + 1
  | (_, d) => uptoBulk d + 1
 end
def uptoSmall : (H : Type) → List (DataW H) → Bool := fun _ ds => decide (uptoBulkAll ds ≤ 1048576)
def OpenSpec.upto (s : _root_.Go.ChangeSpec) : _root_.Go.OpenSpec := { _root_.Go.OpenSpec.ofChange s with cond := some uptoSmall }

/-- 'shardlaw16.AuditDigests', WHERE WHAT IT READS IS OF BULK AT MOST 1048576: true; the input reads as it did. -/
def auditDigestsUptoRow : OpenClaim := { program := "ytpekmdpbfjdjkaa", sum := "def55f0cbda34a699be86602f6caa80843ff2a98b442dddd325e0eeed60296e9", func := "shard/shardlaw16.AuditDigests", spec := "auditDigests", apart := false, narrowed := true }
def AuditDigestsUptoSaid : Prop := auditDigestsUptoRow.holds Try.pinned (OpenSpec.upto auditDigestsSpec)

/-- 'shardlaw10.CoreConfigs', WHERE WHAT IT READS IS OF BULK AT MOST 1048576: true; the input reads as it did. -/
def coreConfigsUptoRow : OpenClaim := { program := "ytpekmdpbfjdjkaa", sum := "def55f0cbda34a699be86602f6caa80843ff2a98b442dddd325e0eeed60296e9", func := "shard/shardlaw10.CoreConfigs", spec := "coreConfigs", unfollowed := true, recurses := true, apart := false, narrowed := true }
def CoreConfigsUptoSaid : Prop := coreConfigsUptoRow.holds Try.pinned (OpenSpec.upto coreConfigsSpec)

end Rows
end Go.Proofs.Ytpekmdpbfjdjkaa
