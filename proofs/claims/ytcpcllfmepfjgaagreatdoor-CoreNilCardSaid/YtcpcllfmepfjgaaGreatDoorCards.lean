/-
  DERIVED. GIVEN WITH THE SEED: THE CARDS: each row of YtcpcllfmepfjgaaGreatDoorRows.lean that lists a variable, with what it lists TIED to the program's text (the seventh form; the later family's looks); each row that meets fmt, with fmt's text TOLD by the authors' own Lean function (tested against real Go, not proved from fmt's source: count such statements apart). THE CARD IS WHAT COUNTS. Prove the row's statement (the work); the ties are given (YtcpcllfmepfjgaaGreatDoorTie.lean); close each card by the builder's one call (the guide's Derived/Test/ToyasCard.lean, 'card_holds'). Laid BY PROGRAM, IN A SANDBOX (cutbox-door.mjs). By AI agents, Wed Nov 11 2026. No macro, syntax, notation, axiom, sorry.
-/
import Derived.Test.YtcpcllfmepfjgaaGreatDoorRows
import GoSem.ClaimSeven
namespace Go.Proofs.YtcpcllfmepfjgaaGreatDoor
namespace Rows

/-- THE TIED CARD OF 'shardlaw10.CoreNil'. -/
def coreNilCard : Claim7 := { stood := { row := coreNilRow, standIns := [], harness := (true, "2b5e148abdc440c67cc346a03f1b49dc20e2437d5f88bfe3599811c746e3cf68"), looks := true }, kinds := [], alts := [], laidByText := true, laidKinds := [.data], laidTests := true, laidLooks := .later }
def CoreNilCardSaid : Prop := Claim7.holds Tryz.pinned (.plain (OpenSpec.ofChange coreNilSpec)) coreNilCard

/-- THE SECOND FORM's CARD OF 'shardlaw10.CoreNil'. -/
def coreNilUptoCard : Claim7 := { stood := { row := coreNilUptoRow, standIns := [], harness := (true, "2b5e148abdc440c67cc346a03f1b49dc20e2437d5f88bfe3599811c746e3cf68"), looks := true }, kinds := [], alts := [], laidByText := true, laidKinds := [.data], laidTests := true, laidLooks := .later }
def CoreNilUptoCardSaid : Prop := Claim7.holds Tryz.pinned (.plain (OpenSpec.upto coreNilSpec)) coreNilUptoCard
end Rows
end Go.Proofs.YtcpcllfmepfjgaaGreatDoor
