/-
  DERIVED. GIVEN WITH THE SEED: THE CARDS: each row of YtjobkhfmoammdaaGreatDoorRows.lean that lists a variable, with what it lists TIED to the program's text (the seventh form; the later family's looks); each row that meets fmt, with fmt's text TOLD by the authors' own Lean function (tested against real Go, not proved from fmt's source: count such statements apart). THE CARD IS WHAT COUNTS. Prove the row's statement (the work); the ties are given (YtjobkhfmoammdaaGreatDoorTie.lean); close each card by the builder's one call (the guide's Derived/Test/ToyasCard.lean, 'card_holds'). Laid BY PROGRAM, IN A SANDBOX (cutbox-door.mjs). By AI agents, Wed Nov 11 2026. No macro, syntax, notation, axiom, sorry.
-/
import Derived.Test.YtjobkhfmoammdaaGreatDoorRows
import GoSem.ClaimSeven
namespace Go.Proofs.YtjobkhfmoammdaaGreatDoor
namespace Rows

/-- THE TIED CARD OF 'lanyardlaw03.TinfoReads'. -/
def tinfoReadsCard : Claim7 := { stood := { row := tinfoReadsRow, standIns := [], harness := (true, "657ffb0eb1fd1162af4defa19701606bfde77b3aee9391263cedf2e6753f214b"), looks := true }, kinds := [], alts := [], laidByText := true, laidKinds := [.data, .data, .data, .data, .sentinel, .sentinel, .listed, .data, .pinned], laidTests := true, laidLooks := .later }
def TinfoReadsCardSaid : Prop := Claim7.holds Tryz.pinned (.plain (OpenSpec.ofChange tinfoReadsSpec)) tinfoReadsCard

/-- THE SECOND FORM's CARD OF 'lanyardlaw03.TinfoReads'. -/
def tinfoReadsUptoCard : Claim7 := { stood := { row := tinfoReadsUptoRow, standIns := [], harness := (true, "657ffb0eb1fd1162af4defa19701606bfde77b3aee9391263cedf2e6753f214b"), looks := true }, kinds := [], alts := [], laidByText := true, laidKinds := [.data, .data, .data, .data, .sentinel, .sentinel, .listed, .data, .pinned], laidTests := true, laidLooks := .later }
def TinfoReadsUptoCardSaid : Prop := Claim7.holds Tryz.pinned (.plain (OpenSpec.upto tinfoReadsSpec)) tinfoReadsUptoCard
end Rows
end Go.Proofs.YtjobkhfmoammdaaGreatDoor
