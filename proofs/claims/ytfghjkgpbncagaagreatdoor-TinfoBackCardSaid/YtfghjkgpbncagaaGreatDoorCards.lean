/-
  DERIVED. GIVEN WITH THE SEED: THE CARDS: each row of YtfghjkgpbncagaaGreatDoorRows.lean that lists a variable, with what it lists TIED to the program's text (the seventh form; the later family's looks); each row that meets fmt, with fmt's text TOLD by the authors' own Lean function (tested against real Go, not proved from fmt's source: count such statements apart). THE CARD IS WHAT COUNTS. Prove the row's statement (the work); the ties are given (YtfghjkgpbncagaaGreatDoorTie.lean); close each card by the builder's one call (the guide's Derived/Test/ToyasCard.lean, 'card_holds'). Laid BY PROGRAM, IN A SANDBOX (cutbox-door.mjs). By AI agents, Wed Nov 11 2026. No macro, syntax, notation, axiom, sorry.
-/
import Derived.Test.YtfghjkgpbncagaaGreatDoorRows
import GoSem.ClaimSeven
namespace Go.Proofs.YtfghjkgpbncagaaGreatDoor
namespace Rows

/-- THE TIED CARD OF 'lanyardlaw03.TinfoBack'. -/
def tinfoBackCard : Claim7 := { stood := { row := tinfoBackRow, standIns := [], harness := (true, "4c0b51fc7c466142931adcee2f07ce1703f3a9a6e8ea0dc1c2c730dafa410e93"), looks := true }, kinds := [], alts := [], laidByText := true, laidKinds := [.data, .data, .data, .data, .sentinel, .sentinel, .listed, .data, .pinned], laidTests := true, laidLooks := .later }
def TinfoBackCardSaid : Prop := Claim7.holds Tryz.pinned (.plain (OpenSpec.ofChange tinfoBackSpec)) tinfoBackCard

/-- THE SECOND FORM's CARD OF 'lanyardlaw03.TinfoBack'. -/
def tinfoBackUptoCard : Claim7 := { stood := { row := tinfoBackUptoRow, standIns := [], harness := (true, "4c0b51fc7c466142931adcee2f07ce1703f3a9a6e8ea0dc1c2c730dafa410e93"), looks := true }, kinds := [], alts := [], laidByText := true, laidKinds := [.data, .data, .data, .data, .sentinel, .sentinel, .listed, .data, .pinned], laidTests := true, laidLooks := .later }
def TinfoBackUptoCardSaid : Prop := Claim7.holds Tryz.pinned (.plain (OpenSpec.upto tinfoBackSpec)) tinfoBackUptoCard
end Rows
end Go.Proofs.YtfghjkgpbncagaaGreatDoor
