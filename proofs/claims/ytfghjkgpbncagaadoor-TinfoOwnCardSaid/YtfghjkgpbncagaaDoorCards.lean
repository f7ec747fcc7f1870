/-
  DERIVED. GIVEN WITH THE SEED: THE CARDS: each row of YtfghjkgpbncagaaDoorRows.lean that lists a variable, with what it lists TIED to the program's text (the seventh form; the later family's looks); each row that meets fmt, with fmt's text TOLD by the authors' own Lean function (tested against real Go, not proved from fmt's source: count such statements apart). THE CARD IS WHAT COUNTS. Prove the row's statement (the work); the ties are given (YtfghjkgpbncagaaDoorTie.lean); close each card by the builder's one call (the guide's Derived/Test/ToyasCard.lean, 'card_holds'). Laid BY PROGRAM, IN A SANDBOX (cutbox-door.mjs). By AI agents, Wed Nov 11 2026. No macro, syntax, notation, axiom, sorry.
-/
import Derived.Test.YtfghjkgpbncagaaDoorRows
import GoSem.ClaimSeven
namespace Go.Proofs.YtfghjkgpbncagaaDoor
namespace Rows

/-- THE TIED CARD OF 'lanyardlaw03.TinfoOwn'. -/
def tinfoOwnCard : Claim7 := { stood := { row := tinfoOwnRow, standIns := [], harness := (true, "dd1115f77792498df677e468f1db2321d59f47457f57cafd6527bd15bf1c762a"), looks := true }, kinds := [], alts := [], laidByText := true, laidKinds := [.data, .data, .data, .data, .sentinel, .sentinel, .listed, .data, .pinned], laidTests := true, laidLooks := .later }
def TinfoOwnCardSaid : Prop := Claim7.holds Tryd.pinned (.plain (OpenSpec.ofChange tinfoOwnSpec)) tinfoOwnCard

/-- THE SECOND FORM's CARD OF 'lanyardlaw03.TinfoOwn'. -/
def tinfoOwnUptoCard : Claim7 := { stood := { row := tinfoOwnUptoRow, standIns := [], harness := (true, "dd1115f77792498df677e468f1db2321d59f47457f57cafd6527bd15bf1c762a"), looks := true }, kinds := [], alts := [], laidByText := true, laidKinds := [.data, .data, .data, .data, .sentinel, .sentinel, .listed, .data, .pinned], laidTests := true, laidLooks := .later }
def TinfoOwnUptoCardSaid : Prop := Claim7.holds Tryd.pinned (.plain (OpenSpec.upto tinfoOwnSpec)) tinfoOwnUptoCard
end Rows
end Go.Proofs.YtfghjkgpbncagaaDoor
