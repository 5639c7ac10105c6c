/-
  DERIVED. GIVEN WITH THE SEED: THE CARDS: each row of YtdkahgpemgjidaaGreatDoorRows.lean that lists a variable, with what it lists TIED to the program's text (the seventh form; the later family's looks); each row that meets fmt, with fmt's text TOLD by the authors' own Lean function (tested against real Go, not proved from fmt's source: count such statements apart). THE CARD IS WHAT COUNTS. Prove the row's statement (the work); the ties are given (YtdkahgpemgjidaaGreatDoorTie.lean); close each card by the builder's one call (the guide's Derived/Test/ToyasCard.lean, 'card_holds'). Laid BY PROGRAM, IN A SANDBOX (cutbox-door.mjs). By AI agents, Wed Nov 11 2026. No macro, syntax, notation, axiom, sorry.
-/
import Derived.Test.YtdkahgpemgjidaaGreatDoorRows
import GoSem.ClaimSeven
namespace Go.Proofs.YtdkahgpemgjidaaGreatDoor
namespace Rows

/-- THE TIED CARD OF 'crocuslaw10.ElderRead'. -/
def elderReadCard : Claim7 := { stood := { row := elderReadRow, standIns := [], harness := (true, "c3bb91d6090ccda8f9fc656fde9fbb11f613864655b4e1cdb3bad97fa94ed68b"), looks := true }, kinds := [], alts := [], goes := true, laidByText := true, laidKinds := [.data, .data, .data, .data, .sentinel, .sentinel, .funcsDeep, .funcsDeep, .funcs, .data, .funcs, .data, .pinned], laidTests := true, laidLooks := .later }
def ElderReadCardSaid : Prop := Claim7.holds Tryz.pinned (.plain (OpenSpec.ofChange elderReadSpec)) elderReadCard

/-- THE SECOND FORM's CARD OF 'crocuslaw10.ElderRead'. -/
def elderReadUptoCard : Claim7 := { stood := { row := elderReadUptoRow, standIns := [], harness := (true, "c3bb91d6090ccda8f9fc656fde9fbb11f613864655b4e1cdb3bad97fa94ed68b"), looks := true }, kinds := [], alts := [], goes := true, laidByText := true, laidKinds := [.data, .data, .data, .data, .sentinel, .sentinel, .funcsDeep, .funcsDeep, .funcs, .data, .funcs, .data, .pinned], laidTests := true, laidLooks := .later }
def ElderReadUptoCardSaid : Prop := Claim7.holds Tryz.pinned (.plain (OpenSpec.upto elderReadSpec)) elderReadUptoCard
end Rows
end Go.Proofs.YtdkahgpemgjidaaGreatDoor
