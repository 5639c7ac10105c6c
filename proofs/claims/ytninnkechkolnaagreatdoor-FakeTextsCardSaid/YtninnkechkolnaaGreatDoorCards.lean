/-
  DERIVED. GIVEN WITH THE SEED: THE CARDS: each row of YtninnkechkolnaaGreatDoorRows.lean that lists a variable, with what it lists TIED to the program's text (the seventh form; the later family's looks); each row that meets fmt, with fmt's text TOLD by the authors' own Lean function (tested against real Go, not proved from fmt's source: count such statements apart). THE CARD IS WHAT COUNTS. Prove the row's statement (the work); the ties are given (YtninnkechkolnaaGreatDoorTie.lean); close each card by the builder's one call (the guide's Derived/Test/ToyasCard.lean, 'card_holds'). Laid BY PROGRAM, IN A SANDBOX (cutbox-door.mjs). By AI agents, Wed Nov 11 2026. No macro, syntax, notation, axiom, sorry.
-/
import Derived.Test.YtninnkechkolnaaGreatDoorRows
import GoSem.ClaimSeven
namespace Go.Proofs.YtninnkechkolnaaGreatDoor
namespace Rows

/-- THE TIED CARD OF 'crocuslaw08.FakeTexts'. -/
def fakeTextsCard : Claim7 := { stood := { row := fakeTextsRow, standIns := [], harness := (true, "f62f098b50a9b0519b9ff2612b7c8f54850af9b60849ba474db4661544edbe2d"), looks := true }, kinds := [], alts := [], goes := true, laidByText := true, laidKinds := [.data, .data, .data, .data, .handle, .sentinel, .sentinel, .funcs, .data, .widerDeep, .pinned], laidTests := true, laidLooks := .later }
def FakeTextsCardSaid : Prop := Claim7.holds Tryz.pinned (.plain (OpenSpec.ofChange fakeTextsSpec)) fakeTextsCard

/-- THE TIED CARD OF 'crocuslaw08.FakeBack'. -/
def fakeBackCard : Claim7 := { stood := { row := fakeBackRow, standIns := [], harness := (true, "f62f098b50a9b0519b9ff2612b7c8f54850af9b60849ba474db4661544edbe2d"), looks := true }, kinds := [], alts := [], goes := true, laidByText := true, laidKinds := [.data, .data, .data, .data, .handle, .sentinel, .sentinel, .funcs, .data, .widerDeep, .pinned], laidTests := true, laidLooks := .later }
def FakeBackCardSaid : Prop := Claim7.holds Tryz.pinned (.plain (OpenSpec.ofChange fakeBackSpec)) fakeBackCard

/-- THE SECOND FORM's CARD OF 'crocuslaw08.FakeTexts'. -/
def fakeTextsUptoCard : Claim7 := { stood := { row := fakeTextsUptoRow, standIns := [], harness := (true, "f62f098b50a9b0519b9ff2612b7c8f54850af9b60849ba474db4661544edbe2d"), looks := true }, kinds := [], alts := [], goes := true, laidByText := true, laidKinds := [.data, .data, .data, .data, .handle, .sentinel, .sentinel, .funcs, .data, .widerDeep, .pinned], laidTests := true, laidLooks := .later }
def FakeTextsUptoCardSaid : Prop := Claim7.holds Tryz.pinned (.plain (OpenSpec.upto fakeTextsSpec)) fakeTextsUptoCard

/-- THE SECOND FORM's CARD OF 'crocuslaw08.FakeBack'. -/
def fakeBackUptoCard : Claim7 := { stood := { row := fakeBackUptoRow, standIns := [], harness := (true, "f62f098b50a9b0519b9ff2612b7c8f54850af9b60849ba474db4661544edbe2d"), looks := true }, kinds := [], alts := [], goes := true, laidByText := true, laidKinds := [.data, .data, .data, .data, .handle, .sentinel, .sentinel, .funcs, .data, .widerDeep, .pinned], laidTests := true, laidLooks := .later }
def FakeBackUptoCardSaid : Prop := Claim7.holds Tryz.pinned (.plain (OpenSpec.upto fakeBackSpec)) fakeBackUptoCard
end Rows
end Go.Proofs.YtninnkechkolnaaGreatDoor
