/-
  DERIVED. GIVEN WITH THE SEED: THE CARDS: each row of YtjdkajkimeainaaGreatDoorRows.lean that lists a variable, with what it lists TIED to the program's text (the seventh form; the later family's looks); each row that meets fmt, with fmt's text TOLD by the authors' own Lean function (tested against real Go, not proved from fmt's source: count such statements apart). THE CARD IS WHAT COUNTS. Prove the row's statement (the work); the ties are given (YtjdkajkimeainaaGreatDoorTie.lean); close each card by the builder's one call (the guide's Derived/Test/ToyasCard.lean, 'card_holds'). Laid BY PROGRAM, IN A SANDBOX (cutbox-door.mjs). By AI agents, Wed Nov 11 2026. No macro, syntax, notation, axiom, sorry.
-/
import Derived.Test.YtjdkajkimeainaaGreatDoorRows
import GoSem.ClaimSeven
namespace Go.Proofs.YtjdkajkimeainaaGreatDoor
namespace Rows

/-- THE TIED CARD OF 'crocuslaw10.ElderFiles'. -/
def elderFilesCard : Claim7 := { stood := { row := elderFilesRow, standIns := [], harness := (true, "c01632f961e1a4c54b285fdc16073769fbf40a9317185013ba076738ae046c28"), looks := true }, kinds := [], alts := [], goes := true, laidByText := true, laidKinds := [.data, .data, .data, .data, .sentinel, .sentinel, .funcsDeep, .funcsDeep, .funcs, .data, .funcs, .data, .pinned], laidTests := true, laidLooks := .later }
def ElderFilesCardSaid : Prop := Claim7.holds Tryz.pinned (.plain (OpenSpec.ofChange elderFilesSpec)) elderFilesCard

/-- THE TIED CARD OF 'crocuslaw10.ElderFlip'. -/
def elderFlipCard : Claim7 := { stood := { row := elderFlipRow, standIns := [], harness := (true, "c01632f961e1a4c54b285fdc16073769fbf40a9317185013ba076738ae046c28"), looks := true }, kinds := [], alts := [], goes := true, laidByText := true, laidKinds := [.data, .data, .data, .data, .sentinel, .sentinel, .funcsDeep, .funcsDeep, .funcs, .data, .funcs, .data, .pinned], laidTests := true, laidLooks := .later }
def ElderFlipCardSaid : Prop := Claim7.holds Tryz.pinned (.plain (OpenSpec.ofChange elderFlipSpec)) elderFlipCard

/-- THE TIED CARD OF 'crocuslaw10.ElderOnly'. -/
def elderOnlyCard : Claim7 := { stood := { row := elderOnlyRow, standIns := [], harness := (true, "c01632f961e1a4c54b285fdc16073769fbf40a9317185013ba076738ae046c28"), looks := true }, kinds := [], alts := [], goes := true, laidByText := true, laidKinds := [.data, .data, .data, .data, .sentinel, .sentinel, .funcsDeep, .funcsDeep, .funcs, .data, .funcs, .data, .pinned], laidTests := true, laidLooks := .later }
def ElderOnlyCardSaid : Prop := Claim7.holds Tryz.pinned (.plain (OpenSpec.ofChange elderOnlySpec)) elderOnlyCard

/-- THE SECOND FORM's CARD OF 'crocuslaw10.ElderFiles'. -/
def elderFilesUptoCard : Claim7 := { stood := { row := elderFilesUptoRow, standIns := [], harness := (true, "c01632f961e1a4c54b285fdc16073769fbf40a9317185013ba076738ae046c28"), looks := true }, kinds := [], alts := [], goes := true, laidByText := true, laidKinds := [.data, .data, .data, .data, .sentinel, .sentinel, .funcsDeep, .funcsDeep, .funcs, .data, .funcs, .data, .pinned], laidTests := true, laidLooks := .later }
def ElderFilesUptoCardSaid : Prop := Claim7.holds Tryz.pinned (.plain (OpenSpec.upto elderFilesSpec)) elderFilesUptoCard

/-- THE SECOND FORM's CARD OF 'crocuslaw10.ElderFlip'. -/
def elderFlipUptoCard : Claim7 := { stood := { row := elderFlipUptoRow, standIns := [], harness := (true, "c01632f961e1a4c54b285fdc16073769fbf40a9317185013ba076738ae046c28"), looks := true }, kinds := [], alts := [], goes := true, laidByText := true, laidKinds := [.data, .data, .data, .data, .sentinel, .sentinel, .funcsDeep, .funcsDeep, .funcs, .data, .funcs, .data, .pinned], laidTests := true, laidLooks := .later }
def ElderFlipUptoCardSaid : Prop := Claim7.holds Tryz.pinned (.plain (OpenSpec.upto elderFlipSpec)) elderFlipUptoCard

/-- THE SECOND FORM's CARD OF 'crocuslaw10.ElderOnly'. -/
def elderOnlyUptoCard : Claim7 := { stood := { row := elderOnlyUptoRow, standIns := [], harness := (true, "c01632f961e1a4c54b285fdc16073769fbf40a9317185013ba076738ae046c28"), looks := true }, kinds := [], alts := [], goes := true, laidByText := true, laidKinds := [.data, .data, .data, .data, .sentinel, .sentinel, .funcsDeep, .funcsDeep, .funcs, .data, .funcs, .data, .pinned], laidTests := true, laidLooks := .later }
def ElderOnlyUptoCardSaid : Prop := Claim7.holds Tryz.pinned (.plain (OpenSpec.upto elderOnlySpec)) elderOnlyUptoCard
end Rows
end Go.Proofs.YtjdkajkimeainaaGreatDoor
