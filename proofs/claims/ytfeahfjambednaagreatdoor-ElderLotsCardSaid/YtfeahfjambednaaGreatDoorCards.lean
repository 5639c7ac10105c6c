/-
  DERIVED. GIVEN WITH THE SEED: THE CARDS: each row of YtfeahfjambednaaGreatDoorRows.lean that lists a variable, with what it lists TIED to the program's text (the seventh form; the later family's looks); each row that meets fmt, with fmt's text TOLD by the authors' own Lean function (tested against real Go, not proved from fmt's source: count such statements apart). THE CARD IS WHAT COUNTS. Prove the row's statement (the work); the ties are given (YtfeahfjambednaaGreatDoorTie.lean); close each card by the builder's one call (the guide's Derived/Test/ToyasCard.lean, 'card_holds'). Laid BY PROGRAM, IN A SANDBOX (cutbox-door.mjs). By AI agents, Wed Nov 11 2026. No macro, syntax, notation, axiom, sorry.
-/
import Derived.Test.YtfeahfjambednaaGreatDoorRows
import GoSem.ClaimSeven
namespace Go.Proofs.YtfeahfjambednaaGreatDoor
namespace Rows

/-- THE TIED CARD OF 'crocuslaw10.ElderLabels'. -/
def elderLabelsCard : Claim7 := { stood := { row := elderLabelsRow, standIns := [], harness := (true, "a3702fbea552cbdf6945a663d06b3fd91340f273b8b4b9feded64c5d2fe98336"), looks := true }, kinds := [], alts := [], goes := true, laidByText := true, laidKinds := [.data, .data, .data, .data, .sentinel, .sentinel, .funcsDeep, .funcsDeep, .funcs, .data, .funcs, .data, .pinned], laidTests := true, laidLooks := .later }
def ElderLabelsCardSaid : Prop := Claim7.holds Tryz.pinned (.plain (OpenSpec.ofChange elderLabelsSpec)) elderLabelsCard

/-- THE TIED CARD OF 'crocuslaw10.ElderLots'. -/
def elderLotsCard : Claim7 := { stood := { row := elderLotsRow, standIns := [], harness := (true, "a3702fbea552cbdf6945a663d06b3fd91340f273b8b4b9feded64c5d2fe98336"), looks := true }, kinds := [], alts := [], goes := true, laidByText := true, laidKinds := [.data, .data, .data, .data, .sentinel, .sentinel, .funcsDeep, .funcsDeep, .funcs, .data, .funcs, .data, .pinned], laidTests := true, laidLooks := .later }
def ElderLotsCardSaid : Prop := Claim7.holds Tryz.pinned (.plain (OpenSpec.ofChange elderLotsSpec)) elderLotsCard

/-- THE TIED CARD OF 'crocuslaw10.ElderCut'. -/
def elderCutCard : Claim7 := { stood := { row := elderCutRow, standIns := [], harness := (true, "a3702fbea552cbdf6945a663d06b3fd91340f273b8b4b9feded64c5d2fe98336"), looks := true }, kinds := [], alts := [], goes := true, laidByText := true, laidKinds := [.data, .data, .data, .data, .sentinel, .sentinel, .funcsDeep, .funcsDeep, .funcs, .data, .funcs, .data, .pinned], laidTests := true, laidLooks := .later }
def ElderCutCardSaid : Prop := Claim7.holds Tryz.pinned (.plain (OpenSpec.ofChange elderCutSpec)) elderCutCard

/-- THE SECOND FORM's CARD OF 'crocuslaw10.ElderLabels'. -/
def elderLabelsUptoCard : Claim7 := { stood := { row := elderLabelsUptoRow, standIns := [], harness := (true, "a3702fbea552cbdf6945a663d06b3fd91340f273b8b4b9feded64c5d2fe98336"), looks := true }, kinds := [], alts := [], goes := true, laidByText := true, laidKinds := [.data, .data, .data, .data, .sentinel, .sentinel, .funcsDeep, .funcsDeep, .funcs, .data, .funcs, .data, .pinned], laidTests := true, laidLooks := .later }
def ElderLabelsUptoCardSaid : Prop := Claim7.holds Tryz.pinned (.plain (OpenSpec.upto elderLabelsSpec)) elderLabelsUptoCard

/-- THE SECOND FORM's CARD OF 'crocuslaw10.ElderLots'. -/
def elderLotsUptoCard : Claim7 := { stood := { row := elderLotsUptoRow, standIns := [], harness := (true, "a3702fbea552cbdf6945a663d06b3fd91340f273b8b4b9feded64c5d2fe98336"), looks := true }, kinds := [], alts := [], goes := true, laidByText := true, laidKinds := [.data, .data, .data, .data, .sentinel, .sentinel, .funcsDeep, .funcsDeep, .funcs, .data, .funcs, .data, .pinned], laidTests := true, laidLooks := .later }
def ElderLotsUptoCardSaid : Prop := Claim7.holds Tryz.pinned (.plain (OpenSpec.upto elderLotsSpec)) elderLotsUptoCard

/-- THE SECOND FORM's CARD OF 'crocuslaw10.ElderCut'. -/
def elderCutUptoCard : Claim7 := { stood := { row := elderCutUptoRow, standIns := [], harness := (true, "a3702fbea552cbdf6945a663d06b3fd91340f273b8b4b9feded64c5d2fe98336"), looks := true }, kinds := [], alts := [], goes := true, laidByText := true, laidKinds := [.data, .data, .data, .data, .sentinel, .sentinel, .funcsDeep, .funcsDeep, .funcs, .data, .funcs, .data, .pinned], laidTests := true, laidLooks := .later }
def ElderCutUptoCardSaid : Prop := Claim7.holds Tryz.pinned (.plain (OpenSpec.upto elderCutSpec)) elderCutUptoCard
end Rows
end Go.Proofs.YtfeahfjambednaaGreatDoor
