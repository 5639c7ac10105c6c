/-
  DERIVED. GIVEN WITH THE SEED: THE CARDS: each row of YtekhlbdfjkndnaaGreatDoorRows.lean that lists a variable, with what it lists TIED to the program's text (the seventh form; the later family's looks); each row that meets fmt, with fmt's text TOLD by the authors' own Lean function (tested against real Go, not proved from fmt's source: count such statements apart). THE CARD IS WHAT COUNTS. Prove the row's statement (the work); the ties are given (YtekhlbdfjkndnaaGreatDoorTie.lean); close each card by the builder's one call (the guide's Derived/Test/ToyasCard.lean, 'card_holds'). Laid BY PROGRAM, IN A SANDBOX (cutbox-door.mjs). By AI agents, Wed Nov 11 2026. No macro, syntax, notation, axiom, sorry.
-/
import Derived.Test.YtekhlbdfjkndnaaGreatDoorRows
import GoSem.ClaimSeven
namespace Go.Proofs.YtekhlbdfjkndnaaGreatDoor
namespace Rows

/-- THE TIED CARD OF 'crocuslaw10.ElderEnds'. -/
def elderEndsCard : Claim7 := { stood := { row := elderEndsRow, standIns := [], harness := (true, "3dd740a78d42a0580a7099bf8da84210d2e96bbe97b1f6fc73161ea9754fcb6b"), looks := true }, kinds := [], alts := [], goes := true, laidByText := true, laidKinds := [.data, .data, .data, .data, .sentinel, .sentinel, .funcsDeep, .funcsDeep, .funcs, .data, .funcs, .data, .pinned], laidTests := true, laidLooks := .later }
def ElderEndsCardSaid : Prop := Claim7.holds Tryz.pinned (.plain (OpenSpec.ofChange elderEndsSpec)) elderEndsCard

/-- THE TIED CARD OF 'crocuslaw10.ElderRecall'. -/
def elderRecallCard : Claim7 := { stood := { row := elderRecallRow, standIns := [], harness := (true, "3dd740a78d42a0580a7099bf8da84210d2e96bbe97b1f6fc73161ea9754fcb6b"), looks := true }, kinds := [], alts := [], goes := true, laidByText := true, laidKinds := [.data, .data, .data, .data, .sentinel, .sentinel, .funcsDeep, .funcsDeep, .funcs, .data, .funcs, .data, .pinned], laidTests := true, laidLooks := .later }
def ElderRecallCardSaid : Prop := Claim7.holds Tryz.pinned (.plain (OpenSpec.ofChange elderRecallSpec)) elderRecallCard

/-- THE TIED CARD OF 'crocuslaw10.ElderTraced'. -/
def elderTracedCard : Claim7 := { stood := { row := elderTracedRow, standIns := [], harness := (true, "3dd740a78d42a0580a7099bf8da84210d2e96bbe97b1f6fc73161ea9754fcb6b"), looks := true }, kinds := [], alts := [], goes := true, laidByText := true, laidKinds := [.data, .data, .data, .data, .sentinel, .sentinel, .funcsDeep, .funcsDeep, .funcs, .data, .funcs, .data, .pinned], laidTests := true, laidLooks := .later }
def ElderTracedCardSaid : Prop := Claim7.holds Tryz.pinned (.plain (OpenSpec.ofChange elderTracedSpec)) elderTracedCard

/-- THE SECOND FORM's CARD OF 'crocuslaw10.ElderEnds'. -/
def elderEndsUptoCard : Claim7 := { stood := { row := elderEndsUptoRow, standIns := [], harness := (true, "3dd740a78d42a0580a7099bf8da84210d2e96bbe97b1f6fc73161ea9754fcb6b"), looks := true }, kinds := [], alts := [], goes := true, laidByText := true, laidKinds := [.data, .data, .data, .data, .sentinel, .sentinel, .funcsDeep, .funcsDeep, .funcs, .data, .funcs, .data, .pinned], laidTests := true, laidLooks := .later }
def ElderEndsUptoCardSaid : Prop := Claim7.holds Tryz.pinned (.plain (OpenSpec.upto elderEndsSpec)) elderEndsUptoCard

/-- THE SECOND FORM's CARD OF 'crocuslaw10.ElderRecall'. -/
def elderRecallUptoCard : Claim7 := { stood := { row := elderRecallUptoRow, standIns := [], harness := (true, "3dd740a78d42a0580a7099bf8da84210d2e96bbe97b1f6fc73161ea9754fcb6b"), looks := true }, kinds := [], alts := [], goes := true, laidByText := true, laidKinds := [.data, .data, .data, .data, .sentinel, .sentinel, .funcsDeep, .funcsDeep, .funcs, .data, .funcs, .data, .pinned], laidTests := true, laidLooks := .later }
def ElderRecallUptoCardSaid : Prop := Claim7.holds Tryz.pinned (.plain (OpenSpec.upto elderRecallSpec)) elderRecallUptoCard

/-- THE SECOND FORM's CARD OF 'crocuslaw10.ElderTraced'. -/
def elderTracedUptoCard : Claim7 := { stood := { row := elderTracedUptoRow, standIns := [], harness := (true, "3dd740a78d42a0580a7099bf8da84210d2e96bbe97b1f6fc73161ea9754fcb6b"), looks := true }, kinds := [], alts := [], goes := true, laidByText := true, laidKinds := [.data, .data, .data, .data, .sentinel, .sentinel, .funcsDeep, .funcsDeep, .funcs, .data, .funcs, .data, .pinned], laidTests := true, laidLooks := .later }
def ElderTracedUptoCardSaid : Prop := Claim7.holds Tryz.pinned (.plain (OpenSpec.upto elderTracedSpec)) elderTracedUptoCard
end Rows
end Go.Proofs.YtekhlbdfjkndnaaGreatDoor
