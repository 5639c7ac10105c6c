/-
  DERIVED. GIVEN WITH THE SEED: THE CARDS: each row of YtphgjjmlnkgghaaDoorRows.lean that lists a variable, with what it lists TIED to the program's text (the seventh form; the later family's looks); each row that meets fmt, with fmt's text TOLD by the authors' own Lean function (tested against real Go, not proved from fmt's source: count such statements apart). THE CARD IS WHAT COUNTS. Prove the row's statement (the work); the ties are given (YtphgjjmlnkgghaaDoorTie.lean); close each card by the builder's one call (the guide's Derived/Test/ToyasCard.lean, 'card_holds'). Laid BY PROGRAM, IN A SANDBOX (cutbox-door.mjs). By AI agents, Wed Nov 11 2026. No macro, syntax, notation, axiom, sorry.
-/
import Derived.Test.YtphgjjmlnkgghaaDoorRows
import GoSem.ClaimSeven
namespace Go.Proofs.YtphgjjmlnkgghaaDoor
namespace Rows

/-- THE TIED CARD OF 'crocuslaw08.FakePicked'. -/
def fakePickedCard : Claim7 := { stood := { row := fakePickedRow, standIns := [], harness := (true, "37b3dc11bbd1cbec803e64ce7911fc5abd3693f9f178cbf906c86570a2242a22"), looks := true }, kinds := [], alts := [], goes := true, laidByText := true, laidKinds := [.funcs, .data, .funcs, .data], laidTests := true, laidLooks := .later }
def FakePickedCardSaid : Prop := Claim7.holds Tryd.pinned (.plain (OpenSpec.ofChange fakePickedSpec)) fakePickedCard

/-- THE SECOND FORM's CARD OF 'crocuslaw08.FakePicked'. -/
def fakePickedUptoCard : Claim7 := { stood := { row := fakePickedUptoRow, standIns := [], harness := (true, "37b3dc11bbd1cbec803e64ce7911fc5abd3693f9f178cbf906c86570a2242a22"), looks := true }, kinds := [], alts := [], goes := true, laidByText := true, laidKinds := [.funcs, .data, .funcs, .data], laidTests := true, laidLooks := .later }
def FakePickedUptoCardSaid : Prop := Claim7.holds Tryd.pinned (.plain (OpenSpec.upto fakePickedSpec)) fakePickedUptoCard
end Rows
end Go.Proofs.YtphgjjmlnkgghaaDoor
