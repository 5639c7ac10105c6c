/-
  DERIVED. GIVEN WITH THE SEED: THE CARDS: each row of YtphgjjmlnkgghaaGreatDoorRows.lean that lists a variable, with what it lists TIED to the program's text (the seventh form; the later family's looks); each row that meets fmt, with fmt's text TOLD by the authors' own Lean function (tested against real Go, not proved from fmt's source: count such statements apart). THE CARD IS WHAT COUNTS. Prove the row's statement (the work); the ties are given (YtphgjjmlnkgghaaGreatDoorTie.lean); close each card by the builder's one call (the guide's Derived/Test/ToyasCard.lean, 'card_holds'). Laid BY PROGRAM, IN A SANDBOX (cutbox-door.mjs). By AI agents, Wed Nov 11 2026. No macro, syntax, notation, axiom, sorry.
-/
import Derived.Test.YtphgjjmlnkgghaaGreatDoorRows
import GoSem.ClaimSeven
namespace Go.Proofs.YtphgjjmlnkgghaaGreatDoor
namespace Rows

/-- THE TIED CARD OF 'crocuslaw08.FakeRead'. -/
def fakeReadCard : Claim7 := { stood := { row := fakeReadRow, standIns := [], harness := (true, "64c05d2246e4d379d7c851f58b7b5f5719ef82ed1ca4210b0e7462fe21a2bfab"), looks := false }, kinds := [], alts := [], goes := true, laidByText := true, laidKinds := [.funcs, .data], laidTests := true, laidLooks := .later }
def FakeReadCardSaid : Prop := Claim7.holds Tryz.pinned (.plain (OpenSpec.ofChange fakeReadSpec)) fakeReadCard

/-- THE TIED CARD OF 'crocuslaw08.FakeWet'. -/
def fakeWetCard : Claim7 := { stood := { row := fakeWetRow, standIns := [], harness := (true, "64c05d2246e4d379d7c851f58b7b5f5719ef82ed1ca4210b0e7462fe21a2bfab"), looks := false }, kinds := [], alts := [], goes := true, laidByText := true, laidKinds := [.funcs, .data], laidTests := true, laidLooks := .later }
def FakeWetCardSaid : Prop := Claim7.holds Tryz.pinned (.plain (OpenSpec.ofChange fakeWetSpec)) fakeWetCard

/-- THE TIED CARD OF 'crocuslaw08.FakeThreads'. -/
def fakeThreadsCard : Claim7 := { stood := { row := fakeThreadsRow, standIns := [], harness := (true, "64c05d2246e4d379d7c851f58b7b5f5719ef82ed1ca4210b0e7462fe21a2bfab"), looks := false }, kinds := [], alts := [], goes := true, laidByText := true, laidKinds := [.funcs, .data], laidTests := true, laidLooks := .later }
def FakeThreadsCardSaid : Prop := Claim7.holds Tryz.pinned (.plain (OpenSpec.ofChange fakeThreadsSpec)) fakeThreadsCard

/-- THE TIED CARD OF 'crocuslaw08.FakeTurns'. -/
def fakeTurnsCard : Claim7 := { stood := { row := fakeTurnsRow, standIns := [], harness := (true, "64c05d2246e4d379d7c851f58b7b5f5719ef82ed1ca4210b0e7462fe21a2bfab"), looks := false }, kinds := [], alts := [], goes := true, laidByText := true, laidKinds := [.funcs, .data, .funcs], laidTests := true, laidLooks := .later }
def FakeTurnsCardSaid : Prop := Claim7.holds Tryz.pinned (.plain (OpenSpec.ofChange fakeTurnsSpec)) fakeTurnsCard

/-- THE SECOND FORM's CARD OF 'crocuslaw08.FakeRead'. -/
def fakeReadUptoCard : Claim7 := { stood := { row := fakeReadUptoRow, standIns := [], harness := (true, "64c05d2246e4d379d7c851f58b7b5f5719ef82ed1ca4210b0e7462fe21a2bfab"), looks := false }, kinds := [], alts := [], goes := true, laidByText := true, laidKinds := [.funcs, .data], laidTests := true, laidLooks := .later }
def FakeReadUptoCardSaid : Prop := Claim7.holds Tryz.pinned (.plain (OpenSpec.upto fakeReadSpec)) fakeReadUptoCard

/-- THE SECOND FORM's CARD OF 'crocuslaw08.FakeWet'. -/
def fakeWetUptoCard : Claim7 := { stood := { row := fakeWetUptoRow, standIns := [], harness := (true, "64c05d2246e4d379d7c851f58b7b5f5719ef82ed1ca4210b0e7462fe21a2bfab"), looks := false }, kinds := [], alts := [], goes := true, laidByText := true, laidKinds := [.funcs, .data], laidTests := true, laidLooks := .later }
def FakeWetUptoCardSaid : Prop := Claim7.holds Tryz.pinned (.plain (OpenSpec.upto fakeWetSpec)) fakeWetUptoCard

/-- THE SECOND FORM's CARD OF 'crocuslaw08.FakeThreads'. -/
def fakeThreadsUptoCard : Claim7 := { stood := { row := fakeThreadsUptoRow, standIns := [], harness := (true, "64c05d2246e4d379d7c851f58b7b5f5719ef82ed1ca4210b0e7462fe21a2bfab"), looks := false }, kinds := [], alts := [], goes := true, laidByText := true, laidKinds := [.funcs, .data], laidTests := true, laidLooks := .later }
def FakeThreadsUptoCardSaid : Prop := Claim7.holds Tryz.pinned (.plain (OpenSpec.upto fakeThreadsSpec)) fakeThreadsUptoCard

/-- THE SECOND FORM's CARD OF 'crocuslaw08.FakeTurns'. -/
def fakeTurnsUptoCard : Claim7 := { stood := { row := fakeTurnsUptoRow, standIns := [], harness := (true, "64c05d2246e4d379d7c851f58b7b5f5719ef82ed1ca4210b0e7462fe21a2bfab"), looks := false }, kinds := [], alts := [], goes := true, laidByText := true, laidKinds := [.funcs, .data, .funcs], laidTests := true, laidLooks := .later }
def FakeTurnsUptoCardSaid : Prop := Claim7.holds Tryz.pinned (.plain (OpenSpec.upto fakeTurnsSpec)) fakeTurnsUptoCard
end Rows
end Go.Proofs.YtphgjjmlnkgghaaGreatDoor
