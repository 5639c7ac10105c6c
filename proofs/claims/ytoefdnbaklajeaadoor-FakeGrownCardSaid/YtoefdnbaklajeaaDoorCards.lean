/-
  DERIVED. GIVEN WITH THE SEED: THE CARDS: each row of YtoefdnbaklajeaaDoorRows.lean that lists a variable, with what it lists TIED to the program's text (the seventh form; the later family's looks); each row that meets fmt, with fmt's text TOLD by the authors' own Lean function (tested against real Go, not proved from fmt's source: count such statements apart). THE CARD IS WHAT COUNTS. Prove the row's statement (the work); the ties are given (YtoefdnbaklajeaaDoorTie.lean); close each card by the builder's one call (the guide's Derived/Test/ToyasCard.lean, 'card_holds'). Laid BY PROGRAM, IN A SANDBOX (cutbox-door.mjs). By AI agents, Wed Nov 11 2026. No macro, syntax, notation, axiom, sorry.
-/
import Derived.Test.YtoefdnbaklajeaaDoorRows
import GoSem.ClaimSeven
namespace Go.Proofs.YtoefdnbaklajeaaDoor
namespace Rows

/-- THE TIED CARD OF 'crocuslaw08.FakeFields'. -/
def fakeFieldsCard : Claim7 := { stood := { row := fakeFieldsRow, standIns := [], harness := (true, "5ad7a6b1106c4d9dff1ffa762e242e88c7338921ee0cf2e26581c2f653fcb6c6"), looks := false }, kinds := [], alts := [], goes := true, laidByText := true, laidKinds := [.funcs, .data], laidTests := true, laidLooks := .later }
def FakeFieldsCardSaid : Prop := Claim7.holds Tryd.pinned (.plain (OpenSpec.ofChange fakeFieldsSpec)) fakeFieldsCard

/-- THE TIED CARD OF 'crocuslaw08.FakeMore'. -/
def fakeMoreCard : Claim7 := { stood := { row := fakeMoreRow, standIns := [], harness := (true, "5ad7a6b1106c4d9dff1ffa762e242e88c7338921ee0cf2e26581c2f653fcb6c6"), looks := false }, kinds := [], alts := [], goes := true, laidByText := true, laidKinds := [.funcs, .data], laidTests := true, laidLooks := .later }
def FakeMoreCardSaid : Prop := Claim7.holds Tryd.pinned (.plain (OpenSpec.ofChange fakeMoreSpec)) fakeMoreCard

/-- THE TIED CARD OF 'crocuslaw08.FakeCheats'. -/
def fakeCheatsCard : Claim7 := { stood := { row := fakeCheatsRow, standIns := [], harness := (true, "5ad7a6b1106c4d9dff1ffa762e242e88c7338921ee0cf2e26581c2f653fcb6c6"), looks := false }, kinds := [], alts := [], goes := true, laidByText := true, laidKinds := [.funcs, .data], laidTests := true, laidLooks := .later }
def FakeCheatsCardSaid : Prop := Claim7.holds Tryd.pinned (.plain (OpenSpec.ofChange fakeCheatsSpec)) fakeCheatsCard

/-- THE TIED CARD OF 'crocuslaw08.FakeGrown'. -/
def fakeGrownCard : Claim7 := { stood := { row := fakeGrownRow, standIns := [], harness := (true, "5ad7a6b1106c4d9dff1ffa762e242e88c7338921ee0cf2e26581c2f653fcb6c6"), looks := false }, kinds := [], alts := [], goes := true, laidByText := true, laidKinds := [.funcs, .data], laidTests := true, laidLooks := .later }
def FakeGrownCardSaid : Prop := Claim7.holds Tryd.pinned (.plain (OpenSpec.ofChange fakeGrownSpec)) fakeGrownCard

/-- THE TIED CARD OF 'crocuslaw08.FakeOrigin'. -/
def fakeOriginCard : Claim7 := { stood := { row := fakeOriginRow, standIns := [], harness := (true, "5ad7a6b1106c4d9dff1ffa762e242e88c7338921ee0cf2e26581c2f653fcb6c6"), looks := false }, kinds := [], alts := [], goes := true, laidByText := true, laidKinds := [.funcs, .data], laidTests := true, laidLooks := .later }
def FakeOriginCardSaid : Prop := Claim7.holds Tryd.pinned (.plain (OpenSpec.ofChange fakeOriginSpec)) fakeOriginCard

/-- THE TIED CARD OF 'crocuslaw08.FakeBeliefs'. -/
def fakeBeliefsCard : Claim7 := { stood := { row := fakeBeliefsRow, standIns := [], harness := (true, "5ad7a6b1106c4d9dff1ffa762e242e88c7338921ee0cf2e26581c2f653fcb6c6"), looks := false }, kinds := [], alts := [], goes := true, laidByText := true, laidKinds := [.funcs, .data], laidTests := true, laidLooks := .later }
def FakeBeliefsCardSaid : Prop := Claim7.holds Tryd.pinned (.plain (OpenSpec.ofChange fakeBeliefsSpec)) fakeBeliefsCard

/-- THE TIED CARD OF 'crocuslaw08.FakeSales'. -/
def fakeSalesCard : Claim7 := { stood := { row := fakeSalesRow, standIns := [], harness := (true, "5ad7a6b1106c4d9dff1ffa762e242e88c7338921ee0cf2e26581c2f653fcb6c6"), looks := false }, kinds := [], alts := [], goes := true, laidByText := true, laidKinds := [.funcs, .data], laidTests := true, laidLooks := .later }
def FakeSalesCardSaid : Prop := Claim7.holds Tryd.pinned (.plain (OpenSpec.ofChange fakeSalesSpec)) fakeSalesCard

/-- THE TIED CARD OF 'crocuslaw08.FakeTrue'. -/
def fakeTrueCard : Claim7 := { stood := { row := fakeTrueRow, standIns := [], harness := (true, "5ad7a6b1106c4d9dff1ffa762e242e88c7338921ee0cf2e26581c2f653fcb6c6"), looks := false }, kinds := [], alts := [], goes := true, laidByText := true, laidKinds := [.funcs, .data], laidTests := true, laidLooks := .later }
def FakeTrueCardSaid : Prop := Claim7.holds Tryd.pinned (.plain (OpenSpec.ofChange fakeTrueSpec)) fakeTrueCard

/-- THE TIED CARD OF 'crocuslaw08.FakeHonest'. -/
def fakeHonestCard : Claim7 := { stood := { row := fakeHonestRow, standIns := [], harness := (true, "5ad7a6b1106c4d9dff1ffa762e242e88c7338921ee0cf2e26581c2f653fcb6c6"), looks := false }, kinds := [], alts := [], goes := true, laidByText := true, laidKinds := [.funcs, .data], laidTests := true, laidLooks := .later }
def FakeHonestCardSaid : Prop := Claim7.holds Tryd.pinned (.plain (OpenSpec.ofChange fakeHonestSpec)) fakeHonestCard

/-- THE TIED CARD OF 'crocuslaw08.FakeExcess'. -/
def fakeExcessCard : Claim7 := { stood := { row := fakeExcessRow, standIns := [], harness := (true, "5ad7a6b1106c4d9dff1ffa762e242e88c7338921ee0cf2e26581c2f653fcb6c6"), looks := false }, kinds := [], alts := [], goes := true, laidByText := true, laidKinds := [.funcs, .data], laidTests := true, laidLooks := .later }
def FakeExcessCardSaid : Prop := Claim7.holds Tryd.pinned (.plain (OpenSpec.ofChange fakeExcessSpec)) fakeExcessCard

/-- THE TIED CARD OF 'crocuslaw08.FakeTrees'. -/
def fakeTreesCard : Claim7 := { stood := { row := fakeTreesRow, standIns := [], harness := (true, "5ad7a6b1106c4d9dff1ffa762e242e88c7338921ee0cf2e26581c2f653fcb6c6"), looks := false }, kinds := [], alts := [], goes := true, laidByText := true, laidKinds := [.funcs, .data], laidTests := true, laidLooks := .later }
def FakeTreesCardSaid : Prop := Claim7.holds Tryd.pinned (.plain (OpenSpec.ofChange fakeTreesSpec)) fakeTreesCard

/-- THE TIED CARD OF 'crocuslaw08.FakeSettled'. -/
def fakeSettledCard : Claim7 := { stood := { row := fakeSettledRow, standIns := [], harness := (true, "5ad7a6b1106c4d9dff1ffa762e242e88c7338921ee0cf2e26581c2f653fcb6c6"), looks := false }, kinds := [], alts := [], goes := true, laidByText := true, laidKinds := [.funcs, .data], laidTests := true, laidLooks := .later }
def FakeSettledCardSaid : Prop := Claim7.holds Tryd.pinned (.plain (OpenSpec.ofChange fakeSettledSpec)) fakeSettledCard

/-- THE TIED CARD OF 'crocuslaw08.FakeDepth'. -/
def fakeDepthCard : Claim7 := { stood := { row := fakeDepthRow, standIns := [], harness := (true, "5ad7a6b1106c4d9dff1ffa762e242e88c7338921ee0cf2e26581c2f653fcb6c6"), looks := false }, kinds := [], alts := [], goes := true, laidByText := true, laidKinds := [.funcs, .data], laidTests := true, laidLooks := .later }
def FakeDepthCardSaid : Prop := Claim7.holds Tryd.pinned (.plain (OpenSpec.ofChange fakeDepthSpec)) fakeDepthCard

/-- THE SECOND FORM's CARD OF 'crocuslaw08.FakeFields'. -/
def fakeFieldsUptoCard : Claim7 := { stood := { row := fakeFieldsUptoRow, standIns := [], harness := (true, "5ad7a6b1106c4d9dff1ffa762e242e88c7338921ee0cf2e26581c2f653fcb6c6"), looks := false }, kinds := [], alts := [], goes := true, laidByText := true, laidKinds := [.funcs, .data], laidTests := true, laidLooks := .later }
def FakeFieldsUptoCardSaid : Prop := Claim7.holds Tryd.pinned (.plain (OpenSpec.upto fakeFieldsSpec)) fakeFieldsUptoCard

/-- THE SECOND FORM's CARD OF 'crocuslaw08.FakeMore'. -/
def fakeMoreUptoCard : Claim7 := { stood := { row := fakeMoreUptoRow, standIns := [], harness := (true, "5ad7a6b1106c4d9dff1ffa762e242e88c7338921ee0cf2e26581c2f653fcb6c6"), looks := false }, kinds := [], alts := [], goes := true, laidByText := true, laidKinds := [.funcs, .data], laidTests := true, laidLooks := .later }
def FakeMoreUptoCardSaid : Prop := Claim7.holds Tryd.pinned (.plain (OpenSpec.upto fakeMoreSpec)) fakeMoreUptoCard

/-- THE SECOND FORM's CARD OF 'crocuslaw08.FakeCheats'. -/
def fakeCheatsUptoCard : Claim7 := { stood := { row := fakeCheatsUptoRow, standIns := [], harness := (true, "5ad7a6b1106c4d9dff1ffa762e242e88c7338921ee0cf2e26581c2f653fcb6c6"), looks := false }, kinds := [], alts := [], goes := true, laidByText := true, laidKinds := [.funcs, .data], laidTests := true, laidLooks := .later }
def FakeCheatsUptoCardSaid : Prop := Claim7.holds Tryd.pinned (.plain (OpenSpec.upto fakeCheatsSpec)) fakeCheatsUptoCard

/-- THE SECOND FORM's CARD OF 'crocuslaw08.FakeGrown'. -/
def fakeGrownUptoCard : Claim7 := { stood := { row := fakeGrownUptoRow, standIns := [], harness := (true, "5ad7a6b1106c4d9dff1ffa762e242e88c7338921ee0cf2e26581c2f653fcb6c6"), looks := false }, kinds := [], alts := [], goes := true, laidByText := true, laidKinds := [.funcs, .data], laidTests := true, laidLooks := .later }
def FakeGrownUptoCardSaid : Prop := Claim7.holds Tryd.pinned (.plain (OpenSpec.upto fakeGrownSpec)) fakeGrownUptoCard

/-- THE SECOND FORM's CARD OF 'crocuslaw08.FakeOrigin'. -/
def fakeOriginUptoCard : Claim7 := { stood := { row := fakeOriginUptoRow, standIns := [], harness := (true, "5ad7a6b1106c4d9dff1ffa762e242e88c7338921ee0cf2e26581c2f653fcb6c6"), looks := false }, kinds := [], alts := [], goes := true, laidByText := true, laidKinds := [.funcs, .data], laidTests := true, laidLooks := .later }
def FakeOriginUptoCardSaid : Prop := Claim7.holds Tryd.pinned (.plain (OpenSpec.upto fakeOriginSpec)) fakeOriginUptoCard

/-- THE SECOND FORM's CARD OF 'crocuslaw08.FakeBeliefs'. -/
def fakeBeliefsUptoCard : Claim7 := { stood := { row := fakeBeliefsUptoRow, standIns := [], harness := (true, "5ad7a6b1106c4d9dff1ffa762e242e88c7338921ee0cf2e26581c2f653fcb6c6"), looks := false }, kinds := [], alts := [], goes := true, laidByText := true, laidKinds := [.funcs, .data], laidTests := true, laidLooks := .later }
def FakeBeliefsUptoCardSaid : Prop := Claim7.holds Tryd.pinned (.plain (OpenSpec.upto fakeBeliefsSpec)) fakeBeliefsUptoCard

/-- THE SECOND FORM's CARD OF 'crocuslaw08.FakeSales'. -/
def fakeSalesUptoCard : Claim7 := { stood := { row := fakeSalesUptoRow, standIns := [], harness := (true, "5ad7a6b1106c4d9dff1ffa762e242e88c7338921ee0cf2e26581c2f653fcb6c6"), looks := false }, kinds := [], alts := [], goes := true, laidByText := true, laidKinds := [.funcs, .data], laidTests := true, laidLooks := .later }
def FakeSalesUptoCardSaid : Prop := Claim7.holds Tryd.pinned (.plain (OpenSpec.upto fakeSalesSpec)) fakeSalesUptoCard

/-- THE SECOND FORM's CARD OF 'crocuslaw08.FakeTrue'. -/
def fakeTrueUptoCard : Claim7 := { stood := { row := fakeTrueUptoRow, standIns := [], harness := (true, "5ad7a6b1106c4d9dff1ffa762e242e88c7338921ee0cf2e26581c2f653fcb6c6"), looks := false }, kinds := [], alts := [], goes := true, laidByText := true, laidKinds := [.funcs, .data], laidTests := true, laidLooks := .later }
def FakeTrueUptoCardSaid : Prop := Claim7.holds Tryd.pinned (.plain (OpenSpec.upto fakeTrueSpec)) fakeTrueUptoCard

/-- THE SECOND FORM's CARD OF 'crocuslaw08.FakeHonest'. -/
def fakeHonestUptoCard : Claim7 := { stood := { row := fakeHonestUptoRow, standIns := [], harness := (true, "5ad7a6b1106c4d9dff1ffa762e242e88c7338921ee0cf2e26581c2f653fcb6c6"), looks := false }, kinds := [], alts := [], goes := true, laidByText := true, laidKinds := [.funcs, .data], laidTests := true, laidLooks := .later }
def FakeHonestUptoCardSaid : Prop := Claim7.holds Tryd.pinned (.plain (OpenSpec.upto fakeHonestSpec)) fakeHonestUptoCard

/-- THE SECOND FORM's CARD OF 'crocuslaw08.FakeExcess'. -/
def fakeExcessUptoCard : Claim7 := { stood := { row := fakeExcessUptoRow, standIns := [], harness := (true, "5ad7a6b1106c4d9dff1ffa762e242e88c7338921ee0cf2e26581c2f653fcb6c6"), looks := false }, kinds := [], alts := [], goes := true, laidByText := true, laidKinds := [.funcs, .data], laidTests := true, laidLooks := .later }
def FakeExcessUptoCardSaid : Prop := Claim7.holds Tryd.pinned (.plain (OpenSpec.upto fakeExcessSpec)) fakeExcessUptoCard

/-- THE SECOND FORM's CARD OF 'crocuslaw08.FakeTrees'. -/
def fakeTreesUptoCard : Claim7 := { stood := { row := fakeTreesUptoRow, standIns := [], harness := (true, "5ad7a6b1106c4d9dff1ffa762e242e88c7338921ee0cf2e26581c2f653fcb6c6"), looks := false }, kinds := [], alts := [], goes := true, laidByText := true, laidKinds := [.funcs, .data], laidTests := true, laidLooks := .later }
def FakeTreesUptoCardSaid : Prop := Claim7.holds Tryd.pinned (.plain (OpenSpec.upto fakeTreesSpec)) fakeTreesUptoCard

/-- THE SECOND FORM's CARD OF 'crocuslaw08.FakeSettled'. -/
def fakeSettledUptoCard : Claim7 := { stood := { row := fakeSettledUptoRow, standIns := [], harness := (true, "5ad7a6b1106c4d9dff1ffa762e242e88c7338921ee0cf2e26581c2f653fcb6c6"), looks := false }, kinds := [], alts := [], goes := true, laidByText := true, laidKinds := [.funcs, .data], laidTests := true, laidLooks := .later }
def FakeSettledUptoCardSaid : Prop := Claim7.holds Tryd.pinned (.plain (OpenSpec.upto fakeSettledSpec)) fakeSettledUptoCard

/-- THE SECOND FORM's CARD OF 'crocuslaw08.FakeDepth'. -/
def fakeDepthUptoCard : Claim7 := { stood := { row := fakeDepthUptoRow, standIns := [], harness := (true, "5ad7a6b1106c4d9dff1ffa762e242e88c7338921ee0cf2e26581c2f653fcb6c6"), looks := false }, kinds := [], alts := [], goes := true, laidByText := true, laidKinds := [.funcs, .data], laidTests := true, laidLooks := .later }
def FakeDepthUptoCardSaid : Prop := Claim7.holds Tryd.pinned (.plain (OpenSpec.upto fakeDepthSpec)) fakeDepthUptoCard
end Rows
end Go.Proofs.YtoefdnbaklajeaaDoor
