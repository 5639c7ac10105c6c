/-
  NARROWER THAN 'FOR EVERY INPUT', by the rows' own cells (each row's printed sentence says how): FakeFields: laid · FakeMore: laid · FakeCheats: laid · FakeGrown: laid · FakeOrigin: laid · FakeBeliefs: laid · FakeSales: laid · FakeTrue: laid · FakeHonest: laid · FakeExcess: laid · FakeTrees: laid · FakeSettled: laid · FakeDepth: laid.
  DERIVED. THE GIVEN ROWS OF THIS SEAT. 13 by the template 'for every input the law returns true; each argument reads behind the call as it read before'; 0 by the template 'total and deterministic' (their statements: YtoefdnbaklajeaaDoorTotals.lean).
  GIVEN WITH THE SEED: the statements are not yours to turn. If you find one false, say at which input.
  Laid BY PROGRAM, IN A SANDBOX (cutbox-rows.mjs): the forced cells as the released guide's own fill.sh prints them over the translation d99114373b359e71… (all of the seat's roots in one cut). By AI agents, Wed Nov 11 2026. No macro, syntax, notation, axiom, sorry.
-/
import Derived.Test.YtoefdnbaklajeaaDoorChecked
import GoSem.Claim
import GoSem.ClaimJoined
import GoSem.ClaimMapViews
import Derived.JoinedTies
import Derived.KernelRfl
namespace Go.Proofs.YtoefdnbaklajeaaDoor
/- THE CELL 'sum', in the pinned program and in every row, IS THE sha256 OF THE DUMP (.gsa) THAT YtoefdnbaklajeaaDoorProg.lean LOADS. Nothing in Lean hashes anything: it is a label: what it is worth is what the hold of that sum in a sandbox is worth. -/
noncomputable def Tryd.pinned : Pinned := { name := "ytoefdnbaklajeaadoor", sum := "d99114373b359e71e6bb6bc522173ca8b0d43f105982d5e322f117a7b5b00a0e", checked := Tryd.checked }
namespace Rows
def none {H : Type} : Left H := { results := [], args := [] }

/- WHAT THE LISTED PACKAGE-LEVEL VARIABLES READ AS WHEN THE CALL BEGINS. Each datum BY PROGRAM (the guide's laid-datum.mjs) off the statement by which the dump's own 'gosem.cut.vars' lays the variable. In a bare row this is a premise. The card (YtoefdnbaklajeaaDoorCards.lean) ties it to the program's text. -/
def laid_crocus_fake_can {H : Type} : DataW H := .iface "func table" (.agg [.iface "func" (.lit (.string [40, 99, 114, 111, 99, 117, 115, 47, 102, 97, 107, 101, 46, 112, 114, 111, 98, 101, 41, 46, 109, 105, 115, 115, 101, 115])), .iface "func" (.lit (.string [40, 99, 114, 111, 99, 117, 115, 47, 102, 97, 107, 101, 46, 112, 114, 111, 98, 101, 41, 46, 102, 105, 110, 100, 115]))])
def laid_crocus_fake_over {H : Type} : DataW H := .agg [.lit (.int .i64 0), .lit (.int .i64 0)]

/-- 'crocuslaw08.FakeFields': WHATEVER THE INPUT: true; the input reads as it did. -/
def fakeFieldsSpec : ChangeSpec := { name := "fakeFields", fn := fun _ => fun
  | [d1, d2] => { results := [.lit (.bool true)], args := [d1, d2] }
  | _ => none }
def fakeFieldsRow : OpenClaim := { program := "ytoefdnbaklajeaadoor", sum := "d99114373b359e71e6bb6bc522173ca8b0d43f105982d5e322f117a7b5b00a0e", func := "crocus/crocuslaw08.FakeFields", spec := "fakeFields", unfollowed := true, recurses := true, named := ["crocus/fake.can", "crocus/fake.over"], plainKeys := false, leaving := true, apart := false, laid := [("crocus/fake.can", laid_crocus_fake_can), ("crocus/fake.over", laid_crocus_fake_over)] }
def FakeFieldsSaid : Prop := fakeFieldsRow.holds Tryd.pinned (OpenSpec.ofChange fakeFieldsSpec)

/-- ITS FALSE NEIGHBOUR: 'it returns false'. Refute it at one input. -/
def fakeFieldsWrong : ChangeSpec := { name := "fakeFields", fn := fun _ => fun
  | [d1, d2] => { results := [.lit (.bool false)], args := [d1, d2] }
  | _ => none }
def FakeFieldsWrongFalsely : Prop := fakeFieldsRow.holds Tryd.pinned (OpenSpec.ofChange fakeFieldsWrong)

/-- 'crocuslaw08.FakeMore': WHATEVER THE INPUT: true; the input reads as it did. -/
def fakeMoreSpec : ChangeSpec := { name := "fakeMore", fn := fun _ => fun
  | [d1, d2, d3, d4] => { results := [.lit (.bool true)], args := [d1, d2, d3, d4] }
  | _ => none }
def fakeMoreRow : OpenClaim := { program := "ytoefdnbaklajeaadoor", sum := "d99114373b359e71e6bb6bc522173ca8b0d43f105982d5e322f117a7b5b00a0e", func := "crocus/crocuslaw08.FakeMore", spec := "fakeMore", unfollowed := true, recurses := true, named := ["crocus/fake.can", "crocus/fake.over"], plainKeys := false, leaving := true, apart := false, laid := [("crocus/fake.can", laid_crocus_fake_can), ("crocus/fake.over", laid_crocus_fake_over)] }
def FakeMoreSaid : Prop := fakeMoreRow.holds Tryd.pinned (OpenSpec.ofChange fakeMoreSpec)

/-- ITS FALSE NEIGHBOUR: 'it returns false'. Refute it at one input. -/
def fakeMoreWrong : ChangeSpec := { name := "fakeMore", fn := fun _ => fun
  | [d1, d2, d3, d4] => { results := [.lit (.bool false)], args := [d1, d2, d3, d4] }
  | _ => none }
def FakeMoreWrongFalsely : Prop := fakeMoreRow.holds Tryd.pinned (OpenSpec.ofChange fakeMoreWrong)

/-- 'crocuslaw08.FakeCheats': WHATEVER THE INPUT: true; the input reads as it did. -/
def fakeCheatsSpec : ChangeSpec := { name := "fakeCheats", fn := fun _ => fun
  | [d1, d2, d3, d4] => { results := [.lit (.bool true)], args := [d1, d2, d3, d4] }
  | _ => none }
def fakeCheatsRow : OpenClaim := { program := "ytoefdnbaklajeaadoor", sum := "d99114373b359e71e6bb6bc522173ca8b0d43f105982d5e322f117a7b5b00a0e", func := "crocus/crocuslaw08.FakeCheats", spec := "fakeCheats", unfollowed := true, recurses := true, named := ["crocus/fake.can", "crocus/fake.over"], plainKeys := false, leaving := true, apart := false, laid := [("crocus/fake.can", laid_crocus_fake_can), ("crocus/fake.over", laid_crocus_fake_over)] }
def FakeCheatsSaid : Prop := fakeCheatsRow.holds Tryd.pinned (OpenSpec.ofChange fakeCheatsSpec)

/-- ITS FALSE NEIGHBOUR: 'it returns false'. Refute it at one input. -/
def fakeCheatsWrong : ChangeSpec := { name := "fakeCheats", fn := fun _ => fun
  | [d1, d2, d3, d4] => { results := [.lit (.bool false)], args := [d1, d2, d3, d4] }
  | _ => none }
def FakeCheatsWrongFalsely : Prop := fakeCheatsRow.holds Tryd.pinned (OpenSpec.ofChange fakeCheatsWrong)

/-- 'crocuslaw08.FakeGrown': WHATEVER THE INPUT: true; the input reads as it did. -/
def fakeGrownSpec : ChangeSpec := { name := "fakeGrown", fn := fun _ => fun
  | [d1, d2, d3, d4, d5] => { results := [.lit (.bool true)], args := [d1, d2, d3, d4, d5] }
  | _ => none }
def fakeGrownRow : OpenClaim := { program := "ytoefdnbaklajeaadoor", sum := "d99114373b359e71e6bb6bc522173ca8b0d43f105982d5e322f117a7b5b00a0e", func := "crocus/crocuslaw08.FakeGrown", spec := "fakeGrown", unfollowed := true, recurses := true, named := ["crocus/fake.can", "crocus/fake.over"], plainKeys := false, leaving := true, apart := false, laid := [("crocus/fake.can", laid_crocus_fake_can), ("crocus/fake.over", laid_crocus_fake_over)] }
def FakeGrownSaid : Prop := fakeGrownRow.holds Tryd.pinned (OpenSpec.ofChange fakeGrownSpec)

/-- ITS FALSE NEIGHBOUR: 'it returns false'. Refute it at one input. -/
def fakeGrownWrong : ChangeSpec := { name := "fakeGrown", fn := fun _ => fun
  | [d1, d2, d3, d4, d5] => { results := [.lit (.bool false)], args := [d1, d2, d3, d4, d5] }
  | _ => none }
def FakeGrownWrongFalsely : Prop := fakeGrownRow.holds Tryd.pinned (OpenSpec.ofChange fakeGrownWrong)

/-- 'crocuslaw08.FakeOrigin': WHATEVER THE INPUT: true; the input reads as it did. -/
def fakeOriginSpec : ChangeSpec := { name := "fakeOrigin", fn := fun _ => fun
  | [d1, d2, d3, d4, d5] => { results := [.lit (.bool true)], args := [d1, d2, d3, d4, d5] }
  | _ => none }
def fakeOriginRow : OpenClaim := { program := "ytoefdnbaklajeaadoor", sum := "d99114373b359e71e6bb6bc522173ca8b0d43f105982d5e322f117a7b5b00a0e", func := "crocus/crocuslaw08.FakeOrigin", spec := "fakeOrigin", unfollowed := true, recurses := true, named := ["crocus/fake.can", "crocus/fake.over"], plainKeys := false, leaving := true, apart := false, laid := [("crocus/fake.can", laid_crocus_fake_can), ("crocus/fake.over", laid_crocus_fake_over)] }
def FakeOriginSaid : Prop := fakeOriginRow.holds Tryd.pinned (OpenSpec.ofChange fakeOriginSpec)

/-- ITS FALSE NEIGHBOUR: 'it returns false'. Refute it at one input. -/
def fakeOriginWrong : ChangeSpec := { name := "fakeOrigin", fn := fun _ => fun
  | [d1, d2, d3, d4, d5] => { results := [.lit (.bool false)], args := [d1, d2, d3, d4, d5] }
  | _ => none }
def FakeOriginWrongFalsely : Prop := fakeOriginRow.holds Tryd.pinned (OpenSpec.ofChange fakeOriginWrong)

/-- 'crocuslaw08.FakeBeliefs': WHATEVER THE INPUT: true; the input reads as it did. -/
def fakeBeliefsSpec : ChangeSpec := { name := "fakeBeliefs", fn := fun _ => fun
  | [d1, d2] => { results := [.lit (.bool true)], args := [d1, d2] }
  | _ => none }
def fakeBeliefsRow : OpenClaim := { program := "ytoefdnbaklajeaadoor", sum := "d99114373b359e71e6bb6bc522173ca8b0d43f105982d5e322f117a7b5b00a0e", func := "crocus/crocuslaw08.FakeBeliefs", spec := "fakeBeliefs", unfollowed := true, recurses := true, named := ["crocus/fake.can", "crocus/fake.over"], plainKeys := false, leaving := true, apart := false, laid := [("crocus/fake.can", laid_crocus_fake_can), ("crocus/fake.over", laid_crocus_fake_over)] }
def FakeBeliefsSaid : Prop := fakeBeliefsRow.holds Tryd.pinned (OpenSpec.ofChange fakeBeliefsSpec)

/-- ITS FALSE NEIGHBOUR: 'it returns false'. Refute it at one input. -/
def fakeBeliefsWrong : ChangeSpec := { name := "fakeBeliefs", fn := fun _ => fun
  | [d1, d2] => { results := [.lit (.bool false)], args := [d1, d2] }
  | _ => none }
def FakeBeliefsWrongFalsely : Prop := fakeBeliefsRow.holds Tryd.pinned (OpenSpec.ofChange fakeBeliefsWrong)

/-- 'crocuslaw08.FakeSales': WHATEVER THE INPUT: true; the input reads as it did. -/
def fakeSalesSpec : ChangeSpec := { name := "fakeSales", fn := fun _ => fun
  | [d1, d2] => { results := [.lit (.bool true)], args := [d1, d2] }
  | _ => none }
def fakeSalesRow : OpenClaim := { program := "ytoefdnbaklajeaadoor", sum := "d99114373b359e71e6bb6bc522173ca8b0d43f105982d5e322f117a7b5b00a0e", func := "crocus/crocuslaw08.FakeSales", spec := "fakeSales", unfollowed := true, recurses := true, named := ["crocus/fake.can", "crocus/fake.over"], plainKeys := false, leaving := true, apart := false, laid := [("crocus/fake.can", laid_crocus_fake_can), ("crocus/fake.over", laid_crocus_fake_over)] }
def FakeSalesSaid : Prop := fakeSalesRow.holds Tryd.pinned (OpenSpec.ofChange fakeSalesSpec)

/-- ITS FALSE NEIGHBOUR: 'it returns false'. Refute it at one input. -/
def fakeSalesWrong : ChangeSpec := { name := "fakeSales", fn := fun _ => fun
  | [d1, d2] => { results := [.lit (.bool false)], args := [d1, d2] }
  | _ => none }
def FakeSalesWrongFalsely : Prop := fakeSalesRow.holds Tryd.pinned (OpenSpec.ofChange fakeSalesWrong)

/-- 'crocuslaw08.FakeTrue': WHATEVER THE INPUT: true; the input reads as it did. -/
def fakeTrueSpec : ChangeSpec := { name := "fakeTrue", fn := fun _ => fun
  | [d1, d2, d3] => { results := [.lit (.bool true)], args := [d1, d2, d3] }
  | _ => none }
def fakeTrueRow : OpenClaim := { program := "ytoefdnbaklajeaadoor", sum := "d99114373b359e71e6bb6bc522173ca8b0d43f105982d5e322f117a7b5b00a0e", func := "crocus/crocuslaw08.FakeTrue", spec := "fakeTrue", unfollowed := true, recurses := true, named := ["crocus/fake.can", "crocus/fake.over"], plainKeys := false, leaving := true, apart := false, laid := [("crocus/fake.can", laid_crocus_fake_can), ("crocus/fake.over", laid_crocus_fake_over)] }
def FakeTrueSaid : Prop := fakeTrueRow.holds Tryd.pinned (OpenSpec.ofChange fakeTrueSpec)

/-- ITS FALSE NEIGHBOUR: 'it returns false'. Refute it at one input. -/
def fakeTrueWrong : ChangeSpec := { name := "fakeTrue", fn := fun _ => fun
  | [d1, d2, d3] => { results := [.lit (.bool false)], args := [d1, d2, d3] }
  | _ => none }
def FakeTrueWrongFalsely : Prop := fakeTrueRow.holds Tryd.pinned (OpenSpec.ofChange fakeTrueWrong)

/-- 'crocuslaw08.FakeHonest': WHATEVER THE INPUT: true; the input reads as it did. -/
def fakeHonestSpec : ChangeSpec := { name := "fakeHonest", fn := fun _ => fun
  | [d1, d2, d3] => { results := [.lit (.bool true)], args := [d1, d2, d3] }
  | _ => none }
def fakeHonestRow : OpenClaim := { program := "ytoefdnbaklajeaadoor", sum := "d99114373b359e71e6bb6bc522173ca8b0d43f105982d5e322f117a7b5b00a0e", func := "crocus/crocuslaw08.FakeHonest", spec := "fakeHonest", unfollowed := true, recurses := true, named := ["crocus/fake.can", "crocus/fake.over"], plainKeys := false, leaving := true, apart := false, laid := [("crocus/fake.can", laid_crocus_fake_can), ("crocus/fake.over", laid_crocus_fake_over)] }
def FakeHonestSaid : Prop := fakeHonestRow.holds Tryd.pinned (OpenSpec.ofChange fakeHonestSpec)

/-- ITS FALSE NEIGHBOUR: 'it returns false'. Refute it at one input. -/
def fakeHonestWrong : ChangeSpec := { name := "fakeHonest", fn := fun _ => fun
  | [d1, d2, d3] => { results := [.lit (.bool false)], args := [d1, d2, d3] }
  | _ => none }
def FakeHonestWrongFalsely : Prop := fakeHonestRow.holds Tryd.pinned (OpenSpec.ofChange fakeHonestWrong)

/-- 'crocuslaw08.FakeExcess': WHATEVER THE INPUT: true; the input reads as it did. -/
def fakeExcessSpec : ChangeSpec := { name := "fakeExcess", fn := fun _ => fun
  | [d1, d2] => { results := [.lit (.bool true)], args := [d1, d2] }
  | _ => none }
def fakeExcessRow : OpenClaim := { program := "ytoefdnbaklajeaadoor", sum := "d99114373b359e71e6bb6bc522173ca8b0d43f105982d5e322f117a7b5b00a0e", func := "crocus/crocuslaw08.FakeExcess", spec := "fakeExcess", unfollowed := true, recurses := true, named := ["crocus/fake.can", "crocus/fake.over"], plainKeys := false, leaving := true, apart := false, laid := [("crocus/fake.can", laid_crocus_fake_can), ("crocus/fake.over", laid_crocus_fake_over)] }
def FakeExcessSaid : Prop := fakeExcessRow.holds Tryd.pinned (OpenSpec.ofChange fakeExcessSpec)

/-- ITS FALSE NEIGHBOUR: 'it returns false'. Refute it at one input. -/
def fakeExcessWrong : ChangeSpec := { name := "fakeExcess", fn := fun _ => fun
  | [d1, d2] => { results := [.lit (.bool false)], args := [d1, d2] }
  | _ => none }
def FakeExcessWrongFalsely : Prop := fakeExcessRow.holds Tryd.pinned (OpenSpec.ofChange fakeExcessWrong)

/-- 'crocuslaw08.FakeTrees': WHATEVER THE INPUT: true; the input reads as it did. -/
def fakeTreesSpec : ChangeSpec := { name := "fakeTrees", fn := fun _ => fun
  | [d1, d2, d3] => { results := [.lit (.bool true)], args := [d1, d2, d3] }
  | _ => none }
def fakeTreesRow : OpenClaim := { program := "ytoefdnbaklajeaadoor", sum := "d99114373b359e71e6bb6bc522173ca8b0d43f105982d5e322f117a7b5b00a0e", func := "crocus/crocuslaw08.FakeTrees", spec := "fakeTrees", unfollowed := true, recurses := true, named := ["crocus/fake.can", "crocus/fake.over"], plainKeys := false, leaving := true, apart := false, laid := [("crocus/fake.can", laid_crocus_fake_can), ("crocus/fake.over", laid_crocus_fake_over)] }
def FakeTreesSaid : Prop := fakeTreesRow.holds Tryd.pinned (OpenSpec.ofChange fakeTreesSpec)

/-- ITS FALSE NEIGHBOUR: 'it returns false'. Refute it at one input. -/
def fakeTreesWrong : ChangeSpec := { name := "fakeTrees", fn := fun _ => fun
  | [d1, d2, d3] => { results := [.lit (.bool false)], args := [d1, d2, d3] }
  | _ => none }
def FakeTreesWrongFalsely : Prop := fakeTreesRow.holds Tryd.pinned (OpenSpec.ofChange fakeTreesWrong)

/-- 'crocuslaw08.FakeSettled': WHATEVER THE INPUT: true; the input reads as it did. -/
def fakeSettledSpec : ChangeSpec := { name := "fakeSettled", fn := fun _ => fun
  | [d1, d2, d3] => { results := [.lit (.bool true)], args := [d1, d2, d3] }
  | _ => none }
def fakeSettledRow : OpenClaim := { program := "ytoefdnbaklajeaadoor", sum := "d99114373b359e71e6bb6bc522173ca8b0d43f105982d5e322f117a7b5b00a0e", func := "crocus/crocuslaw08.FakeSettled", spec := "fakeSettled", unfollowed := true, recurses := true, named := ["crocus/fake.can", "crocus/fake.over"], plainKeys := false, leaving := true, apart := false, laid := [("crocus/fake.can", laid_crocus_fake_can), ("crocus/fake.over", laid_crocus_fake_over)] }
def FakeSettledSaid : Prop := fakeSettledRow.holds Tryd.pinned (OpenSpec.ofChange fakeSettledSpec)

/-- ITS FALSE NEIGHBOUR: 'it returns false'. Refute it at one input. -/
def fakeSettledWrong : ChangeSpec := { name := "fakeSettled", fn := fun _ => fun
  | [d1, d2, d3] => { results := [.lit (.bool false)], args := [d1, d2, d3] }
  | _ => none }
def FakeSettledWrongFalsely : Prop := fakeSettledRow.holds Tryd.pinned (OpenSpec.ofChange fakeSettledWrong)

/-- 'crocuslaw08.FakeDepth': WHATEVER THE INPUT: true; the input reads as it did. -/
def fakeDepthSpec : ChangeSpec := { name := "fakeDepth", fn := fun _ => fun
  | [d1, d2, d3] => { results := [.lit (.bool true)], args := [d1, d2, d3] }
  | _ => none }
def fakeDepthRow : OpenClaim := { program := "ytoefdnbaklajeaadoor", sum := "d99114373b359e71e6bb6bc522173ca8b0d43f105982d5e322f117a7b5b00a0e", func := "crocus/crocuslaw08.FakeDepth", spec := "fakeDepth", unfollowed := true, recurses := true, named := ["crocus/fake.can", "crocus/fake.over"], plainKeys := false, leaving := true, apart := false, laid := [("crocus/fake.can", laid_crocus_fake_can), ("crocus/fake.over", laid_crocus_fake_over)] }
def FakeDepthSaid : Prop := fakeDepthRow.holds Tryd.pinned (OpenSpec.ofChange fakeDepthSpec)

/-- ITS FALSE NEIGHBOUR: 'it returns false'. Refute it at one input. -/
def fakeDepthWrong : ChangeSpec := { name := "fakeDepth", fn := fun _ => fun
  | [d1, d2, d3] => { results := [.lit (.bool false)], args := [d1, d2, d3] }
  | _ => none }
def FakeDepthWrongFalsely : Prop := fakeDepthRow.holds Tryd.pinned (OpenSpec.ofChange fakeDepthWrong)

/- THE SECOND FORM. 'bulk': how many values and letters a reading holds, each counted each time it is reached (what is shared counts as often as it is met; a slice's spare places count too). A statement '..UptoSaid' is the law's where the arguments, and the package variables that the reading takes, are together of bulk at most 1048576: NARROWER than '..Said'. Prove '..Said' where nothing that the law and all that it calls make is longer than what came in: it says more and counts as full. Else prove '..UptoSaid'. A law counts once. -/
mutual
def uptoBulk {H : Type} : DataW H → Nat
  | .lit (.string bytes) => bytes.length + 1
  | .lit _ => 1
  | .nil => 1
  | .ptr d => uptoBulk d + 1
  | .slice elems spare => uptoBulkAll elems + uptoBulkAll spare + 1
  | .agg parts => uptoBulkAll parts + 1
  | .iface _ d => uptoBulk d + 1
  | .map entries => uptoBulkEntries entries + 1
  | .held _ => 1
def uptoBulkAll {H : Type} : List (DataW H) → Nat
  | [] => 0
  | d :: r => uptoBulk d + uptoBulkAll r
def uptoBulkEntries {H : Type} : List (Lit × DataW H) → Nat
  | [] => 0
  | x :: r => uptoBulkEntry x + uptoBulkEntries r
def uptoBulkEntry {H : Type} : Lit × DataW H → Nat
  | (.string bytes, d) => bytes.length + uptoBulk d + 1
  | (_, d) => uptoBulk d + 1
 end
def uptoSmall : (H : Type) → List (DataW H) → Bool := fun _ ds => decide (uptoBulkAll ds ≤ 1048576)
def OpenSpec.upto (s : _root_.Go.ChangeSpec) : _root_.Go.OpenSpec := { _root_.Go.OpenSpec.ofChange s with cond := some uptoSmall }

/-- 'crocuslaw08.FakeFields', WHERE WHAT IT READS IS OF BULK AT MOST 1048576: true; the input reads as it did. -/
def fakeFieldsUptoRow : OpenClaim := { program := "ytoefdnbaklajeaadoor", sum := "d99114373b359e71e6bb6bc522173ca8b0d43f105982d5e322f117a7b5b00a0e", func := "crocus/crocuslaw08.FakeFields", spec := "fakeFields", unfollowed := true, recurses := true, named := ["crocus/fake.can", "crocus/fake.over"], plainKeys := false, leaving := true, apart := false, laid := [("crocus/fake.can", laid_crocus_fake_can), ("crocus/fake.over", laid_crocus_fake_over)], narrowed := true }
def FakeFieldsUptoSaid : Prop := fakeFieldsUptoRow.holds Tryd.pinned (OpenSpec.upto fakeFieldsSpec)

/-- 'crocuslaw08.FakeMore', WHERE WHAT IT READS IS OF BULK AT MOST 1048576: true; the input reads as it did. -/
def fakeMoreUptoRow : OpenClaim := { program := "ytoefdnbaklajeaadoor", sum := "d99114373b359e71e6bb6bc522173ca8b0d43f105982d5e322f117a7b5b00a0e", func := "crocus/crocuslaw08.FakeMore", spec := "fakeMore", unfollowed := true, recurses := true, named := ["crocus/fake.can", "crocus/fake.over"], plainKeys := false, leaving := true, apart := false, laid := [("crocus/fake.can", laid_crocus_fake_can), ("crocus/fake.over", laid_crocus_fake_over)], narrowed := true }
def FakeMoreUptoSaid : Prop := fakeMoreUptoRow.holds Tryd.pinned (OpenSpec.upto fakeMoreSpec)

/-- 'crocuslaw08.FakeCheats', WHERE WHAT IT READS IS OF BULK AT MOST 1048576: true; the input reads as it did. -/
def fakeCheatsUptoRow : OpenClaim := { program := "ytoefdnbaklajeaadoor", sum := "d99114373b359e71e6bb6bc522173ca8b0d43f105982d5e322f117a7b5b00a0e", func := "crocus/crocuslaw08.FakeCheats", spec := "fakeCheats", unfollowed := true, recurses := true, named := ["crocus/fake.can", "crocus/fake.over"], plainKeys := false, leaving := true, apart := false, laid := [("crocus/fake.can", laid_crocus_fake_can), ("crocus/fake.over", laid_crocus_fake_over)], narrowed := true }
def FakeCheatsUptoSaid : Prop := fakeCheatsUptoRow.holds Tryd.pinned (OpenSpec.upto fakeCheatsSpec)

/-- 'crocuslaw08.FakeGrown', WHERE WHAT IT READS IS OF BULK AT MOST 1048576: true; the input reads as it did. -/
def fakeGrownUptoRow : OpenClaim := { program := "ytoefdnbaklajeaadoor", sum := "d99114373b359e71e6bb6bc522173ca8b0d43f105982d5e322f117a7b5b00a0e", func := "crocus/crocuslaw08.FakeGrown", spec := "fakeGrown", unfollowed := true, recurses := true, named := ["crocus/fake.can", "crocus/fake.over"], plainKeys := false, leaving := true, apart := false, laid := [("crocus/fake.can", laid_crocus_fake_can), ("crocus/fake.over", laid_crocus_fake_over)], narrowed := true }
def FakeGrownUptoSaid : Prop := fakeGrownUptoRow.holds Tryd.pinned (OpenSpec.upto fakeGrownSpec)

/-- 'crocuslaw08.FakeOrigin', WHERE WHAT IT READS IS OF BULK AT MOST 1048576: true; the input reads as it did. -/
def fakeOriginUptoRow : OpenClaim := { program := "ytoefdnbaklajeaadoor", sum := "d99114373b359e71e6bb6bc522173ca8b0d43f105982d5e322f117a7b5b00a0e", func := "crocus/crocuslaw08.FakeOrigin", spec := "fakeOrigin", unfollowed := true, recurses := true, named := ["crocus/fake.can", "crocus/fake.over"], plainKeys := false, leaving := true, apart := false, laid := [("crocus/fake.can", laid_crocus_fake_can), ("crocus/fake.over", laid_crocus_fake_over)], narrowed := true }
def FakeOriginUptoSaid : Prop := fakeOriginUptoRow.holds Tryd.pinned (OpenSpec.upto fakeOriginSpec)

/-- 'crocuslaw08.FakeBeliefs', WHERE WHAT IT READS IS OF BULK AT MOST 1048576: true; the input reads as it did. -/
def fakeBeliefsUptoRow : OpenClaim := { program := "ytoefdnbaklajeaadoor", sum := "d99114373b359e71e6bb6bc522173ca8b0d43f105982d5e322f117a7b5b00a0e", func := "crocus/crocuslaw08.FakeBeliefs", spec := "fakeBeliefs", unfollowed := true, recurses := true, named := ["crocus/fake.can", "crocus/fake.over"], plainKeys := false, leaving := true, apart := false, laid := [("crocus/fake.can", laid_crocus_fake_can), ("crocus/fake.over", laid_crocus_fake_over)], narrowed := true }
def FakeBeliefsUptoSaid : Prop := fakeBeliefsUptoRow.holds Tryd.pinned (OpenSpec.upto fakeBeliefsSpec)

/-- 'crocuslaw08.FakeSales', WHERE WHAT IT READS IS OF BULK AT MOST 1048576: true; the input reads as it did. -/
def fakeSalesUptoRow : OpenClaim := { program := "ytoefdnbaklajeaadoor", sum := "d99114373b359e71e6bb6bc522173ca8b0d43f105982d5e322f117a7b5b00a0e", func := "crocus/crocuslaw08.FakeSales", spec := "fakeSales", unfollowed := true, recurses := true, named := ["crocus/fake.can", "crocus/fake.over"], plainKeys := false, leaving := true, apart := false, laid := [("crocus/fake.can", laid_crocus_fake_can), ("crocus/fake.over", laid_crocus_fake_over)], narrowed := true }
def FakeSalesUptoSaid : Prop := fakeSalesUptoRow.holds Tryd.pinned (OpenSpec.upto fakeSalesSpec)

/-- 'crocuslaw08.FakeTrue', WHERE WHAT IT READS IS OF BULK AT MOST 1048576: true; the input reads as it did. -/
def fakeTrueUptoRow : OpenClaim := { program := "ytoefdnbaklajeaadoor", sum := "d99114373b359e71e6bb6bc522173ca8b0d43f105982d5e322f117a7b5b00a0e", func := "crocus/crocuslaw08.FakeTrue", spec := "fakeTrue", unfollowed := true, recurses := true, named := ["crocus/fake.can", "crocus/fake.over"], plainKeys := false, leaving := true, apart := false, laid := [("crocus/fake.can", laid_crocus_fake_can), ("crocus/fake.over", laid_crocus_fake_over)], narrowed := true }
def FakeTrueUptoSaid : Prop := fakeTrueUptoRow.holds Tryd.pinned (OpenSpec.upto fakeTrueSpec)

/-- 'crocuslaw08.FakeHonest', WHERE WHAT IT READS IS OF BULK AT MOST 1048576: true; the input reads as it did. -/
def fakeHonestUptoRow : OpenClaim := { program := "ytoefdnbaklajeaadoor", sum := "d99114373b359e71e6bb6bc522173ca8b0d43f105982d5e322f117a7b5b00a0e", func := "crocus/crocuslaw08.FakeHonest", spec := "fakeHonest", unfollowed := true, recurses := true, named := ["crocus/fake.can", "crocus/fake.over"], plainKeys := false, leaving := true, apart := false, laid := [("crocus/fake.can", laid_crocus_fake_can), ("crocus/fake.over", laid_crocus_fake_over)], narrowed := true }
def FakeHonestUptoSaid : Prop := fakeHonestUptoRow.holds Tryd.pinned (OpenSpec.upto fakeHonestSpec)

/-- 'crocuslaw08.FakeExcess', WHERE WHAT IT READS IS OF BULK AT MOST 1048576: true; the input reads as it did. -/
def fakeExcessUptoRow : OpenClaim := { program := "ytoefdnbaklajeaadoor", sum := "d99114373b359e71e6bb6bc522173ca8b0d43f105982d5e322f117a7b5b00a0e", func := "crocus/crocuslaw08.FakeExcess", spec := "fakeExcess", unfollowed := true, recurses := true, named := ["crocus/fake.can", "crocus/fake.over"], plainKeys := false, leaving := true, apart := false, laid := [("crocus/fake.can", laid_crocus_fake_can), ("crocus/fake.over", laid_crocus_fake_over)], narrowed := true }
def FakeExcessUptoSaid : Prop := fakeExcessUptoRow.holds Tryd.pinned (OpenSpec.upto fakeExcessSpec)

/-- 'crocuslaw08.FakeTrees', WHERE WHAT IT READS IS OF BULK AT MOST 1048576: true; the input reads as it did. -/
def fakeTreesUptoRow : OpenClaim := { program := "ytoefdnbaklajeaadoor", sum := "d99114373b359e71e6bb6bc522173ca8b0d43f105982d5e322f117a7b5b00a0e", func := "crocus/crocuslaw08.FakeTrees", spec := "fakeTrees", unfollowed := true, recurses := true, named := ["crocus/fake.can", "crocus/fake.over"], plainKeys := false, leaving := true, apart := false, laid := [("crocus/fake.can", laid_crocus_fake_can), ("crocus/fake.over", laid_crocus_fake_over)], narrowed := true }
def FakeTreesUptoSaid : Prop := fakeTreesUptoRow.holds Tryd.pinned (OpenSpec.upto fakeTreesSpec)

/-- 'crocuslaw08.FakeSettled', WHERE WHAT IT READS IS OF BULK AT MOST 1048576: true; the input reads as it did. -/
def fakeSettledUptoRow : OpenClaim := { program := "ytoefdnbaklajeaadoor", sum := "d99114373b359e71e6bb6bc522173ca8b0d43f105982d5e322f117a7b5b00a0e", func := "crocus/crocuslaw08.FakeSettled", spec := "fakeSettled", unfollowed := true, recurses := true, named := ["crocus/fake.can", "crocus/fake.over"], plainKeys := false, leaving := true, apart := false, laid := [("crocus/fake.can", laid_crocus_fake_can), ("crocus/fake.over", laid_crocus_fake_over)], narrowed := true }
def FakeSettledUptoSaid : Prop := fakeSettledUptoRow.holds Tryd.pinned (OpenSpec.upto fakeSettledSpec)

/-- 'crocuslaw08.FakeDepth', WHERE WHAT IT READS IS OF BULK AT MOST 1048576: true; the input reads as it did. -/
def fakeDepthUptoRow : OpenClaim := { program := "ytoefdnbaklajeaadoor", sum := "d99114373b359e71e6bb6bc522173ca8b0d43f105982d5e322f117a7b5b00a0e", func := "crocus/crocuslaw08.FakeDepth", spec := "fakeDepth", unfollowed := true, recurses := true, named := ["crocus/fake.can", "crocus/fake.over"], plainKeys := false, leaving := true, apart := false, laid := [("crocus/fake.can", laid_crocus_fake_can), ("crocus/fake.over", laid_crocus_fake_over)], narrowed := true }
def FakeDepthUptoSaid : Prop := fakeDepthUptoRow.holds Tryd.pinned (OpenSpec.upto fakeDepthSpec)

end Rows
end Go.Proofs.YtoefdnbaklajeaaDoor
