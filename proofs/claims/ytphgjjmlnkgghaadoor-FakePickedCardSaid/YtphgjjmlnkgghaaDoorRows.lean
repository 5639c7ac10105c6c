/-
  NARROWER THAN 'FOR EVERY INPUT', by the rows' own cells (each row's printed sentence says how): FakePicked: laid.
  DERIVED. THE GIVEN ROWS OF THIS SEAT. 1 by the template 'for every input the law returns true; each argument reads behind the call as it read before'; 0 by the template 'total and deterministic' (their statements: YtphgjjmlnkgghaaDoorTotals.lean).
  GIVEN WITH THE SEED: the statements are not yours to turn. If you find one false, say at which input.
  Laid BY PROGRAM, IN A SANDBOX (cutbox-rows.mjs): the forced cells as the released guide's own fill.sh prints them over the translation b74193366389d270… (all of the seat's roots in one cut). By AI agents, Wed Nov 11 2026. No macro, syntax, notation, axiom, sorry.
-/
import Derived.Test.YtphgjjmlnkgghaaDoorChecked
import GoSem.Claim
import GoSem.ClaimJoined
import GoSem.ClaimMapViews
import Derived.JoinedTies
import Derived.KernelRfl
namespace Go.Proofs.YtphgjjmlnkgghaaDoor
/- THE CELL 'sum', in the pinned program and in every row, IS THE sha256 OF THE DUMP (.gsa) THAT YtphgjjmlnkgghaaDoorProg.lean LOADS. Nothing in Lean hashes anything: it is a label: what it is worth is what the hold of that sum in a sandbox is worth. -/
noncomputable def Tryd.pinned : Pinned := { name := "ytphgjjmlnkgghaadoor", sum := "b74193366389d270b053faaf2fd33928982d9f40623b45d5b62fe0074f075b31", checked := Tryd.checked }
namespace Rows
def none {H : Type} : Left H := { results := [], args := [] }

/- WHAT THE LISTED PACKAGE-LEVEL VARIABLES READ AS WHEN THE CALL BEGINS. Each datum BY PROGRAM (the guide's laid-datum.mjs) off the statement by which the dump's own 'gosem.cut.vars' lays the variable. In a bare row this is a premise. The card (YtphgjjmlnkgghaaDoorCards.lean) ties it to the program's text. -/
def laid_crocus_fake_can {H : Type} : DataW H := .iface "func table" (.agg [.iface "func" (.lit (.string [40, 99, 114, 111, 99, 117, 115, 47, 102, 97, 107, 101, 46, 112, 114, 111, 98, 101, 41, 46, 109, 105, 115, 115, 101, 115])), .iface "func" (.lit (.string [40, 99, 114, 111, 99, 117, 115, 47, 102, 97, 107, 101, 46, 112, 114, 111, 98, 101, 41, 46, 102, 105, 110, 100, 115]))])
def laid_crocus_fake_over {H : Type} : DataW H := .agg [.lit (.int .i64 0), .lit (.int .i64 0)]
def laid_crocus_pick_checks {H : Type} : DataW H := .iface "func table" (.agg [.iface "func" (.lit (.string [40, 42, 99, 114, 111, 99, 117, 115, 47, 112, 105, 99, 107, 46, 109, 111, 114, 110, 105, 110, 103, 41, 46, 104, 111, 117, 115, 101, 115])), .iface "func" (.lit (.string [40, 42, 99, 114, 111, 99, 117, 115, 47, 112, 105, 99, 107, 46, 109, 111, 114, 110, 105, 110, 103, 41, 46, 102, 105, 101, 108, 100, 115])), .iface "func" (.lit (.string [40, 42, 99, 114, 111, 99, 117, 115, 47, 112, 105, 99, 107, 46, 109, 111, 114, 110, 105, 110, 103, 41, 46, 112, 105, 99, 107, 101, 114, 115])), .iface "func" (.lit (.string [40, 42, 99, 114, 111, 99, 117, 115, 47, 112, 105, 99, 107, 46, 109, 111, 114, 110, 105, 110, 103, 41, 46, 98, 97, 115, 107, 101, 116, 115]))])
def laid_crocus_pick_nowhere {H : Type} : DataW H := .agg [.lit (.int .i64 (-1)), .lit (.int .i64 (-1))]

/-- 'crocuslaw08.FakePicked': WHATEVER THE INPUT: true; the input reads as it did. -/
def fakePickedSpec : ChangeSpec := { name := "fakePicked", fn := fun _ => fun
  | [d1, d2] => { results := [.lit (.bool true)], args := [d1, d2] }
  | _ => none }
def fakePickedRow : OpenClaim := { program := "ytphgjjmlnkgghaadoor", sum := "b74193366389d270b053faaf2fd33928982d9f40623b45d5b62fe0074f075b31", func := "crocus/crocuslaw08.FakePicked", spec := "fakePicked", inPlace := ["maps.clone"], unfollowed := true, recurses := true, named := ["crocus/fake.can", "crocus/fake.over", "crocus/pick.nowhere", "crocus/pick.checks"], plainKeys := false, leaving := true, apart := false, laid := [("crocus/fake.can", laid_crocus_fake_can), ("crocus/fake.over", laid_crocus_fake_over), ("crocus/pick.checks", laid_crocus_pick_checks), ("crocus/pick.nowhere", laid_crocus_pick_nowhere)] }
def FakePickedSaid : Prop := fakePickedRow.holds Tryd.pinned (OpenSpec.ofChange fakePickedSpec)

/-- ITS FALSE NEIGHBOUR: 'it returns false'. Refute it at one input. -/
def fakePickedWrong : ChangeSpec := { name := "fakePicked", fn := fun _ => fun
  | [d1, d2] => { results := [.lit (.bool false)], args := [d1, d2] }
  | _ => none }
def FakePickedWrongFalsely : Prop := fakePickedRow.holds Tryd.pinned (OpenSpec.ofChange fakePickedWrong)

/- THE SECOND FORM. 'bulk': how many values and letters a reading holds, each counted each time it is reached (what is shared counts as often as it is met; a slice's spare places count too). A statement '..UptoSaid' is the law's where the arguments, and the package variables that the reading takes, are together of bulk at most 1048576: NARROWER than '..Said'. Prove '..Said' where nothing that the law and all that it calls make is longer than what came in: it says more and counts as full. Else prove '..UptoSaid'. A law counts once. -/
mutual
def uptoBulk {H : Type} : DataW H → Nat
  | .lit (.string bytes) => bytes.length + 1
  | .lit _ => 1
  | .nil => 1
  | .ptr d => uptoBulk d + 1
  | .slice elems spare => uptoBulkAll elems + uptoBulkAll spare + 1
  | .agg parts => uptoBulkAll parts + 1
  | .iface _ d => uptoBulk d + 1
  | .map entries => uptoBulkEntries entries + 1
  | .held _ => 1
def uptoBulkAll {H : Type} : List (DataW H) → Nat
  | [] => 0
  | d :: r => uptoBulk d + uptoBulkAll r
def uptoBulkEntries {H : Type} : List (Lit × DataW H) → Nat
  | [] => 0
  | x :: r => uptoBulkEntry x + uptoBulkEntries r
def uptoBulkEntry {H : Type} : Lit × DataW H → Nat
  | (.string bytes, d) => bytes.length + uptoBulk d + 1
  | (_, d) => uptoBulk d + 1
 end
def uptoSmall : (H : Type) → List (DataW H) → Bool := fun _ ds => decide (uptoBulkAll ds ≤ 1048576)
def OpenSpec.upto (s : _root_.Go.ChangeSpec) : _root_.Go.OpenSpec := { _root_.Go.OpenSpec.ofChange s with cond := some uptoSmall }

/-- 'crocuslaw08.FakePicked', WHERE WHAT IT READS IS OF BULK AT MOST 1048576: true; the input reads as it did. -/
def fakePickedUptoRow : OpenClaim := { program := "ytphgjjmlnkgghaadoor", sum := "b74193366389d270b053faaf2fd33928982d9f40623b45d5b62fe0074f075b31", func := "crocus/crocuslaw08.FakePicked", spec := "fakePicked", inPlace := ["maps.clone"], unfollowed := true, recurses := true, named := ["crocus/fake.can", "crocus/fake.over", "crocus/pick.nowhere", "crocus/pick.checks"], plainKeys := false, leaving := true, apart := false, laid := [("crocus/fake.can", laid_crocus_fake_can), ("crocus/fake.over", laid_crocus_fake_over), ("crocus/pick.checks", laid_crocus_pick_checks), ("crocus/pick.nowhere", laid_crocus_pick_nowhere)], narrowed := true }
def FakePickedUptoSaid : Prop := fakePickedUptoRow.holds Tryd.pinned (OpenSpec.upto fakePickedSpec)

end Rows
end Go.Proofs.YtphgjjmlnkgghaaDoor
