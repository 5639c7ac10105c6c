/-
  NARROWER THAN 'FOR EVERY INPUT', by the rows' own cells (each row's printed sentence says how): FakeRead: laid · FakeWet: laid · FakeThreads: laid · FakeTurns: laid.
  DERIVED. THE GIVEN ROWS OF THIS SEAT. 4 by the template 'for every input the law returns true; each argument reads behind the call as it read before'; 0 by the template 'total and deterministic' (their statements: YtphgjjmlnkgghaaGreatDoorTotals.lean).
  GIVEN WITH THE SEED: the statements are not yours to turn. If you find one false, say at which input.
  Laid BY PROGRAM, IN A SANDBOX (cutbox-rows.mjs): the forced cells as the released guide's own fill.sh prints them over the translation 7e7df7c5d5a3bc9b… (all of the seat's roots in one cut). By AI agents, Wed Nov 11 2026. No macro, syntax, notation, axiom, sorry.
-/
import Derived.Test.YtphgjjmlnkgghaaGreatDoorChecked
import GoSem.Claim
import GoSem.ClaimJoined
import GoSem.ClaimMapViews
import Derived.JoinedTies
import Derived.KernelRfl
namespace Go.Proofs.YtphgjjmlnkgghaaGreatDoor
/- THE CELL 'sum', in the pinned program and in every row, IS THE sha256 OF THE DUMP (.gsa) THAT YtphgjjmlnkgghaaGreatDoorProg.lean LOADS. Nothing in Lean hashes anything: it is a label: what it is worth is what the hold of that sum in a sandbox is worth. -/
noncomputable def Tryz.pinned : Pinned := { name := "ytphgjjmlnkgghaagreatdoor", sum := "7e7df7c5d5a3bc9be3bb8fa6bb5cd1371a3b8fd04f96e5ce58f343d42fbb6b4e", checked := Tryz.checked }
namespace Rows
def none {H : Type} : Left H := { results := [], args := [] }

/- WHAT THE LISTED PACKAGE-LEVEL VARIABLES READ AS WHEN THE CALL BEGINS. Each datum BY PROGRAM (the guide's laid-datum.mjs) off the statement by which the dump's own 'gosem.cut.vars' lays the variable. In a bare row this is a premise. The card (YtphgjjmlnkgghaaGreatDoorCards.lean) ties it to the program's text. -/
def laid_crocus_fake_can {H : Type} : DataW H := .iface "func table" (.agg [.iface "func" (.lit (.string [40, 99, 114, 111, 99, 117, 115, 47, 102, 97, 107, 101, 46, 112, 114, 111, 98, 101, 41, 46, 109, 105, 115, 115, 101, 115])), .iface "func" (.lit (.string [40, 99, 114, 111, 99, 117, 115, 47, 102, 97, 107, 101, 46, 112, 114, 111, 98, 101, 41, 46, 102, 105, 110, 100, 115]))])
def laid_crocus_fake_over {H : Type} : DataW H := .agg [.lit (.int .i64 0), .lit (.int .i64 0)]
def laid_crocus_turn_checks {H : Type} : DataW H := .iface "func table" (.agg [.iface "func" (.lit (.string [40, 42, 99, 114, 111, 99, 117, 115, 47, 116, 117, 114, 110, 46, 100, 105, 116, 99, 104, 41, 46, 112, 101, 111, 112, 108, 101])), .iface "func" (.lit (.string [40, 42, 99, 114, 111, 99, 117, 115, 47, 116, 117, 114, 110, 46, 100, 105, 116, 99, 104, 41, 46, 116, 105, 109, 101, 115])), .iface "func" (.lit (.string [40, 42, 99, 114, 111, 99, 117, 115, 47, 116, 117, 114, 110, 46, 100, 105, 116, 99, 104, 41, 46, 99, 104, 97, 110, 103, 101, 115])), .iface "func" (.lit (.string [40, 42, 99, 114, 111, 99, 117, 115, 47, 116, 117, 114, 110, 46, 100, 105, 116, 99, 104, 41, 46, 103, 114, 111, 117, 110, 100]))])

/-- 'crocuslaw08.FakeRead': WHATEVER THE INPUT: true; the input reads as it did. -/
def fakeReadSpec : ChangeSpec := { name := "fakeRead", fn := fun _ => fun
  | [d1, d2, d3, d4] => { results := [.lit (.bool true)], args := [d1, d2, d3, d4] }
  | _ => none }
def fakeReadRow : OpenClaim := { program := "ytphgjjmlnkgghaagreatdoor", sum := "7e7df7c5d5a3bc9be3bb8fa6bb5cd1371a3b8fd04f96e5ce58f343d42fbb6b4e", func := "crocus/crocuslaw08.FakeRead", spec := "fakeRead", unfollowed := true, recurses := true, named := ["crocus/fake.can", "crocus/fake.over"], plainKeys := false, leaving := true, apart := false, laid := [("crocus/fake.can", laid_crocus_fake_can), ("crocus/fake.over", laid_crocus_fake_over)] }
def FakeReadSaid : Prop := fakeReadRow.holds Tryz.pinned (OpenSpec.ofChange fakeReadSpec)

/-- ITS FALSE NEIGHBOUR: 'it returns false'. Refute it at one input. -/
def fakeReadWrong : ChangeSpec := { name := "fakeRead", fn := fun _ => fun
  | [d1, d2, d3, d4] => { results := [.lit (.bool false)], args := [d1, d2, d3, d4] }
  | _ => none }
def FakeReadWrongFalsely : Prop := fakeReadRow.holds Tryz.pinned (OpenSpec.ofChange fakeReadWrong)

/-- 'crocuslaw08.FakeWet': WHATEVER THE INPUT: true; the input reads as it did. -/
def fakeWetSpec : ChangeSpec := { name := "fakeWet", fn := fun _ => fun
  | [d1, d2] => { results := [.lit (.bool true)], args := [d1, d2] }
  | _ => none }
def fakeWetRow : OpenClaim := { program := "ytphgjjmlnkgghaagreatdoor", sum := "7e7df7c5d5a3bc9be3bb8fa6bb5cd1371a3b8fd04f96e5ce58f343d42fbb6b4e", func := "crocus/crocuslaw08.FakeWet", spec := "fakeWet", unfollowed := true, recurses := true, named := ["crocus/fake.can", "crocus/fake.over"], plainKeys := false, leaving := true, apart := false, laid := [("crocus/fake.can", laid_crocus_fake_can), ("crocus/fake.over", laid_crocus_fake_over)] }
def FakeWetSaid : Prop := fakeWetRow.holds Tryz.pinned (OpenSpec.ofChange fakeWetSpec)

/-- ITS FALSE NEIGHBOUR: 'it returns false'. Refute it at one input. -/
def fakeWetWrong : ChangeSpec := { name := "fakeWet", fn := fun _ => fun
  | [d1, d2] => { results := [.lit (.bool false)], args := [d1, d2] }
  | _ => none }
def FakeWetWrongFalsely : Prop := fakeWetRow.holds Tryz.pinned (OpenSpec.ofChange fakeWetWrong)

/-- 'crocuslaw08.FakeThreads': WHATEVER THE INPUT: true; the input reads as it did. -/
def fakeThreadsSpec : ChangeSpec := { name := "fakeThreads", fn := fun _ => fun
  | [d1, d2, d3, d4] => { results := [.lit (.bool true)], args := [d1, d2, d3, d4] }
  | _ => none }
def fakeThreadsRow : OpenClaim := { program := "ytphgjjmlnkgghaagreatdoor", sum := "7e7df7c5d5a3bc9be3bb8fa6bb5cd1371a3b8fd04f96e5ce58f343d42fbb6b4e", func := "crocus/crocuslaw08.FakeThreads", spec := "fakeThreads", unfollowed := true, recurses := true, named := ["crocus/fake.can", "crocus/fake.over"], plainKeys := false, leaving := true, apart := false, laid := [("crocus/fake.can", laid_crocus_fake_can), ("crocus/fake.over", laid_crocus_fake_over)] }
def FakeThreadsSaid : Prop := fakeThreadsRow.holds Tryz.pinned (OpenSpec.ofChange fakeThreadsSpec)

/-- ITS FALSE NEIGHBOUR: 'it returns false'. Refute it at one input. -/
def fakeThreadsWrong : ChangeSpec := { name := "fakeThreads", fn := fun _ => fun
  | [d1, d2, d3, d4] => { results := [.lit (.bool false)], args := [d1, d2, d3, d4] }
  | _ => none }
def FakeThreadsWrongFalsely : Prop := fakeThreadsRow.holds Tryz.pinned (OpenSpec.ofChange fakeThreadsWrong)

/-- 'crocuslaw08.FakeTurns': WHATEVER THE INPUT: true; the input reads as it did. -/
def fakeTurnsSpec : ChangeSpec := { name := "fakeTurns", fn := fun _ => fun
  | [d1, d2, d3, d4] => { results := [.lit (.bool true)], args := [d1, d2, d3, d4] }
  | _ => none }
def fakeTurnsRow : OpenClaim := { program := "ytphgjjmlnkgghaagreatdoor", sum := "7e7df7c5d5a3bc9be3bb8fa6bb5cd1371a3b8fd04f96e5ce58f343d42fbb6b4e", func := "crocus/crocuslaw08.FakeTurns", spec := "fakeTurns", unfollowed := true, recurses := true, named := ["crocus/fake.can", "crocus/fake.over", "crocus/turn.checks"], plainKeys := false, leaving := true, apart := false, laid := [("crocus/fake.can", laid_crocus_fake_can), ("crocus/fake.over", laid_crocus_fake_over), ("crocus/turn.checks", laid_crocus_turn_checks)] }
def FakeTurnsSaid : Prop := fakeTurnsRow.holds Tryz.pinned (OpenSpec.ofChange fakeTurnsSpec)

/-- ITS FALSE NEIGHBOUR: 'it returns false'. Refute it at one input. -/
def fakeTurnsWrong : ChangeSpec := { name := "fakeTurns", fn := fun _ => fun
  | [d1, d2, d3, d4] => { results := [.lit (.bool false)], args := [d1, d2, d3, d4] }
  | _ => none }
def FakeTurnsWrongFalsely : Prop := fakeTurnsRow.holds Tryz.pinned (OpenSpec.ofChange fakeTurnsWrong)

/- THE SECOND FORM. 'bulk': how many values and letters a reading holds, each counted each time it is reached (what is shared counts as often as it is met; a slice's spare places count too). A statement '..UptoSaid' is the law's where the arguments, and the package variables that the reading takes, are together of bulk at most 1048576: NARROWER than '..Said'. Prove '..Said' where nothing that the law and all that it calls make is longer than what came in: it says more and counts as full. Else prove '..UptoSaid'. A law counts once. -/
mutual
def uptoBulk {H : Type} : DataW H → Nat
  | .lit (.string bytes) => bytes.length + 1
  | .lit _ => 1
  | .nil => 1
  | .ptr d => uptoBulk d + 1
  | .slice elems spare => uptoBulkAll elems + uptoBulkAll spare + 1
  | .agg parts => uptoBulkAll parts + 1
  | .iface _ d => uptoBulk d + 1
  | .map entries => uptoBulkEntries entries + 1
  | .held _ => 1
def uptoBulkAll {H : Type} : List (DataW H) → Nat
  | [] => 0
  | d :: r => uptoBulk d + uptoBulkAll r
def uptoBulkEntries {H : Type} : List (Lit × DataW H) → Nat
  | [] => 0
  | x :: r => uptoBulkEntry x + uptoBulkEntries r
def uptoBulkEntry {H : Type} : Lit × DataW H → Nat
  | (.string bytes, d) => bytes.length + uptoBulk d + 1
  | (_, d) => uptoBulk d + 1
 end
def uptoSmall : (H : Type) → List (DataW H) → Bool := fun _ ds => decide (uptoBulkAll ds ≤ 1048576)
def OpenSpec.upto (s : _root_.Go.ChangeSpec) : _root_.Go.OpenSpec := { _root_.Go.OpenSpec.ofChange s with cond := some uptoSmall }

/-- 'crocuslaw08.FakeRead', WHERE WHAT IT READS IS OF BULK AT MOST 1048576: true; the input reads as it did. -/
def fakeReadUptoRow : OpenClaim := { program := "ytphgjjmlnkgghaagreatdoor", sum := "7e7df7c5d5a3bc9be3bb8fa6bb5cd1371a3b8fd04f96e5ce58f343d42fbb6b4e", func := "crocus/crocuslaw08.FakeRead", spec := "fakeRead", unfollowed := true, recurses := true, named := ["crocus/fake.can", "crocus/fake.over"], plainKeys := false, leaving := true, apart := false, laid := [("crocus/fake.can", laid_crocus_fake_can), ("crocus/fake.over", laid_crocus_fake_over)], narrowed := true }
def FakeReadUptoSaid : Prop := fakeReadUptoRow.holds Tryz.pinned (OpenSpec.upto fakeReadSpec)

/-- 'crocuslaw08.FakeWet', WHERE WHAT IT READS IS OF BULK AT MOST 1048576: true; the input reads as it did. -/
def fakeWetUptoRow : OpenClaim := { program := "ytphgjjmlnkgghaagreatdoor", sum := "7e7df7c5d5a3bc9be3bb8fa6bb5cd1371a3b8fd04f96e5ce58f343d42fbb6b4e", func := "crocus/crocuslaw08.FakeWet", spec := "fakeWet", unfollowed := true, recurses := true, named := ["crocus/fake.can", "crocus/fake.over"], plainKeys := false, leaving := true, apart := false, laid := [("crocus/fake.can", laid_crocus_fake_can), ("crocus/fake.over", laid_crocus_fake_over)], narrowed := true }
def FakeWetUptoSaid : Prop := fakeWetUptoRow.holds Tryz.pinned (OpenSpec.upto fakeWetSpec)

/-- 'crocuslaw08.FakeThreads', WHERE WHAT IT READS IS OF BULK AT MOST 1048576: true; the input reads as it did. -/
def fakeThreadsUptoRow : OpenClaim := { program := "ytphgjjmlnkgghaagreatdoor", sum := "7e7df7c5d5a3bc9be3bb8fa6bb5cd1371a3b8fd04f96e5ce58f343d42fbb6b4e", func := "crocus/crocuslaw08.FakeThreads", spec := "fakeThreads", unfollowed := true, recurses := true, named := ["crocus/fake.can", "crocus/fake.over"], plainKeys := false, leaving := true, apart := false, laid := [("crocus/fake.can", laid_crocus_fake_can), ("crocus/fake.over", laid_crocus_fake_over)], narrowed := true }
def FakeThreadsUptoSaid : Prop := fakeThreadsUptoRow.holds Tryz.pinned (OpenSpec.upto fakeThreadsSpec)

/-- 'crocuslaw08.FakeTurns', WHERE WHAT IT READS IS OF BULK AT MOST 1048576: true; the input reads as it did. -/
def fakeTurnsUptoRow : OpenClaim := { program := "ytphgjjmlnkgghaagreatdoor", sum := "7e7df7c5d5a3bc9be3bb8fa6bb5cd1371a3b8fd04f96e5ce58f343d42fbb6b4e", func := "crocus/crocuslaw08.FakeTurns", spec := "fakeTurns", unfollowed := true, recurses := true, named := ["crocus/fake.can", "crocus/fake.over", "crocus/turn.checks"], plainKeys := false, leaving := true, apart := false, laid := [("crocus/fake.can", laid_crocus_fake_can), ("crocus/fake.over", laid_crocus_fake_over), ("crocus/turn.checks", laid_crocus_turn_checks)], narrowed := true }
def FakeTurnsUptoSaid : Prop := fakeTurnsUptoRow.holds Tryz.pinned (OpenSpec.upto fakeTurnsSpec)

end Rows
end Go.Proofs.YtphgjjmlnkgghaaGreatDoor
