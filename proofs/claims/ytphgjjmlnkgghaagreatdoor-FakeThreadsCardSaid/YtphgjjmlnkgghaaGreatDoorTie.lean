/-
  DERIVED. GIVEN WITH THE SEED: THE PROGRAM's TIES (one call each: nine closed facts by the kernel) AND EACH ROW's TIE, after the 31st guide's Derived/Test/Toyas{Tie, Card}.lean. No idea stands in it: it is a product of the set-up. Laid BY PROGRAM, IN A SANDBOX (cutbox-door.mjs). By AI agents, Wed Nov 11 2026. No macro, syntax, notation, axiom, sorry.
-/
import Derived.Test.YtphgjjmlnkgghaaGreatDoorRows
import Derived.LaidByTextLater
import Derived.SevenTiedAt
import Derived.LaidSub
import Derived.LaidOnce
namespace Go.Proofs.YtphgjjmlnkgghaaGreatDoor
open Go
set_option maxRecDepth 100000
theorem seatTie1 : Tryz.prog.laidByTextLater [("crocus/fake.can", Rows.laid_crocus_fake_can), ("crocus/fake.over", Rows.laid_crocus_fake_over), ("crocus/turn.checks", Rows.laid_crocus_turn_checks)] [.funcs, .data, .funcs] true :=
  Program.laidByTextLater_by_one 24 8 3 (by kernel_rfl) (by kernel_rfl) (by kernel_rfl) (by kernel_rfl) (by kernel_rfl) (by kernel_rfl) (fun _ _ => by kernel_rfl)
theorem noOwnUnsafe : Tryz.pinned.checked.prog.headLifts.contains "ownunsafe" = false := by kernel_rfl
theorem tie : Tryz.prog.laidByTextLater [("crocus/fake.can", Rows.laid_crocus_fake_can), ("crocus/fake.over", Rows.laid_crocus_fake_over)] [.funcs, .data] true :=
  Program.laidByTextLater.sub seatTie1 ["crocus/fake.can", "crocus/fake.over"] (by kernel_rfl) (by kernel_rfl)
theorem fakeRead_row_tie : Rows.fakeReadRow.laidByTextAt .later Tryz.pinned [.funcs, .data] true :=
  OpenClaim.laidByTextAt_later rfl rfl tie noOwnUnsafe
theorem fakeWet_row_tie : Rows.fakeWetRow.laidByTextAt .later Tryz.pinned [.funcs, .data] true :=
  OpenClaim.laidByTextAt_later rfl rfl tie noOwnUnsafe
theorem fakeThreads_row_tie : Rows.fakeThreadsRow.laidByTextAt .later Tryz.pinned [.funcs, .data] true :=
  OpenClaim.laidByTextAt_later rfl rfl tie noOwnUnsafe
theorem tie2 : Tryz.prog.laidByTextLater [("crocus/fake.can", Rows.laid_crocus_fake_can), ("crocus/fake.over", Rows.laid_crocus_fake_over), ("crocus/turn.checks", Rows.laid_crocus_turn_checks)] [.funcs, .data, .funcs] true :=
  Program.laidByTextLater.sub seatTie1 ["crocus/fake.can", "crocus/fake.over", "crocus/turn.checks"] (by kernel_rfl) (by kernel_rfl)
theorem fakeTurns_row_tie : Rows.fakeTurnsRow.laidByTextAt .later Tryz.pinned [.funcs, .data, .funcs] true :=
  OpenClaim.laidByTextAt_later rfl rfl tie2 noOwnUnsafe
theorem fakeReadUpto_row_tie : Rows.fakeReadUptoRow.laidByTextAt .later Tryz.pinned [.funcs, .data] true :=
  OpenClaim.laidByTextAt_later rfl rfl tie noOwnUnsafe
theorem fakeWetUpto_row_tie : Rows.fakeWetUptoRow.laidByTextAt .later Tryz.pinned [.funcs, .data] true :=
  OpenClaim.laidByTextAt_later rfl rfl tie noOwnUnsafe
theorem fakeThreadsUpto_row_tie : Rows.fakeThreadsUptoRow.laidByTextAt .later Tryz.pinned [.funcs, .data] true :=
  OpenClaim.laidByTextAt_later rfl rfl tie noOwnUnsafe
theorem fakeTurnsUpto_row_tie : Rows.fakeTurnsUptoRow.laidByTextAt .later Tryz.pinned [.funcs, .data, .funcs] true :=
  OpenClaim.laidByTextAt_later rfl rfl tie2 noOwnUnsafe
end Go.Proofs.YtphgjjmlnkgghaaGreatDoor
