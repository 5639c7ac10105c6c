/-
  DERIVED. GIVEN WITH THE SEED: THE PROGRAM's TIES (one call each: nine closed facts by the kernel) AND EACH ROW's TIE, after the 31st guide's Derived/Test/Toyas{Tie, Card}.lean. No idea stands in it: it is a product of the set-up. Laid BY PROGRAM, IN A SANDBOX (cutbox-door.mjs). By AI agents, Wed Nov 11 2026. No macro, syntax, notation, axiom, sorry.
-/
import Derived.Test.YtphgjjmlnkgghaaDoorRows
import Derived.LaidByTextLater
import Derived.SevenTiedAt
import Derived.LaidSub
import Derived.LaidOnce
namespace Go.Proofs.YtphgjjmlnkgghaaDoor
open Go
set_option maxRecDepth 100000
theorem seatTie1 : Tryd.prog.laidByTextLater [("crocus/fake.can", Rows.laid_crocus_fake_can), ("crocus/fake.over", Rows.laid_crocus_fake_over), ("crocus/pick.checks", Rows.laid_crocus_pick_checks), ("crocus/pick.nowhere", Rows.laid_crocus_pick_nowhere)] [.funcs, .data, .funcs, .data] true :=
  Program.laidByTextLater_by_one 29 8 3 (by kernel_rfl) (by kernel_rfl) (by kernel_rfl) (by kernel_rfl) (by kernel_rfl) (by kernel_rfl) (fun _ _ => by kernel_rfl)
theorem noOwnUnsafe : Tryd.pinned.checked.prog.headLifts.contains "ownunsafe" = false := by kernel_rfl
theorem tie : Tryd.prog.laidByTextLater [("crocus/fake.can", Rows.laid_crocus_fake_can), ("crocus/fake.over", Rows.laid_crocus_fake_over), ("crocus/pick.checks", Rows.laid_crocus_pick_checks), ("crocus/pick.nowhere", Rows.laid_crocus_pick_nowhere)] [.funcs, .data, .funcs, .data] true :=
  Program.laidByTextLater.sub seatTie1 ["crocus/fake.can", "crocus/fake.over", "crocus/pick.checks", "crocus/pick.nowhere"] (by kernel_rfl) (by kernel_rfl)
theorem fakePicked_row_tie : Rows.fakePickedRow.laidByTextAt .later Tryd.pinned [.funcs, .data, .funcs, .data] true :=
  OpenClaim.laidByTextAt_later rfl rfl tie noOwnUnsafe
theorem fakePickedUpto_row_tie : Rows.fakePickedUptoRow.laidByTextAt .later Tryd.pinned [.funcs, .data, .funcs, .data] true :=
  OpenClaim.laidByTextAt_later rfl rfl tie noOwnUnsafe
end Go.Proofs.YtphgjjmlnkgghaaDoor
