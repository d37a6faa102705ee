import Derived.Test.YtciondmibomehaaGreatDoorTB
import Derived.Test.YtciondmibomehaaGreatDoorTC
import Derived.LaidByTextLater
import Derived.SevenTiedAt
import Derived.LaidSub
set_option maxRecDepth 100000
set_option linter.unusedSectionVars false
set_option linter.unusedVariables false
set_option linter.unusedSimpArgs false
set_option linter.constructorNameAsVariable false
noncomputable section
namespace Go.Proofs.YtciondmibomehaaGreatDoor
open Go
theorem seatTie : Tryz.prog.laidByTextLater tl [.sentinel, .sentinel, .data, .data, .data, .data] true := Program.laidByTextLater_by_one 72 8 65 t1 t2 t3 t4 t5 t6 t7
theorem pinU : Tryz.pinned.checked.prog.pinnedFits "unicode/utf8.first" = true := by kernel_rfl
theorem noOwn : Tryz.pinned.checked.prog.headLifts.contains "ownunsafe" = false := by kernel_rfl
theorem fits1 : Tryz.pinned.checked.prog.listedFits Rows.yardBooksRow.laid = true := by
 unfold Program.listedFits
 rw [noOwn]
 kernel_rfl
theorem row_tie : Rows.yardBooksRow.laidByTextAt .later Tryz.pinned [.sentinel, .sentinel, .data, .data, .data, .pinned, .data] true :=
 OpenClaim.laidByTextAt_pinned rfl rfl seatTie rfl rfl rfl rfl (fun y hy _e => by
 simp only [Rows.yardBooksRow, List.zip_cons_cons, List.zip_nil_right, List.mem_cons, List.mem_nil_iff, or_false] at hy
 rcases hy with rfl | rfl | rfl | rfl | rfl | rfl | rfl
 ·cases _e
 ·cases _e
 ·cases _e
 ·cases _e
 ·cases _e
 ·exact ⟨pinU, by kernel_rfl⟩
 ·cases _e) fits1
end Go.Proofs.YtciondmibomehaaGreatDoor
end
