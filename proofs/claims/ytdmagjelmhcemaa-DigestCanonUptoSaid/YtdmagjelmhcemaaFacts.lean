/- Closed facts on the sizes of the program's types. -/
import Derived.Test.YtdmagjelmhcemaaRows
import Derived.Test.YtdmagjelmhcemaaB
import Derived.KernelRfl
namespace Go.Proofs.Ytdmagjelmhcemaa
open Go.RowKit
set_option linter.unusedVariables false
set_option linter.unusedSimpArgs false

theorem size2 : (Try.prog.info? 2).map (·.size) = some 1 := by kernel_rfl
theorem size3 : (Try.prog.info? 3).map (·.size) = some 1 := by kernel_rfl
theorem size4 : (Try.prog.info? 4).map (·.size) = some 1 := by kernel_rfl
theorem size5 : (Try.prog.info? 5).map (·.size) = some 1 := by kernel_rfl
theorem size6 : (Try.prog.info? 6).map (·.size) = some 1 := by kernel_rfl
theorem size7 : (Try.prog.info? 7).map (·.size) = some 4 := by kernel_rfl
theorem size8 : (Try.prog.info? 8).map (·.size) = some 4 := by kernel_rfl
theorem size9 : (Try.prog.info? 9).map (·.size) = some 1 := by kernel_rfl
theorem size10 : (Try.prog.info? 10).map (·.size) = some 1 := by kernel_rfl
theorem size11 : (Try.prog.info? 11).map (·.size) = some 1 := by kernel_rfl
theorem size12 : (Try.prog.info? 12).map (·.size) = some 1 := by kernel_rfl
theorem size13 : (Try.prog.info? 13).map (·.size) = some 2 := by kernel_rfl
theorem size14 : (Try.prog.info? 14).map (·.size) = some 2 := by kernel_rfl
theorem size15 : (Try.prog.info? 15).map (·.size) = some 1 := by kernel_rfl
theorem size16 : (Try.prog.info? 16).map (·.size) = some 1 := by kernel_rfl
theorem size17 : (Try.prog.info? 17).map (·.size) = some 1 := by kernel_rfl
theorem size18 : (Try.prog.info? 18).map (·.size) = some 1 := by kernel_rfl
theorem size19 : (Try.prog.info? 19).map (·.size) = some 1 := by kernel_rfl
theorem size20 : (Try.prog.info? 20).map (·.size) = some 1 := by kernel_rfl
theorem size21 : (Try.prog.info? 21).map (·.size) = some 1 := by kernel_rfl
theorem size22 : (Try.prog.info? 22).map (·.size) = some 32 := by kernel_rfl
theorem size23 : (Try.prog.info? 23).map (·.size) = some 32 := by kernel_rfl
theorem size24 : (Try.prog.info? 24).map (·.size) = some 20 := by kernel_rfl
theorem size25 : (Try.prog.info? 25).map (·.size) = some 20 := by kernel_rfl
theorem size28 : (Try.prog.info? 28).map (·.size) = some 1 := by kernel_rfl
theorem size35 : (Try.prog.info? 35).map (·.size) = some 1 := by kernel_rfl
theorem size40 : (Try.prog.info? 40).map (·.size) = some 1 := by kernel_rfl
theorem size41 : (Try.prog.info? 41).map (·.size) = some 1 := by kernel_rfl
theorem size42 : (Try.prog.info? 42).map (·.size) = some 2 := by kernel_rfl
theorem size43 : (Try.prog.info? 43).map (·.size) = some 2 := by kernel_rfl
theorem size50 : (Try.prog.info? 50).map (·.size) = some 1 := by kernel_rfl
theorem size52 : (Try.prog.info? 52).map (·.size) = some 3 := by kernel_rfl
theorem size61 : (Try.prog.info? 61).map (·.size) = some 4 := by kernel_rfl
theorem size62 : (Try.prog.info? 62).map (·.size) = some 4 := by kernel_rfl
theorem size63 : (Try.prog.info? 63).map (·.size) = some 0 := by kernel_rfl
theorem size64 : (Try.prog.info? 64).map (·.size) = some 0 := by kernel_rfl
theorem size65 : (Try.prog.info? 65).map (·.size) = some 0 := by kernel_rfl
theorem size67 : (Try.prog.info? 67).map (·.size) = some 1 := by kernel_rfl
theorem size68 : (Try.prog.info? 68).map (·.size) = some 1 := by kernel_rfl
theorem size69 : (Try.prog.info? 69).map (·.size) = some 1 := by kernel_rfl
theorem size71 : (Try.prog.info? 71).map (·.size) = some 1 := by kernel_rfl
theorem size72 : (Try.prog.info? 72).map (·.size) = some 1 := by kernel_rfl
theorem size73 : (Try.prog.info? 73).map (·.size) = some 1 := by kernel_rfl
theorem size74 : (Try.prog.info? 74).map (·.size) = some 11 := by kernel_rfl
theorem size75 : (Try.prog.info? 75).map (·.size) = some 11 := by kernel_rfl
theorem size76 : (Try.prog.info? 76).map (·.size) = some 1 := by kernel_rfl
theorem info52 : Info Try.prog 52 (.agg #[.int .u8 0, .int .u8 0, .int .u8 0]) 3 3 := by unfold Info; kernel_rfl
theorem info5 : Info Try.prog 5 (.int .u8 0) 1 1 := by unfold Info; kernel_rfl
theorem info28 : Info Try.prog 28 (.slice none 0 0) 1 24 := by unfold Info; kernel_rfl

end Go.Proofs.Ytdmagjelmhcemaa
