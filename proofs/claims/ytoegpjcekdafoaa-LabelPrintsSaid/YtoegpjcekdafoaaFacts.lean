/- Closed facts on the sizes of the program's types. -/
import Derived.Test.YtoegpjcekdafoaaRows
import Derived.Test.YtoegpjcekdafoaaB
import Derived.KernelRfl
namespace Go.Proofs.Ytoegpjcekdafoaa
open Go.RowKit
set_option linter.unusedVariables false
set_option linter.unusedSimpArgs false

theorem size2 : (Try.prog.info? 2).map (·.size) = some 1 := by kernel_rfl
theorem size3 : (Try.prog.info? 3).map (·.size) = some 1 := by kernel_rfl
theorem size4 : (Try.prog.info? 4).map (·.size) = some 1 := by kernel_rfl
theorem size5 : (Try.prog.info? 5).map (·.size) = some 1 := by kernel_rfl
theorem size6 : (Try.prog.info? 6).map (·.size) = some 1 := by kernel_rfl
theorem size7 : (Try.prog.info? 7).map (·.size) = some 4 := by kernel_rfl
theorem size8 : (Try.prog.info? 8).map (·.size) = some 4 := by kernel_rfl
theorem size9 : (Try.prog.info? 9).map (·.size) = some 1 := by kernel_rfl
theorem size10 : (Try.prog.info? 10).map (·.size) = some 1 := by kernel_rfl
theorem size11 : (Try.prog.info? 11).map (·.size) = some 1 := by kernel_rfl
theorem size12 : (Try.prog.info? 12).map (·.size) = some 1 := by kernel_rfl
theorem size13 : (Try.prog.info? 13).map (·.size) = some 2 := by kernel_rfl
theorem size14 : (Try.prog.info? 14).map (·.size) = some 2 := by kernel_rfl
theorem size15 : (Try.prog.info? 15).map (·.size) = some 1 := by kernel_rfl
theorem size16 : (Try.prog.info? 16).map (·.size) = some 1 := by kernel_rfl
theorem size17 : (Try.prog.info? 17).map (·.size) = some 1 := by kernel_rfl
theorem size18 : (Try.prog.info? 18).map (·.size) = some 1 := by kernel_rfl
theorem size19 : (Try.prog.info? 19).map (·.size) = some 1 := by kernel_rfl
theorem size20 : (Try.prog.info? 20).map (·.size) = some 1 := by kernel_rfl
theorem size21 : (Try.prog.info? 21).map (·.size) = some 1 := by kernel_rfl
theorem size22 : (Try.prog.info? 22).map (·.size) = some 1 := by kernel_rfl
theorem size26 : (Try.prog.info? 26).map (·.size) = some 20 := by kernel_rfl
theorem size27 : (Try.prog.info? 27).map (·.size) = some 20 := by kernel_rfl
theorem size28 : (Try.prog.info? 28).map (·.size) = some 21 := by kernel_rfl
theorem size29 : (Try.prog.info? 29).map (·.size) = some 21 := by kernel_rfl
theorem size35 : (Try.prog.info? 35).map (·.size) = some 1 := by kernel_rfl
theorem size41 : (Try.prog.info? 41).map (·.size) = some 1 := by kernel_rfl
theorem size45 : (Try.prog.info? 45).map (·.size) = some 4 := by kernel_rfl
theorem size47 : (Try.prog.info? 47).map (·.size) = some 1 := by kernel_rfl
theorem size59 : (Try.prog.info? 59).map (·.size) = some 1 := by kernel_rfl
theorem size66 : (Try.prog.info? 66).map (·.size) = some 1 := by kernel_rfl
theorem size72 : (Try.prog.info? 72).map (·.size) = some 1 := by kernel_rfl
theorem size80 : (Try.prog.info? 80).map (·.size) = some 1 := by kernel_rfl
theorem size82 : (Try.prog.info? 82).map (·.size) = some 1 := by kernel_rfl
theorem size84 : (Try.prog.info? 84).map (·.size) = some 1 := by kernel_rfl
theorem size88 : (Try.prog.info? 88).map (·.size) = some 1 := by kernel_rfl
theorem size90 : (Try.prog.info? 90).map (·.size) = some 1 := by kernel_rfl
theorem size94 : (Try.prog.info? 94).map (·.size) = some 4 := by kernel_rfl
theorem size95 : (Try.prog.info? 95).map (·.size) = some 4 := by kernel_rfl
theorem size96 : (Try.prog.info? 96).map (·.size) = some 0 := by kernel_rfl
theorem size97 : (Try.prog.info? 97).map (·.size) = some 0 := by kernel_rfl
theorem size98 : (Try.prog.info? 98).map (·.size) = some 0 := by kernel_rfl
theorem size100 : (Try.prog.info? 100).map (·.size) = some 1 := by kernel_rfl
theorem size101 : (Try.prog.info? 101).map (·.size) = some 1 := by kernel_rfl
theorem size103 : (Try.prog.info? 103).map (·.size) = some 1 := by kernel_rfl
theorem size104 : (Try.prog.info? 104).map (·.size) = some 1 := by kernel_rfl
theorem size105 : (Try.prog.info? 105).map (·.size) = some 1 := by kernel_rfl
theorem size106 : (Try.prog.info? 106).map (·.size) = some 11 := by kernel_rfl
theorem size107 : (Try.prog.info? 107).map (·.size) = some 11 := by kernel_rfl
theorem size108 : (Try.prog.info? 108).map (·.size) = some 1 := by kernel_rfl
theorem info3 : Info Try.prog 3 (.int .i64 0) 1 8 := by unfold Info; kernel_rfl
theorem info5 : Info Try.prog 5 (.int .u8 0) 1 1 := by unfold Info; kernel_rfl
theorem info9 : Info Try.prog 9 (.string ⟨#[]⟩) 1 16 := by unfold Info; kernel_rfl

end Go.Proofs.Ytoegpjcekdafoaa
