/- Closed facts on the sizes of the program's types. -/
import Derived.Test.YtdmagjelmhcemaaDoorRows
import Derived.Test.YtdmagjelmhcemaaDoorB
import Derived.KernelRfl
namespace Go.Proofs.YtdmagjelmhcemaaDoor
open Go.RowKit
set_option linter.unusedVariables false
set_option linter.unusedSimpArgs false

theorem size2 : (Tryd.prog.info? 2).map (·.size) = some 1 := by kernel_rfl
theorem size3 : (Tryd.prog.info? 3).map (·.size) = some 1 := by kernel_rfl
theorem size4 : (Tryd.prog.info? 4).map (·.size) = some 1 := by kernel_rfl
theorem size5 : (Tryd.prog.info? 5).map (·.size) = some 1 := by kernel_rfl
theorem size6 : (Tryd.prog.info? 6).map (·.size) = some 1 := by kernel_rfl
theorem size7 : (Tryd.prog.info? 7).map (·.size) = some 4 := by kernel_rfl
theorem size8 : (Tryd.prog.info? 8).map (·.size) = some 4 := by kernel_rfl
theorem size9 : (Tryd.prog.info? 9).map (·.size) = some 1 := by kernel_rfl
theorem size10 : (Tryd.prog.info? 10).map (·.size) = some 1 := by kernel_rfl
theorem size11 : (Tryd.prog.info? 11).map (·.size) = some 1 := by kernel_rfl
theorem size12 : (Tryd.prog.info? 12).map (·.size) = some 1 := by kernel_rfl
theorem size13 : (Tryd.prog.info? 13).map (·.size) = some 2 := by kernel_rfl
theorem size14 : (Tryd.prog.info? 14).map (·.size) = some 2 := by kernel_rfl
theorem size15 : (Tryd.prog.info? 15).map (·.size) = some 1 := by kernel_rfl
theorem size16 : (Tryd.prog.info? 16).map (·.size) = some 1 := by kernel_rfl
theorem size17 : (Tryd.prog.info? 17).map (·.size) = some 1 := by kernel_rfl
theorem size18 : (Tryd.prog.info? 18).map (·.size) = some 1 := by kernel_rfl
theorem size19 : (Tryd.prog.info? 19).map (·.size) = some 1 := by kernel_rfl
theorem size20 : (Tryd.prog.info? 20).map (·.size) = some 1 := by kernel_rfl
theorem size21 : (Tryd.prog.info? 21).map (·.size) = some 1 := by kernel_rfl
theorem size22 : (Tryd.prog.info? 22).map (·.size) = some 1 := by kernel_rfl
theorem size24 : (Tryd.prog.info? 24).map (·.size) = some 32 := by kernel_rfl
theorem size25 : (Tryd.prog.info? 25).map (·.size) = some 32 := by kernel_rfl
theorem size27 : (Tryd.prog.info? 27).map (·.size) = some 20 := by kernel_rfl
theorem size28 : (Tryd.prog.info? 28).map (·.size) = some 20 := by kernel_rfl
theorem size33 : (Tryd.prog.info? 33).map (·.size) = some 1 := by kernel_rfl
theorem size34 : (Tryd.prog.info? 34).map (·.size) = some 1 := by kernel_rfl
theorem size36 : (Tryd.prog.info? 36).map (·.size) = some 1 := by kernel_rfl
theorem size37 : (Tryd.prog.info? 37).map (·.size) = some 1 := by kernel_rfl
theorem size39 : (Tryd.prog.info? 39).map (·.size) = some 1 := by kernel_rfl
theorem size40 : (Tryd.prog.info? 40).map (·.size) = some 3 := by kernel_rfl
theorem size41 : (Tryd.prog.info? 41).map (·.size) = some 3 := by kernel_rfl
theorem size42 : (Tryd.prog.info? 42).map (·.size) = some 1 := by kernel_rfl
theorem size48 : (Tryd.prog.info? 48).map (·.size) = some 1 := by kernel_rfl
theorem size53 : (Tryd.prog.info? 53).map (·.size) = some 64 := by kernel_rfl
theorem size61 : (Tryd.prog.info? 61).map (·.size) = some 1 := by kernel_rfl
theorem size62 : (Tryd.prog.info? 62).map (·.size) = some 8 := by kernel_rfl
theorem size64 : (Tryd.prog.info? 64).map (·.size) = some 64 := by kernel_rfl
theorem size65 : (Tryd.prog.info? 65).map (·.size) = some 1 := by kernel_rfl
theorem size66 : (Tryd.prog.info? 66).map (·.size) = some 73 := by kernel_rfl
theorem size67 : (Tryd.prog.info? 67).map (·.size) = some 73 := by kernel_rfl
theorem size68 : (Tryd.prog.info? 68).map (·.size) = some 1 := by kernel_rfl
theorem size69 : (Tryd.prog.info? 69).map (·.size) = some 1 := by kernel_rfl
theorem size71 : (Tryd.prog.info? 71).map (·.size) = some 1 := by kernel_rfl
theorem size72 : (Tryd.prog.info? 72).map (·.size) = some 128 := by kernel_rfl
theorem size73 : (Tryd.prog.info? 73).map (·.size) = some 1 := by kernel_rfl
theorem size79 : (Tryd.prog.info? 79).map (·.size) = some 1 := by kernel_rfl
theorem size80 : (Tryd.prog.info? 80).map (·.size) = some 3 := by kernel_rfl
theorem size83 : (Tryd.prog.info? 83).map (·.size) = some 4 := by kernel_rfl
theorem size84 : (Tryd.prog.info? 84).map (·.size) = some 4 := by kernel_rfl
theorem size85 : (Tryd.prog.info? 85).map (·.size) = some 0 := by kernel_rfl
theorem size86 : (Tryd.prog.info? 86).map (·.size) = some 0 := by kernel_rfl
theorem size87 : (Tryd.prog.info? 87).map (·.size) = some 0 := by kernel_rfl
theorem size88 : (Tryd.prog.info? 88).map (·.size) = some 1 := by kernel_rfl
theorem size89 : (Tryd.prog.info? 89).map (·.size) = some 1 := by kernel_rfl
theorem size91 : (Tryd.prog.info? 91).map (·.size) = some 1 := by kernel_rfl
theorem size92 : (Tryd.prog.info? 92).map (·.size) = some 1 := by kernel_rfl
theorem size93 : (Tryd.prog.info? 93).map (·.size) = some 1 := by kernel_rfl
theorem size94 : (Tryd.prog.info? 94).map (·.size) = some 11 := by kernel_rfl
theorem size95 : (Tryd.prog.info? 95).map (·.size) = some 11 := by kernel_rfl
theorem size96 : (Tryd.prog.info? 96).map (·.size) = some 1 := by kernel_rfl
theorem info62 : Info Tryd.prog 62 (.agg #[.int .u32 0, .int .u32 0, .int .u32 0, .int .u32 0, .int .u32 0, .int .u32 0, .int .u32 0, .int .u32 0]) 8 32 := by unfold Info; kernel_rfl
theorem info80 : Info Tryd.prog 80 (.agg #[.int .u8 0, .int .u8 0, .int .u8 0]) 3 3 := by unfold Info; kernel_rfl
theorem info5 : Info Tryd.prog 5 (.int .u8 0) 1 1 := by unfold Info; kernel_rfl
theorem info22 : Info Tryd.prog 22 (.slice none 0 0) 1 24 := by unfold Info; kernel_rfl
theorem info34 : Info Tryd.prog 34 (.pointer none) 1 8 := by unfold Info; kernel_rfl
theorem info37 : Info Tryd.prog 37 (.pointer none) 1 8 := by unfold Info; kernel_rfl
theorem info61 : Info Tryd.prog 61 (.int .u32 0) 1 4 := by unfold Info; kernel_rfl

end Go.Proofs.YtdmagjelmhcemaaDoor
