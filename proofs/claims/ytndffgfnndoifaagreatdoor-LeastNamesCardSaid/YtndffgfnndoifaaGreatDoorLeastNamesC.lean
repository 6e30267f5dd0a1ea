/- LeastNames: calls of functions of the program, each worked out once by the kernel in the abstract machine (part 3). -/
import Derived.Test.YtndffgfnndoifaaGreatDoorLeastNamesB
namespace Go.Proofs.YtndffgfnndoifaaGreatDoor.leastNames
open Go.ChangeShapes Go.WideShapes Go.ChangeAt Go.WideMaps Go.WideElems Go.RowKit Go.Am
set_option linter.unusedVariables false
set_option linter.unusedSimpArgs false
set_option maxRecDepth 1000000
noncomputable def x18_0 : TL × TL := ((.cl (.string ⟨⟨[116, 121, 112, 101, 32, 105, 110, 116, 10, 116, 121, 112, 101, 32, 112, 116, 114, 32, 116, 48, 10, 116, 121, 112, 101, 32, 112, 116, 114, 32, 116, 49, 10, 116, 121, 112, 101, 32, 102, 110, 32, 116, 48, 10, 116, 121, 112, 101, 32, 102, 110, 32, 116, 49, 32, 116, 49, 10, 116, 121, 112, 101, 32, 115, 116, 114, 117, 99, 116, 32, 116, 48, 32, 116, 49, 10, 116, 121, 112, 101, 32, 112, 116, 114, 32, 116, 53, 10, 102, 117, 110, 99, 32, 116, 51, 10, 98, 108, 111, 99, 107, 10, 114, 48, 32, 116, 54, 32, 61, 32, 110, 101, 119, 10, 114, 49, 32, 116, 50, 32, 61, 32, 102, 105, 101, 108, 100, 32, 114, 48, 32, 49, 10, 114, 50, 32, 116, 49, 32, 61, 32, 108, 111, 99, 97, 108, 10, 115, 116, 111, 114, 101, 32, 114, 49, 32, 114, 50, 10, 114, 52, 32, 116, 52, 32, 61, 32, 102, 110, 32, 102, 49, 10, 114, 53, 32, 116, 49, 32, 61, 32, 105, 99, 97, 108, 108, 32, 114, 52, 32, 114, 50, 10, 114, 54, 32, 116, 49, 32, 61, 32, 108, 111, 97, 100, 32, 114, 49, 10, 114, 55, 32, 116, 48, 32, 61, 32, 105, 110, 116, 32, 49, 10, 114, 101, 116, 117, 114, 110, 32, 114, 55, 10, 102, 117, 110, 99, 32, 116, 52, 10, 98, 108, 111, 99, 107, 10, 114, 101, 116, 117, 114, 110, 32, 114, 48, 10]⟩⟩) .nil), (.ag q4 (.cl (.int .i64 0) .nil)))
theorem e18_0 : evM Tryz.prog tab15 700 18 laidL x18_0 = some (.bool true) := by kernel_rfl
noncomputable def x18_1 : TL × TL := ((.cl (.string ⟨⟨[116, 121, 112, 101, 32, 105, 110, 116, 10, 116, 121, 112, 101, 32, 112, 116, 114, 32, 116, 48, 10, 116, 121, 112, 101, 32, 112, 116, 114, 32, 116, 49, 10, 116, 121, 112, 101, 32, 102, 110, 32, 116, 48, 10, 102, 117, 110, 99, 32, 116, 51, 10, 98, 108, 111, 99, 107, 10, 114, 48, 32, 116, 50, 32, 61, 32, 110, 101, 119, 10, 114, 49, 32, 116, 49, 32, 61, 32, 108, 111, 97, 100, 32, 114, 48, 10, 114, 50, 32, 116, 48, 32, 61, 32, 105, 110, 116, 32, 49, 10, 114, 101, 116, 117, 114, 110, 32, 114, 50, 10]⟩⟩) .nil), (.ag q7 (.cl (.int .i64 0) .nil)))
theorem e18_1 : evM Tryz.prog tab15 700 18 laidL x18_1 = some (.bool true) := by kernel_rfl
/-- fescue/read.Read -/
noncomputable def l18 : List (TL × TL) := [x18_0, x18_1]
noncomputable def tab16 : Tab := tab15.know 18 (memo laidL l18)
theorem ok16 : tab16.Ok Tryz.prog := ok15.know Tryz.checked.mixed (n := 700) closedAll (List.forall_mem_cons.2 ⟨e18_0, List.forall_mem_cons.2 ⟨e18_1, fun p hp => by cases hp⟩⟩)
noncomputable def x21_0 : TL × TL := ((.ag q4 .nil), (.sl 5 9 (.cl (.int .u8 1) (.cl (.int .i64 0) (.cl (.int .i64 0) (.cl (.int .i64 3) (.cl (.slice none 0 0) (.cl (.int .u8 1) (.cl (.int .i64 12) (.cl (.int .i64 0) (.cl (.int .i64 0) (.cl (.slice none 0 0) (.cl (.int .u8 3) (.cl (.int .i64 1) (.cl (.int .i64 0) (.cl (.int .i64 1) (.cl (.slice none 0 0) (.cl (.int .u8 1) (.cl (.int .i64 2) (.cl (.int .i64 0) (.cl (.int .i64 5) (.cl (.slice none 0 0) (.cl (.int .u8 5) (.cl (.int .i64 1) (.cl (.int .i64 2) (.cl (.int .i64 0) (.cl (.slice none 0 0) (.cl (.int .u8 1) (.cl (.int .i64 4) (.cl (.int .i64 0) (.cl (.int .i64 2) (.cl (.slice none 0 0) (.cl (.int .u8 6) (.cl (.int .i64 5) (.cl (.int .i64 4) (.cl (.int .i64 0) (.sl 1 1 (.cl (.int .i64 2) .nil) (.cl (.int .u8 4) (.cl (.int .i64 6) (.cl (.int .i64 1) (.cl (.int .i64 0) (.cl (.slice none 0 0) (.cl (.int .u8 2) (.cl (.int .i64 10) (.cl (.int .i64 8) (.cl (.int .i64 0) (.cl (.slice none 0 0) .nil))))))))))))))))))))))))))))))))))))))))))))) (.cl (.int .i64 0) .nil)))
theorem e21_0 : evM Tryz.prog tab16 700 21 laidL x21_0 = some (.bool true) := by kernel_rfl
noncomputable def x21_1 : TL × TL := ((.ag q7 .nil), (.sl 5 3 (.cl (.int .u8 1) (.cl (.int .i64 0) (.cl (.int .i64 0) (.cl (.int .i64 2) (.cl (.slice none 0 0) (.cl (.int .u8 1) (.cl (.int .i64 4) (.cl (.int .i64 0) (.cl (.int .i64 0) (.cl (.slice none 0 0) (.cl (.int .u8 4) (.cl (.int .i64 1) (.cl (.int .i64 0) (.cl (.int .i64 0) (.cl (.slice none 0 0) .nil))))))))))))))) (.cl (.int .i64 0) .nil)))
theorem e21_1 : evM Tryz.prog tab16 700 21 laidL x21_1 = some (.bool true) := by kernel_rfl
/-- fescue/cons.Of -/
noncomputable def l21 : List (TL × TL) := [x21_0, x21_1]
noncomputable def tab17 : Tab := tab16.know 21 (memo laidL l21)
theorem ok17 : tab17.Ok Tryz.prog := ok16.know Tryz.checked.mixed (n := 700) closedAll (List.forall_mem_cons.2 ⟨e21_0, List.forall_mem_cons.2 ⟨e21_1, fun p hp => by cases hp⟩⟩)
end Go.Proofs.YtndffgfnndoifaaGreatDoor.leastNames
