/- SoundNames: calls of functions of the program, each worked out once by the kernel in the abstract machine (part 3). -/
import Derived.Test.YteekipjpghikkaaGreatDoorSoundNamesB
namespace Go.Proofs.YteekipjpghikkaaGreatDoor.soundNames
open Go.ChangeShapes Go.WideShapes Go.ChangeAt Go.WideMaps Go.WideElems Go.RowKit Go.Am
set_option linter.unusedVariables false
set_option linter.unusedSimpArgs false
set_option maxRecDepth 1000000
noncomputable def x12_1 : TL × TL := ((.ag q10 .nil), (.cl (.int .i64 0) .nil))
theorem e12_1 : evM Tryz.prog tab9 700 12 laidL x12_1 = some (.bool true) := by kernel_rfl
noncomputable def x12_2 : TL × TL := ((.ag q12 .nil), (.cl (.int .i64 0) .nil))
theorem e12_2 : evM Tryz.prog tab9 700 12 laidL x12_2 = some (.bool true) := by kernel_rfl
noncomputable def x12_3 : TL × TL := ((.ag q14 .nil), (.cl (.int .i64 120) .nil))
theorem e12_3 : evM Tryz.prog tab9 700 12 laidL x12_3 = some (.bool true) := by kernel_rfl
noncomputable def x12_4 : TL × TL := ((.ag q16 .nil), (.cl (.int .i64 120) .nil))
theorem e12_4 : evM Tryz.prog tab9 700 12 laidL x12_4 = some (.bool true) := by kernel_rfl
noncomputable def x12_5 : TL × TL := ((.ag q18 .nil), (.cl (.int .i64 120) .nil))
theorem e12_5 : evM Tryz.prog tab9 700 12 laidL x12_5 = some (.bool true) := by kernel_rfl
noncomputable def x12_6 : TL × TL := ((.ag q20 .nil), (.cl (.int .i64 120) .nil))
theorem e12_6 : evM Tryz.prog tab9 700 12 laidL x12_6 = some (.bool true) := by kernel_rfl
noncomputable def x12_7 : TL × TL := ((.ag q22 .nil), (.cl (.int .i64 120) .nil))
theorem e12_7 : evM Tryz.prog tab9 700 12 laidL x12_7 = some (.bool true) := by kernel_rfl
noncomputable def x12_8 : TL × TL := ((.ag q24 .nil), (.cl (.int .i64 120) .nil))
theorem e12_8 : evM Tryz.prog tab9 700 12 laidL x12_8 = some (.bool true) := by kernel_rfl
noncomputable def x12_9 : TL × TL := ((.ag q26 .nil), (.cl (.int .i64 120) .nil))
theorem e12_9 : evM Tryz.prog tab9 700 12 laidL x12_9 = some (.bool true) := by kernel_rfl
noncomputable def x12_10 : TL × TL := ((.ag q28 .nil), (.cl (.int .i64 120) .nil))
theorem e12_10 : evM Tryz.prog tab9 700 12 laidL x12_10 = some (.bool true) := by kernel_rfl
noncomputable def x12_11 : TL × TL := ((.ag q30 .nil), (.cl (.int .i64 120) .nil))
theorem e12_11 : evM Tryz.prog tab9 700 12 laidL x12_11 = some (.bool true) := by kernel_rfl
noncomputable def x12_12 : TL × TL := ((.ag q32 .nil), (.cl (.int .i64 120) .nil))
theorem e12_12 : evM Tryz.prog tab9 700 12 laidL x12_12 = some (.bool true) := by kernel_rfl
noncomputable def x12_13 : TL × TL := ((.ag q34 .nil), (.cl (.int .i64 0) .nil))
theorem e12_13 : evM Tryz.prog tab9 700 12 laidL x12_13 = some (.bool true) := by kernel_rfl
noncomputable def x12_14 : TL × TL := ((.ag q36 .nil), (.cl (.int .i64 0) .nil))
theorem e12_14 : evM Tryz.prog tab9 700 12 laidL x12_14 = some (.bool true) := by kernel_rfl
noncomputable def x12_15 : TL × TL := ((.ag q38 .nil), (.cl (.int .i64 120) .nil))
theorem e12_15 : evM Tryz.prog tab9 700 12 laidL x12_15 = some (.bool true) := by kernel_rfl
noncomputable def x12_16 : TL × TL := ((.ag (.cl (.slice none 0 0) (.cl (.slice none 0 0) .nil)) .nil), (.cl (.int .i64 60) .nil))
theorem e12_16 : evM Tryz.prog tab9 700 12 laidL x12_16 = some (.bool true) := by kernel_rfl
noncomputable def x12_17 : TL × TL := ((.ag q39 .nil), (.cl (.int .i64 120) .nil))
theorem e12_17 : evM Tryz.prog tab9 700 12 laidL x12_17 = some (.bool true) := by kernel_rfl
/-- fescue/sound.Check -/
noncomputable def l12 : List (TL × TL) := [x12_0, x12_1, x12_2, x12_3, x12_4, x12_5, x12_6, x12_7, x12_8, x12_9, x12_10, x12_11, x12_12, x12_13, x12_14, x12_15, x12_16, x12_17]
noncomputable def tab10 : Tab := tab9.know 12 (memo laidL l12)
theorem ok10 : tab10.Ok Tryz.prog := ok9.know Tryz.checked.mixed (n := 700) closedAll (List.forall_mem_cons.2 ⟨e12_0, List.forall_mem_cons.2 ⟨e12_1, List.forall_mem_cons.2 ⟨e12_2, List.forall_mem_cons.2 ⟨e12_3, List.forall_mem_cons.2 ⟨e12_4, List.forall_mem_cons.2 ⟨e12_5, List.forall_mem_cons.2 ⟨e12_6, List.forall_mem_cons.2 ⟨e12_7, List.forall_mem_cons.2 ⟨e12_8, List.forall_mem_cons.2 ⟨e12_9, List.forall_mem_cons.2 ⟨e12_10, List.forall_mem_cons.2 ⟨e12_11, List.forall_mem_cons.2 ⟨e12_12, List.forall_mem_cons.2 ⟨e12_13, List.forall_mem_cons.2 ⟨e12_14, List.forall_mem_cons.2 ⟨e12_15, List.forall_mem_cons.2 ⟨e12_16, List.forall_mem_cons.2 ⟨e12_17, fun p hp => by cases hp⟩⟩⟩⟩⟩⟩⟩⟩⟩⟩⟩⟩⟩⟩⟩⟩⟩⟩)
noncomputable def x10_0 : TL × TL := ((.ag q34 (.cl (.int .i64 0) (.cl (.int .i64 1) .nil))), (.cl (.int .i64 0) (.cl (.int .i64 0) .nil)))
theorem e10_0 : evM Tryz.prog tab10 700 10 laidL x10_0 = some (.bool true) := by kernel_rfl
noncomputable def x10_1 : TL × TL := ((.ag q34 (.cl (.int .i64 0) (.cl (.int .i64 2) .nil))), (.cl (.int .i64 0) (.cl (.int .i64 2) .nil)))
theorem e10_1 : evM Tryz.prog tab10 700 10 laidL x10_1 = some (.bool true) := by kernel_rfl
noncomputable def x10_2 : TL × TL := ((.ag q36 (.cl (.int .i64 0) (.cl (.int .i64 1) .nil))), (.cl (.int .i64 0) (.cl (.int .i64 6) .nil)))
theorem e10_2 : evM Tryz.prog tab10 700 10 laidL x10_2 = some (.bool true) := by kernel_rfl
/-- fescue/sound.Kind -/
noncomputable def l10 : List (TL × TL) := [x10_0, x10_1, x10_2]
noncomputable def tab11 : Tab := tab10.know 10 (memo laidL l10)
theorem ok11 : tab11.Ok Tryz.prog := ok10.know Tryz.checked.mixed (n := 700) closedAll (List.forall_mem_cons.2 ⟨e10_0, List.forall_mem_cons.2 ⟨e10_1, List.forall_mem_cons.2 ⟨e10_2, fun p hp => by cases hp⟩⟩⟩)
end Go.Proofs.YteekipjpghikkaaGreatDoor.soundNames
