/- SoundNames: calls of functions of the program, each worked out once by the kernel in the abstract machine (part 2). -/
import Derived.Test.YteekipjpghikkaaGreatDoorSoundNamesA
namespace Go.Proofs.YteekipjpghikkaaGreatDoor.soundNames
open Go.ChangeShapes Go.WideShapes Go.ChangeAt Go.WideMaps Go.WideElems Go.RowKit Go.Am
set_option linter.unusedVariables false
set_option linter.unusedSimpArgs false
set_option maxRecDepth 1000000
noncomputable def x66_10 : TL × TL := ((.ag q22 (.cl (.int .i64 0) .nil)), (.sl 1 1 (.cl (.int .i64 0) .nil) (.cl (.int .i64 0) .nil)))
theorem e66_10 : evM Tryz.prog tab5 700 66 laidL x66_10 = some (.bool true) := by kernel_rfl
noncomputable def x66_11 : TL × TL := ((.ag q24 (.cl (.int .i64 0) .nil)), (.sl 1 1 (.cl (.int .i64 0) .nil) (.cl (.int .i64 0) .nil)))
theorem e66_11 : evM Tryz.prog tab5 700 66 laidL x66_11 = some (.bool true) := by kernel_rfl
noncomputable def x66_12 : TL × TL := ((.ag q26 (.cl (.int .i64 0) .nil)), (.sl 1 2 (.cl (.int .i64 0) (.cl (.int .i64 1) .nil)) (.cl (.int .i64 0) .nil)))
theorem e66_12 : evM Tryz.prog tab5 700 66 laidL x66_12 = some (.bool true) := by kernel_rfl
noncomputable def x66_13 : TL × TL := ((.ag q28 (.cl (.int .i64 0) .nil)), (.sl 1 1 (.cl (.int .i64 0) .nil) (.cl (.int .i64 0) .nil)))
theorem e66_13 : evM Tryz.prog tab5 700 66 laidL x66_13 = some (.bool true) := by kernel_rfl
noncomputable def x66_14 : TL × TL := ((.ag q30 (.cl (.int .i64 0) .nil)), (.sl 1 2 (.cl (.int .i64 0) (.cl (.int .i64 1) .nil)) (.cl (.int .i64 0) .nil)))
theorem e66_14 : evM Tryz.prog tab5 700 66 laidL x66_14 = some (.bool true) := by kernel_rfl
noncomputable def x66_15 : TL × TL := ((.ag q32 (.cl (.int .i64 0) .nil)), (.sl 1 1 (.cl (.int .i64 0) .nil) (.cl (.int .i64 0) .nil)))
theorem e66_15 : evM Tryz.prog tab5 700 66 laidL x66_15 = some (.bool true) := by kernel_rfl
noncomputable def x66_16 : TL × TL := ((.ag q34 (.cl (.int .i64 0) .nil)), (.sl 1 2 (.cl (.int .i64 0) (.cl (.int .i64 1) .nil)) (.cl (.int .i64 0) .nil)))
theorem e66_16 : evM Tryz.prog tab5 700 66 laidL x66_16 = some (.bool true) := by kernel_rfl
noncomputable def x66_17 : TL × TL := ((.ag q36 (.cl (.int .i64 0) .nil)), (.sl 1 2 (.cl (.int .i64 0) (.cl (.int .i64 1) .nil)) (.cl (.int .i64 0) .nil)))
theorem e66_17 : evM Tryz.prog tab5 700 66 laidL x66_17 = some (.bool true) := by kernel_rfl
noncomputable def x66_18 : TL × TL := ((.ag q38 (.cl (.int .i64 0) .nil)), (.sl 1 2 (.cl (.int .i64 0) (.cl (.int .i64 1) .nil)) (.cl (.int .i64 0) .nil)))
theorem e66_18 : evM Tryz.prog tab5 700 66 laidL x66_18 = some (.bool true) := by kernel_rfl
noncomputable def x66_19 : TL × TL := ((.ag q39 (.cl (.int .i64 0) .nil)), (.sl 1 2 (.cl (.int .i64 0) (.cl (.int .i64 1) .nil)) (.cl (.int .i64 0) .nil)))
theorem e66_19 : evM Tryz.prog tab5 700 66 laidL x66_19 = some (.bool true) := by kernel_rfl
/-- fescue/flow.Reach -/
noncomputable def l66 : List (TL × TL) := [x66_0, x66_1, x66_2, x66_3, x66_4, x66_5, x66_6, x66_7, x66_8, x66_9, x66_10, x66_11, x66_12, x66_13, x66_14, x66_15, x66_16, x66_17, x66_18, x66_19]
noncomputable def tab6 : Tab := tab5.know 66 (memo laidL l66)
theorem ok6 : tab6.Ok Tryz.prog := ok5.know Tryz.checked.mixed (n := 700) closedAll (List.forall_mem_cons.2 ⟨e66_0, List.forall_mem_cons.2 ⟨e66_1, List.forall_mem_cons.2 ⟨e66_2, List.forall_mem_cons.2 ⟨e66_3, List.forall_mem_cons.2 ⟨e66_4, List.forall_mem_cons.2 ⟨e66_5, List.forall_mem_cons.2 ⟨e66_6, List.forall_mem_cons.2 ⟨e66_7, List.forall_mem_cons.2 ⟨e66_8, List.forall_mem_cons.2 ⟨e66_9, List.forall_mem_cons.2 ⟨e66_10, List.forall_mem_cons.2 ⟨e66_11, List.forall_mem_cons.2 ⟨e66_12, List.forall_mem_cons.2 ⟨e66_13, List.forall_mem_cons.2 ⟨e66_14, List.forall_mem_cons.2 ⟨e66_15, List.forall_mem_cons.2 ⟨e66_16, List.forall_mem_cons.2 ⟨e66_17, List.forall_mem_cons.2 ⟨e66_18, List.forall_mem_cons.2 ⟨e66_19, fun p hp => by cases hp⟩⟩⟩⟩⟩⟩⟩⟩⟩⟩⟩⟩⟩⟩⟩⟩⟩⟩⟩⟩)
noncomputable def x19_0 : TL × TL := ((.ag q5 (.cl (.int .i64 0) (.cl (.int .i64 0) .nil))), (.cl (.slice none 0 0) (.cl (.int .i64 0) .nil)))
theorem e19_0 : evM Tryz.prog tab6 700 19 laidL x19_0 = some (.bool true) := by kernel_rfl
noncomputable def x19_1 : TL × TL := ((.ag q5 (.cl (.int .i64 1) (.cl (.int .i64 0) .nil))), (.cl (.slice none 0 0) (.cl (.int .i64 0) .nil)))
theorem e19_1 : evM Tryz.prog tab6 700 19 laidL x19_1 = some (.bool true) := by kernel_rfl
noncomputable def x19_2 : TL × TL := ((.ag q10 (.cl (.int .i64 0) (.cl (.int .i64 0) .nil))), (.cl (.slice none 0 0) (.cl (.int .i64 0) .nil)))
theorem e19_2 : evM Tryz.prog tab6 700 19 laidL x19_2 = some (.bool true) := by kernel_rfl
noncomputable def x19_3 : TL × TL := ((.ag q10 (.cl (.int .i64 1) (.cl (.int .i64 0) .nil))), (.cl (.slice none 0 0) (.cl (.int .i64 0) .nil)))
theorem e19_3 : evM Tryz.prog tab6 700 19 laidL x19_3 = some (.bool true) := by kernel_rfl
noncomputable def x19_4 : TL × TL := ((.ag q12 (.cl (.int .i64 0) (.cl (.int .i64 0) .nil))), (.cl (.slice none 0 0) (.cl (.int .i64 0) .nil)))
theorem e19_4 : evM Tryz.prog tab6 700 19 laidL x19_4 = some (.bool true) := by kernel_rfl
noncomputable def x19_5 : TL × TL := ((.ag q12 (.cl (.int .i64 0) (.cl (.int .i64 1) .nil))), (.sl 1 2 (.cl (.int .i64 0) (.cl (.int .i64 1) .nil)) (.cl (.int .i64 0) .nil)))
theorem e19_5 : evM Tryz.prog tab6 700 19 laidL x19_5 = some (.bool true) := by kernel_rfl
noncomputable def x19_6 : TL × TL := ((.ag q12 (.cl (.int .i64 0) (.cl (.int .i64 2) .nil))), (.sl 1 1 (.cl (.int .i64 1) .nil) (.cl (.int .i64 0) .nil)))
theorem e19_6 : evM Tryz.prog tab6 700 19 laidL x19_6 = some (.bool true) := by kernel_rfl
noncomputable def x19_7 : TL × TL := ((.ag q12 (.cl (.int .i64 1) (.cl (.int .i64 0) .nil))), (.cl (.slice none 0 0) (.cl (.int .i64 0) .nil)))
theorem e19_7 : evM Tryz.prog tab6 700 19 laidL x19_7 = some (.bool true) := by kernel_rfl
noncomputable def x19_8 : TL × TL := ((.ag q14 (.cl (.int .i64 0) (.cl (.int .i64 0) .nil))), (.cl (.slice none 0 0) (.cl (.int .i64 0) .nil)))
theorem e19_8 : evM Tryz.prog tab6 700 19 laidL x19_8 = some (.bool true) := by kernel_rfl
noncomputable def x19_9 : TL × TL := ((.ag q16 (.cl (.int .i64 0) (.cl (.int .i64 0) .nil))), (.cl (.slice none 0 0) (.cl (.int .i64 0) .nil)))
theorem e19_9 : evM Tryz.prog tab6 700 19 laidL x19_9 = some (.bool true) := by kernel_rfl
noncomputable def x19_10 : TL × TL := ((.ag q18 (.cl (.int .i64 0) (.cl (.int .i64 0) .nil))), (.cl (.slice none 0 0) (.cl (.int .i64 0) .nil)))
theorem e19_10 : evM Tryz.prog tab6 700 19 laidL x19_10 = some (.bool true) := by kernel_rfl
noncomputable def x19_11 : TL × TL := ((.ag q20 (.cl (.int .i64 0) (.cl (.int .i64 0) .nil))), (.cl (.slice none 0 0) (.cl (.int .i64 0) .nil)))
theorem e19_11 : evM Tryz.prog tab6 700 19 laidL x19_11 = some (.bool true) := by kernel_rfl
noncomputable def x19_12 : TL × TL := ((.ag q22 (.cl (.int .i64 0) (.cl (.int .i64 0) .nil))), (.sl 1 1 (.cl (.int .i64 0) .nil) (.cl (.int .i64 0) .nil)))
theorem e19_12 : evM Tryz.prog tab6 700 19 laidL x19_12 = some (.bool true) := by kernel_rfl
noncomputable def x19_13 : TL × TL := ((.ag q26 (.cl (.int .i64 0) (.cl (.int .i64 0) .nil))), (.cl (.slice none 0 0) (.cl (.int .i64 0) .nil)))
theorem e19_13 : evM Tryz.prog tab6 700 19 laidL x19_13 = some (.bool true) := by kernel_rfl
noncomputable def x19_14 : TL × TL := ((.ag q26 (.cl (.int .i64 0) (.cl (.int .i64 1) .nil))), (.sl 1 1 (.cl (.int .i64 0) .nil) (.cl (.int .i64 0) .nil)))
theorem e19_14 : evM Tryz.prog tab6 700 19 laidL x19_14 = some (.bool true) := by kernel_rfl
noncomputable def x19_15 : TL × TL := ((.ag q28 (.cl (.int .i64 0) (.cl (.int .i64 0) .nil))), (.cl (.slice none 0 0) (.cl (.int .i64 0) .nil)))
theorem e19_15 : evM Tryz.prog tab6 700 19 laidL x19_15 = some (.bool true) := by kernel_rfl
noncomputable def x19_16 : TL × TL := ((.ag q30 (.cl (.int .i64 0) (.cl (.int .i64 0) .nil))), (.cl (.slice none 0 0) (.cl (.int .i64 0) .nil)))
theorem e19_16 : evM Tryz.prog tab6 700 19 laidL x19_16 = some (.bool true) := by kernel_rfl
noncomputable def x19_17 : TL × TL := ((.ag q30 (.cl (.int .i64 0) (.cl (.int .i64 1) .nil))), (.sl 1 1 (.cl (.int .i64 0) .nil) (.cl (.int .i64 0) .nil)))
theorem e19_17 : evM Tryz.prog tab6 700 19 laidL x19_17 = some (.bool true) := by kernel_rfl
noncomputable def x19_18 : TL × TL := ((.ag q32 (.cl (.int .i64 0) (.cl (.int .i64 0) .nil))), (.cl (.slice none 0 0) (.cl (.int .i64 0) .nil)))
theorem e19_18 : evM Tryz.prog tab6 700 19 laidL x19_18 = some (.bool true) := by kernel_rfl
noncomputable def x19_19 : TL × TL := ((.ag q34 (.cl (.int .i64 0) (.cl (.int .i64 0) .nil))), (.cl (.slice none 0 0) (.cl (.int .i64 0) .nil)))
theorem e19_19 : evM Tryz.prog tab6 700 19 laidL x19_19 = some (.bool true) := by kernel_rfl
noncomputable def x19_20 : TL × TL := ((.ag q34 (.cl (.int .i64 0) (.cl (.int .i64 1) .nil))), (.sl 1 1 (.cl (.int .i64 0) .nil) (.cl (.int .i64 0) .nil)))
theorem e19_20 : evM Tryz.prog tab6 700 19 laidL x19_20 = some (.bool true) := by kernel_rfl
noncomputable def x19_21 : TL × TL := ((.ag q36 (.cl (.int .i64 0) (.cl (.int .i64 0) .nil))), (.cl (.slice none 0 0) (.cl (.int .i64 0) .nil)))
theorem e19_21 : evM Tryz.prog tab6 700 19 laidL x19_21 = some (.bool true) := by kernel_rfl
noncomputable def x19_22 : TL × TL := ((.ag q36 (.cl (.int .i64 0) (.cl (.int .i64 1) .nil))), (.sl 1 1 (.cl (.int .i64 0) .nil) (.cl (.int .i64 0) .nil)))
theorem e19_22 : evM Tryz.prog tab6 700 19 laidL x19_22 = some (.bool true) := by kernel_rfl
noncomputable def x19_23 : TL × TL := ((.ag q38 (.cl (.int .i64 0) (.cl (.int .i64 0) .nil))), (.cl (.slice none 0 0) (.cl (.int .i64 0) .nil)))
theorem e19_23 : evM Tryz.prog tab6 700 19 laidL x19_23 = some (.bool true) := by kernel_rfl
noncomputable def x19_24 : TL × TL := ((.ag q38 (.cl (.int .i64 0) (.cl (.int .i64 1) .nil))), (.sl 1 1 (.cl (.int .i64 0) .nil) (.cl (.int .i64 0) .nil)))
theorem e19_24 : evM Tryz.prog tab6 700 19 laidL x19_24 = some (.bool true) := by kernel_rfl
/-- fescue/flow.Preds -/
noncomputable def l19 : List (TL × TL) := [x19_0, x19_1, x19_2, x19_3, x19_4, x19_5, x19_6, x19_7, x19_8, x19_9, x19_10, x19_11, x19_12, x19_13, x19_14, x19_15, x19_16, x19_17, x19_18, x19_19, x19_20, x19_21, x19_22, x19_23, x19_24]
noncomputable def tab7 : Tab := tab6.know 19 (memo laidL l19)
theorem ok7 : tab7.Ok Tryz.prog := ok6.know Tryz.checked.mixed (n := 700) closedAll (List.forall_mem_cons.2 ⟨e19_0, List.forall_mem_cons.2 ⟨e19_1, List.forall_mem_cons.2 ⟨e19_2, List.forall_mem_cons.2 ⟨e19_3, List.forall_mem_cons.2 ⟨e19_4, List.forall_mem_cons.2 ⟨e19_5, List.forall_mem_cons.2 ⟨e19_6, List.forall_mem_cons.2 ⟨e19_7, List.forall_mem_cons.2 ⟨e19_8, List.forall_mem_cons.2 ⟨e19_9, List.forall_mem_cons.2 ⟨e19_10, List.forall_mem_cons.2 ⟨e19_11, List.forall_mem_cons.2 ⟨e19_12, List.forall_mem_cons.2 ⟨e19_13, List.forall_mem_cons.2 ⟨e19_14, List.forall_mem_cons.2 ⟨e19_15, List.forall_mem_cons.2 ⟨e19_16, List.forall_mem_cons.2 ⟨e19_17, List.forall_mem_cons.2 ⟨e19_18, List.forall_mem_cons.2 ⟨e19_19, List.forall_mem_cons.2 ⟨e19_20, List.forall_mem_cons.2 ⟨e19_21, List.forall_mem_cons.2 ⟨e19_22, List.forall_mem_cons.2 ⟨e19_23, List.forall_mem_cons.2 ⟨e19_24, fun p hp => by cases hp⟩⟩⟩⟩⟩⟩⟩⟩⟩⟩⟩⟩⟩⟩⟩⟩⟩⟩⟩⟩⟩⟩⟩⟩⟩)
noncomputable def x138_0 : TL × TL := ((.ag q5 (.cl (.int .i64 0) .nil)), (.sl 1 1 (.cl (.int .i64 0) .nil) (.cl (.int .i64 0) .nil)))
theorem e138_0 : evM Tryz.prog tab7 700 138 laidL x138_0 = some (.bool true) := by kernel_rfl
noncomputable def x138_1 : TL × TL := ((.ag q5 (.cl (.int .i64 1) .nil)), (.sl 1 1 (.cl (.int .i64 0) .nil) (.cl (.int .i64 0) .nil)))
theorem e138_1 : evM Tryz.prog tab7 700 138 laidL x138_1 = some (.bool true) := by kernel_rfl
noncomputable def x138_2 : TL × TL := ((.ag q10 (.cl (.int .i64 0) .nil)), (.sl 1 1 (.cl (.int .i64 0) .nil) (.cl (.int .i64 0) .nil)))
theorem e138_2 : evM Tryz.prog tab7 700 138 laidL x138_2 = some (.bool true) := by kernel_rfl
noncomputable def x138_3 : TL × TL := ((.ag q10 (.cl (.int .i64 1) .nil)), (.sl 1 1 (.cl (.int .i64 0) .nil) (.cl (.int .i64 0) .nil)))
theorem e138_3 : evM Tryz.prog tab7 700 138 laidL x138_3 = some (.bool true) := by kernel_rfl
noncomputable def x138_4 : TL × TL := ((.ag q12 (.cl (.int .i64 0) .nil)), (.sl 1 3 (.cl (.int .i64 0) (.cl (.int .i64 1) (.cl (.int .i64 2) .nil))) (.cl (.int .i64 0) .nil)))
theorem e138_4 : evM Tryz.prog tab7 700 138 laidL x138_4 = some (.bool true) := by kernel_rfl
noncomputable def x138_5 : TL × TL := ((.ag q12 (.cl (.int .i64 1) .nil)), (.sl 1 1 (.cl (.int .i64 0) .nil) (.cl (.int .i64 0) .nil)))
theorem e138_5 : evM Tryz.prog tab7 700 138 laidL x138_5 = some (.bool true) := by kernel_rfl
noncomputable def x138_6 : TL × TL := ((.ag q14 (.cl (.int .i64 0) .nil)), (.sl 1 1 (.cl (.int .i64 0) .nil) (.cl (.int .i64 0) .nil)))
theorem e138_6 : evM Tryz.prog tab7 700 138 laidL x138_6 = some (.bool true) := by kernel_rfl
noncomputable def x138_7 : TL × TL := ((.ag q16 (.cl (.int .i64 0) .nil)), (.sl 1 1 (.cl (.int .i64 0) .nil) (.cl (.int .i64 0) .nil)))
theorem e138_7 : evM Tryz.prog tab7 700 138 laidL x138_7 = some (.bool true) := by kernel_rfl
noncomputable def x138_8 : TL × TL := ((.ag q18 (.cl (.int .i64 0) .nil)), (.sl 1 1 (.cl (.int .i64 0) .nil) (.cl (.int .i64 0) .nil)))
theorem e138_8 : evM Tryz.prog tab7 700 138 laidL x138_8 = some (.bool true) := by kernel_rfl
noncomputable def x138_9 : TL × TL := ((.ag q20 (.cl (.int .i64 0) .nil)), (.sl 1 1 (.cl (.int .i64 0) .nil) (.cl (.int .i64 0) .nil)))
theorem e138_9 : evM Tryz.prog tab7 700 138 laidL x138_9 = some (.bool true) := by kernel_rfl
noncomputable def x138_10 : TL × TL := ((.ag q22 (.cl (.int .i64 0) .nil)), (.sl 1 1 (.cl (.int .i64 0) .nil) (.cl (.int .i64 0) .nil)))
theorem e138_10 : evM Tryz.prog tab7 700 138 laidL x138_10 = some (.bool true) := by kernel_rfl
noncomputable def x138_11 : TL × TL := ((.ag q24 (.cl (.int .i64 0) .nil)), (.sl 1 1 (.cl (.int .i64 0) .nil) (.cl (.int .i64 0) .nil)))
theorem e138_11 : evM Tryz.prog tab7 700 138 laidL x138_11 = some (.bool true) := by kernel_rfl
noncomputable def x138_12 : TL × TL := ((.ag q26 (.cl (.int .i64 0) .nil)), (.sl 1 2 (.cl (.int .i64 0) (.cl (.int .i64 1) .nil)) (.cl (.int .i64 0) .nil)))
theorem e138_12 : evM Tryz.prog tab7 700 138 laidL x138_12 = some (.bool true) := by kernel_rfl
noncomputable def x138_13 : TL × TL := ((.ag q28 (.cl (.int .i64 0) .nil)), (.sl 1 1 (.cl (.int .i64 0) .nil) (.cl (.int .i64 0) .nil)))
theorem e138_13 : evM Tryz.prog tab7 700 138 laidL x138_13 = some (.bool true) := by kernel_rfl
noncomputable def x138_14 : TL × TL := ((.ag q30 (.cl (.int .i64 0) .nil)), (.sl 1 2 (.cl (.int .i64 0) (.cl (.int .i64 1) .nil)) (.cl (.int .i64 0) .nil)))
theorem e138_14 : evM Tryz.prog tab7 700 138 laidL x138_14 = some (.bool true) := by kernel_rfl
noncomputable def x138_15 : TL × TL := ((.ag q32 (.cl (.int .i64 0) .nil)), (.sl 1 1 (.cl (.int .i64 0) .nil) (.cl (.int .i64 0) .nil)))
theorem e138_15 : evM Tryz.prog tab7 700 138 laidL x138_15 = some (.bool true) := by kernel_rfl
noncomputable def x138_16 : TL × TL := ((.ag q34 (.cl (.int .i64 0) .nil)), (.sl 1 2 (.cl (.int .i64 0) (.cl (.int .i64 1) .nil)) (.cl (.int .i64 0) .nil)))
theorem e138_16 : evM Tryz.prog tab7 700 138 laidL x138_16 = some (.bool true) := by kernel_rfl
noncomputable def x138_17 : TL × TL := ((.ag q36 (.cl (.int .i64 0) .nil)), (.sl 1 2 (.cl (.int .i64 0) (.cl (.int .i64 1) .nil)) (.cl (.int .i64 0) .nil)))
theorem e138_17 : evM Tryz.prog tab7 700 138 laidL x138_17 = some (.bool true) := by kernel_rfl
noncomputable def x138_18 : TL × TL := ((.ag q38 (.cl (.int .i64 0) .nil)), (.sl 1 2 (.cl (.int .i64 0) (.cl (.int .i64 1) .nil)) (.cl (.int .i64 0) .nil)))
theorem e138_18 : evM Tryz.prog tab7 700 138 laidL x138_18 = some (.bool true) := by kernel_rfl
noncomputable def x138_19 : TL × TL := ((.ag q39 (.cl (.int .i64 0) .nil)), (.sl 1 2 (.cl (.int .i64 0) (.cl (.int .i64 1) .nil)) (.cl (.int .i64 0) .nil)))
theorem e138_19 : evM Tryz.prog tab7 700 138 laidL x138_19 = some (.bool true) := by kernel_rfl
/-- fescue/flow.Order -/
noncomputable def l138 : List (TL × TL) := [x138_0, x138_1, x138_2, x138_3, x138_4, x138_5, x138_6, x138_7, x138_8, x138_9, x138_10, x138_11, x138_12, x138_13, x138_14, x138_15, x138_16, x138_17, x138_18, x138_19]
noncomputable def tab8 : Tab := tab7.know 138 (memo laidL l138)
theorem ok8 : tab8.Ok Tryz.prog := ok7.know Tryz.checked.mixed (n := 700) closedAll (List.forall_mem_cons.2 ⟨e138_0, List.forall_mem_cons.2 ⟨e138_1, List.forall_mem_cons.2 ⟨e138_2, List.forall_mem_cons.2 ⟨e138_3, List.forall_mem_cons.2 ⟨e138_4, List.forall_mem_cons.2 ⟨e138_5, List.forall_mem_cons.2 ⟨e138_6, List.forall_mem_cons.2 ⟨e138_7, List.forall_mem_cons.2 ⟨e138_8, List.forall_mem_cons.2 ⟨e138_9, List.forall_mem_cons.2 ⟨e138_10, List.forall_mem_cons.2 ⟨e138_11, List.forall_mem_cons.2 ⟨e138_12, List.forall_mem_cons.2 ⟨e138_13, List.forall_mem_cons.2 ⟨e138_14, List.forall_mem_cons.2 ⟨e138_15, List.forall_mem_cons.2 ⟨e138_16, List.forall_mem_cons.2 ⟨e138_17, List.forall_mem_cons.2 ⟨e138_18, List.forall_mem_cons.2 ⟨e138_19, fun p hp => by cases hp⟩⟩⟩⟩⟩⟩⟩⟩⟩⟩⟩⟩⟩⟩⟩⟩⟩⟩⟩⟩)
noncomputable def x56_0 : TL × TL := ((.ag q5 (.cl (.int .i64 0) .nil)), (.sl 1 1 (.cl (.int .i64 (-1)) .nil) (.cl (.int .i64 0) .nil)))
theorem e56_0 : evM Tryz.prog tab8 700 56 laidL x56_0 = some (.bool true) := by kernel_rfl
noncomputable def x56_1 : TL × TL := ((.ag q5 (.cl (.int .i64 1) .nil)), (.sl 1 1 (.cl (.int .i64 (-1)) .nil) (.cl (.int .i64 0) .nil)))
theorem e56_1 : evM Tryz.prog tab8 700 56 laidL x56_1 = some (.bool true) := by kernel_rfl
noncomputable def x56_2 : TL × TL := ((.ag q10 (.cl (.int .i64 0) .nil)), (.sl 1 1 (.cl (.int .i64 (-1)) .nil) (.cl (.int .i64 0) .nil)))
theorem e56_2 : evM Tryz.prog tab8 700 56 laidL x56_2 = some (.bool true) := by kernel_rfl
noncomputable def x56_3 : TL × TL := ((.ag q10 (.cl (.int .i64 1) .nil)), (.sl 1 1 (.cl (.int .i64 (-1)) .nil) (.cl (.int .i64 0) .nil)))
theorem e56_3 : evM Tryz.prog tab8 700 56 laidL x56_3 = some (.bool true) := by kernel_rfl
noncomputable def x56_4 : TL × TL := ((.ag q12 (.cl (.int .i64 0) .nil)), (.sl 1 3 (.cl (.int .i64 (-1)) (.cl (.int .i64 0) (.cl (.int .i64 1) .nil))) (.cl (.int .i64 0) .nil)))
theorem e56_4 : evM Tryz.prog tab8 700 56 laidL x56_4 = some (.bool true) := by kernel_rfl
noncomputable def x56_5 : TL × TL := ((.ag q12 (.cl (.int .i64 1) .nil)), (.sl 1 1 (.cl (.int .i64 (-1)) .nil) (.cl (.int .i64 0) .nil)))
theorem e56_5 : evM Tryz.prog tab8 700 56 laidL x56_5 = some (.bool true) := by kernel_rfl
noncomputable def x56_6 : TL × TL := ((.ag q14 (.cl (.int .i64 0) .nil)), (.sl 1 1 (.cl (.int .i64 (-1)) .nil) (.cl (.int .i64 0) .nil)))
theorem e56_6 : evM Tryz.prog tab8 700 56 laidL x56_6 = some (.bool true) := by kernel_rfl
noncomputable def x56_7 : TL × TL := ((.ag q16 (.cl (.int .i64 0) .nil)), (.sl 1 1 (.cl (.int .i64 (-1)) .nil) (.cl (.int .i64 0) .nil)))
theorem e56_7 : evM Tryz.prog tab8 700 56 laidL x56_7 = some (.bool true) := by kernel_rfl
noncomputable def x56_8 : TL × TL := ((.ag q18 (.cl (.int .i64 0) .nil)), (.sl 1 1 (.cl (.int .i64 (-1)) .nil) (.cl (.int .i64 0) .nil)))
theorem e56_8 : evM Tryz.prog tab8 700 56 laidL x56_8 = some (.bool true) := by kernel_rfl
noncomputable def x56_9 : TL × TL := ((.ag q20 (.cl (.int .i64 0) .nil)), (.sl 1 1 (.cl (.int .i64 (-1)) .nil) (.cl (.int .i64 0) .nil)))
theorem e56_9 : evM Tryz.prog tab8 700 56 laidL x56_9 = some (.bool true) := by kernel_rfl
noncomputable def x56_10 : TL × TL := ((.ag q22 (.cl (.int .i64 0) .nil)), (.sl 1 1 (.cl (.int .i64 (-1)) .nil) (.cl (.int .i64 0) .nil)))
theorem e56_10 : evM Tryz.prog tab8 700 56 laidL x56_10 = some (.bool true) := by kernel_rfl
noncomputable def x56_11 : TL × TL := ((.ag q24 (.cl (.int .i64 0) .nil)), (.sl 1 2 (.cl (.int .i64 (-1)) (.cl (.int .i64 (-1)) .nil)) (.cl (.int .i64 0) .nil)))
theorem e56_11 : evM Tryz.prog tab8 700 56 laidL x56_11 = some (.bool true) := by kernel_rfl
noncomputable def x56_12 : TL × TL := ((.ag q26 (.cl (.int .i64 0) .nil)), (.sl 1 2 (.cl (.int .i64 (-1)) (.cl (.int .i64 0) .nil)) (.cl (.int .i64 0) .nil)))
theorem e56_12 : evM Tryz.prog tab8 700 56 laidL x56_12 = some (.bool true) := by kernel_rfl
noncomputable def x56_13 : TL × TL := ((.ag q28 (.cl (.int .i64 0) .nil)), (.sl 1 1 (.cl (.int .i64 (-1)) .nil) (.cl (.int .i64 0) .nil)))
theorem e56_13 : evM Tryz.prog tab8 700 56 laidL x56_13 = some (.bool true) := by kernel_rfl
noncomputable def x56_14 : TL × TL := ((.ag q30 (.cl (.int .i64 0) .nil)), (.sl 1 2 (.cl (.int .i64 (-1)) (.cl (.int .i64 0) .nil)) (.cl (.int .i64 0) .nil)))
theorem e56_14 : evM Tryz.prog tab8 700 56 laidL x56_14 = some (.bool true) := by kernel_rfl
noncomputable def x56_15 : TL × TL := ((.ag q32 (.cl (.int .i64 0) .nil)), (.sl 1 1 (.cl (.int .i64 (-1)) .nil) (.cl (.int .i64 0) .nil)))
theorem e56_15 : evM Tryz.prog tab8 700 56 laidL x56_15 = some (.bool true) := by kernel_rfl
noncomputable def x56_16 : TL × TL := ((.ag q34 (.cl (.int .i64 0) .nil)), (.sl 1 2 (.cl (.int .i64 (-1)) (.cl (.int .i64 0) .nil)) (.cl (.int .i64 0) .nil)))
theorem e56_16 : evM Tryz.prog tab8 700 56 laidL x56_16 = some (.bool true) := by kernel_rfl
noncomputable def x56_17 : TL × TL := ((.ag q36 (.cl (.int .i64 0) .nil)), (.sl 1 2 (.cl (.int .i64 (-1)) (.cl (.int .i64 0) .nil)) (.cl (.int .i64 0) .nil)))
theorem e56_17 : evM Tryz.prog tab8 700 56 laidL x56_17 = some (.bool true) := by kernel_rfl
noncomputable def x56_18 : TL × TL := ((.ag q38 (.cl (.int .i64 0) .nil)), (.sl 1 2 (.cl (.int .i64 (-1)) (.cl (.int .i64 0) .nil)) (.cl (.int .i64 0) .nil)))
theorem e56_18 : evM Tryz.prog tab8 700 56 laidL x56_18 = some (.bool true) := by kernel_rfl
noncomputable def x56_19 : TL × TL := ((.ag q39 (.cl (.int .i64 0) .nil)), (.sl 1 2 (.cl (.int .i64 (-1)) (.cl (.int .i64 0) .nil)) (.cl (.int .i64 0) .nil)))
theorem e56_19 : evM Tryz.prog tab8 700 56 laidL x56_19 = some (.bool true) := by kernel_rfl
/-- fescue/dom.All -/
noncomputable def l56 : List (TL × TL) := [x56_0, x56_1, x56_2, x56_3, x56_4, x56_5, x56_6, x56_7, x56_8, x56_9, x56_10, x56_11, x56_12, x56_13, x56_14, x56_15, x56_16, x56_17, x56_18, x56_19]
noncomputable def tab9 : Tab := tab8.know 56 (memo laidL l56)
theorem ok9 : tab9.Ok Tryz.prog := ok8.know Tryz.checked.mixed (n := 700) closedAll (List.forall_mem_cons.2 ⟨e56_0, List.forall_mem_cons.2 ⟨e56_1, List.forall_mem_cons.2 ⟨e56_2, List.forall_mem_cons.2 ⟨e56_3, List.forall_mem_cons.2 ⟨e56_4, List.forall_mem_cons.2 ⟨e56_5, List.forall_mem_cons.2 ⟨e56_6, List.forall_mem_cons.2 ⟨e56_7, List.forall_mem_cons.2 ⟨e56_8, List.forall_mem_cons.2 ⟨e56_9, List.forall_mem_cons.2 ⟨e56_10, List.forall_mem_cons.2 ⟨e56_11, List.forall_mem_cons.2 ⟨e56_12, List.forall_mem_cons.2 ⟨e56_13, List.forall_mem_cons.2 ⟨e56_14, List.forall_mem_cons.2 ⟨e56_15, List.forall_mem_cons.2 ⟨e56_16, List.forall_mem_cons.2 ⟨e56_17, List.forall_mem_cons.2 ⟨e56_18, List.forall_mem_cons.2 ⟨e56_19, fun p hp => by cases hp⟩⟩⟩⟩⟩⟩⟩⟩⟩⟩⟩⟩⟩⟩⟩⟩⟩⟩⟩⟩)
noncomputable def x12_0 : TL × TL := ((.ag q5 .nil), (.cl (.int .i64 0) .nil))
theorem e12_0 : evM Tryz.prog tab9 700 12 laidL x12_0 = some (.bool true) := by kernel_rfl
end Go.Proofs.YteekipjpghikkaaGreatDoor.soundNames
