/- ConsNames: calls of functions of the program, each worked out once by the kernel in the abstract machine (part 1). -/
import Derived.Test.YtmejfcakhpihlaaGreatDoorAmM
import Derived.Test.YtmejfcakhpihlaaGreatDoorAmD
import Derived.Test.YtmejfcakhpihlaaGreatDoorRows
import Derived.WalkKit
import Derived.ProofKit
import Derived.LaidMore
import Derived.OpenShut
import Derived.Stop.Joined
import Derived.SevenTiedAt
namespace Go.Proofs.YtmejfcakhpihlaaGreatDoor.consNames
open Go.ChangeShapes Go.WideShapes Go.ChangeAt Go.WideMaps Go.WideElems Go.RowKit Go.Am
set_option linter.unusedVariables false
set_option linter.unusedSimpArgs false
set_option maxRecDepth 1000000
def laids : List (String × DataW Unit) := [("fescue/shape.table", Rows.laid_fescue_shape_table)]
def cells0 : List Value := flatD 16 (Rows.laid_fescue_shape_table : DataW Unit)
def laidL : List (Nat × List Value) := [(0, cells0)]
theorem closedAll : (laidL.all fun x => Nat.ble (x.1 + 1) Tryz.prog.globals.size && closedL x.2) = true := by kernel_rfl
noncomputable def tab0 : Tab := codeTab Tryz.prog
theorem ok0 : tab0.Ok Tryz.prog := codeTab_ok _
noncomputable def q0 : TL := (.sl 7 8 (.cl (.int .u8 12) (.cl (.int .i64 6) (.cl (.int .i64 0) (.cl (.int .i64 0) (.cl (.int .i64 0) (.cl (.slice none 0 0) (.cl (.slice none 0 0) (.cl (.int .u8 14) (.cl (.int .i64 2) (.cl (.int .i64 0) (.cl (.int .i64 0) (.cl (.int .i64 1) (.cl (.slice none 0 0) (.cl (.slice none 0 0) (.cl (.int .u8 2) (.cl (.int .i64 1) (.cl (.int .i64 0) (.cl (.int .i64 0) (.cl (.int .i64 0) (.cl (.slice none 0 0) (.cl (.slice none 0 0) (.cl (.int .u8 17) (.cl (.int .i64 0) (.cl (.int .i64 1) (.cl (.int .i64 2) (.cl (.int .i64 0) (.cl (.slice none 0 0) (.cl (.slice none 0 0) (.cl (.int .u8 1) (.cl (.int .i64 0) (.cl (.int .i64 0) (.cl (.int .i64 0) (.cl (.int .i64 1) (.cl (.slice none 0 0) (.cl (.slice none 0 0) (.cl (.int .u8 18) (.cl (.int .i64 1) (.cl (.int .i64 0) (.cl (.int .i64 0) (.cl (.int .i64 1) (.sl 1 2 (.cl (.int .i64 2) (.cl (.int .i64 4) .nil)) (.cl (.slice none 0 0) (.cl (.int .u8 3) (.cl (.int .i64 4) (.cl (.int .i64 0) (.cl (.int .i64 0) (.cl (.int .i64 1) (.cl (.slice none 0 0) (.cl (.slice none 0 0) (.cl (.int .u8 19) (.cl (.int .i64 1) (.cl (.int .i64 6) (.cl (.int .i64 0) (.cl (.int .i64 0) (.sl 1 2 (.cl (.int .i64 5) (.cl (.int .i64 4) .nil)) (.cl (.slice none 0 0) .nil)))))))))))))))))))))))))))))))))))))))))))))))))))))))) (.cl (.int .u8 2) (.cl (.int .i64 4) (.cl (.int .i64 1) (.cl (.int .i64 2) (.cl (.slice none 0 0) (.cl (.int .u8 1) (.cl (.int .i64 0) (.cl (.int .i64 3) (.cl (.int .i64 0) (.cl (.slice none 0 0) (.cl (.int .u8 1) (.cl (.int .i64 0) (.cl (.int .i64 3) (.cl (.int .i64 0) (.sl 7 1 (.cl (.int .u8 22) (.cl (.int .i64 1) (.cl (.int .i64 0) (.cl (.int .i64 0) (.cl (.int .i64 0) (.sl 1 2 (.cl (.int .i64 5) (.cl (.int .i64 7) .nil)) (.sl 1 2 (.cl (.int .i64 1) (.cl (.int .i64 2) .nil)) .nil))))))) (.cl (.int .u8 3) (.cl (.int .i64 4) (.cl (.int .i64 0) (.cl (.int .i64 0) .nil))))))))))))))))))))
noncomputable def q1 : TL := (.cl (.int .i64 3) (.sl 5 4 q0 .nil))
noncomputable def q2 : TL := (.cl (.int .i64 3) (.sl 5 4 q0 (.cl (.int .i64 4) (.sl 5 1 (.cl (.slice none 0 0) (.cl (.int .u8 3) (.cl (.int .i64 0) (.cl (.int .i64 0) (.cl (.int .i64 0) .nil))))) .nil))))
noncomputable def q3 : TL := (.cl (.int .u8 1) (.cl (.int .i64 0) (.cl (.int .i64 0) (.cl (.slice none 0 0) (.cl (.int .u8 2) (.cl (.int .i64 0) (.cl (.int .i64 0) (.cl (.slice none 0 0) (.cl (.int .u8 2) (.cl (.int .i64 1) (.cl (.int .i64 0) (.cl (.slice none 0 0) (.cl (.int .u8 3) (.cl (.int .i64 0) (.cl (.int .i64 0) (.cl (.slice none 0 0) (.cl (.int .u8 3) (.cl (.int .i64 1) (.cl (.int .i64 0) (.sl 1 2 (.cl (.int .i64 1) (.cl (.int .i64 0) .nil)) (.cl (.int .u8 4) (.cl (.int .i64 0) (.cl (.int .i64 0) (.sl 1 2 (.cl (.int .i64 0) (.cl (.int .i64 1) .nil)) (.cl (.int .u8 2) (.cl (.int .i64 5) (.cl (.int .i64 0) (.cl (.slice none 0 0) .nil))))))))))))))))))))))))))))
noncomputable def q4 : TL := (.sl 4 7 q3 (.sl 2 2 q2 .nil))
noncomputable def x74_0 : TL × TL := ((.ag q4 (.ag q1 .nil)), (.cl (.bool true) .nil))
theorem e74_0 : evM Tryz.prog tab0 600 74 laidL x74_0 = some (.bool true) := by kernel_rfl
noncomputable def x74_1 : TL × TL := ((.ag q4 (.ag (.cl (.int .i64 4) (.sl 5 1 (.cl (.slice none 0 0) (.cl (.int .u8 3) (.cl (.int .i64 0) (.cl (.int .i64 0) (.cl (.int .i64 0) .nil))))) .nil)) .nil)), (.cl (.bool true) .nil))
theorem e74_1 : evM Tryz.prog tab0 600 74 laidL x74_1 = some (.bool true) := by kernel_rfl
noncomputable def q5 : TL := (.cl (.int .i64 3) (.sl 5 1 (.sl 7 3 (.cl (.int .u8 11) (.cl (.int .i64 2) (.cl (.int .i64 0) (.cl (.int .i64 0) (.cl (.int .i64 0) (.cl (.slice none 0 0) (.cl (.slice none 0 0) (.cl (.int .u8 16) (.cl (.int .i64 1) (.cl (.int .i64 0) (.cl (.int .i64 0) (.cl (.int .i64 0) (.cl (.slice none 0 0) (.cl (.slice none 0 0) (.cl (.int .u8 1) (.cl (.int .i64 0) (.cl (.int .i64 0) (.cl (.int .i64 0) (.cl (.int .i64 1) (.cl (.slice none 0 0) (.cl (.slice none 0 0) .nil))))))))))))))))))))) (.cl (.int .u8 3) (.cl (.int .i64 2) (.cl (.int .i64 0) (.cl (.int .i64 0) .nil))))) .nil))
noncomputable def q6 : TL := (.sl 4 7 q3 (.sl 2 1 q5 .nil))
noncomputable def x74_2 : TL × TL := ((.ag q6 (.ag q5 .nil)), (.cl (.bool true) .nil))
theorem e74_2 : evM Tryz.prog tab0 600 74 laidL x74_2 = some (.bool true) := by kernel_rfl
/-- fescue/shape.function -/
noncomputable def l74 : List (TL × TL) := [x74_0, x74_1, x74_2]
noncomputable def tab1 : Tab := tab0.know 74 (memo laidL l74)
theorem ok1 : tab1.Ok Tryz.prog := ok0.know Tryz.checked.mixed (n := 600) closedAll (List.forall_mem_cons.2 ⟨e74_0, List.forall_mem_cons.2 ⟨e74_1, List.forall_mem_cons.2 ⟨e74_2, fun p hp => by cases hp⟩⟩⟩)
noncomputable def x109_0 : TL × TL := ((.sl 4 7 q3 (.cl (.int .i64 0) (.cl (.slice none 0 0) .nil))), (.cl (.int .i64 1) (.cl (.bool true) .nil)))
theorem e109_0 : evM Tryz.prog tab1 600 109 laidL x109_0 = some (.bool true) := by kernel_rfl
noncomputable def x109_1 : TL × TL := ((.sl 4 7 q3 (.cl (.int .i64 1) (.sl 1 1 (.cl (.int .i64 1) .nil) .nil))), (.cl (.int .i64 1) (.cl (.bool true) .nil)))
theorem e109_1 : evM Tryz.prog tab1 600 109 laidL x109_1 = some (.bool true) := by kernel_rfl
noncomputable def x109_2 : TL × TL := ((.sl 4 7 q3 (.cl (.int .i64 2) (.sl 1 2 (.cl (.int .i64 1) (.cl (.int .i64 1) .nil)) .nil))), (.cl (.int .i64 1) (.cl (.bool true) .nil)))
theorem e109_2 : evM Tryz.prog tab1 600 109 laidL x109_2 = some (.bool true) := by kernel_rfl
noncomputable def x109_3 : TL × TL := ((.sl 4 7 q3 (.cl (.int .i64 3) (.sl 1 3 (.cl (.int .i64 1) (.cl (.int .i64 1) (.cl (.int .i64 1) .nil))) .nil))), (.cl (.int .i64 1) (.cl (.bool true) .nil)))
theorem e109_3 : evM Tryz.prog tab1 600 109 laidL x109_3 = some (.bool true) := by kernel_rfl
noncomputable def x109_4 : TL × TL := ((.sl 4 7 q3 (.cl (.int .i64 4) (.sl 1 4 (.cl (.int .i64 1) (.cl (.int .i64 1) (.cl (.int .i64 1) (.cl (.int .i64 1) .nil)))) .nil))), (.cl (.int .i64 1) (.cl (.bool true) .nil)))
theorem e109_4 : evM Tryz.prog tab1 600 109 laidL x109_4 = some (.bool true) := by kernel_rfl
noncomputable def x109_5 : TL × TL := ((.sl 4 7 q3 (.cl (.int .i64 5) (.sl 1 5 (.cl (.int .i64 1) (.cl (.int .i64 1) (.cl (.int .i64 1) (.cl (.int .i64 1) (.cl (.int .i64 1) .nil))))) .nil))), (.cl (.int .i64 2) (.cl (.bool true) .nil)))
theorem e109_5 : evM Tryz.prog tab1 600 109 laidL x109_5 = some (.bool true) := by kernel_rfl
noncomputable def x109_6 : TL × TL := ((.sl 4 7 q3 (.cl (.int .i64 6) (.sl 1 6 (.cl (.int .i64 1) (.cl (.int .i64 1) (.cl (.int .i64 1) (.cl (.int .i64 1) (.cl (.int .i64 1) (.cl (.int .i64 2) .nil)))))) .nil))), (.cl (.int .i64 1) (.cl (.bool true) .nil)))
theorem e109_6 : evM Tryz.prog tab1 600 109 laidL x109_6 = some (.bool true) := by kernel_rfl
/-- fescue/types.may -/
noncomputable def l109 : List (TL × TL) := [x109_0, x109_1, x109_2, x109_3, x109_4, x109_5, x109_6]
noncomputable def tab2 : Tab := tab1.know 109 (memo laidL l109)
theorem ok2 : tab2.Ok Tryz.prog := ok1.know Tryz.checked.mixed (n := 600) closedAll (List.forall_mem_cons.2 ⟨e109_0, List.forall_mem_cons.2 ⟨e109_1, List.forall_mem_cons.2 ⟨e109_2, List.forall_mem_cons.2 ⟨e109_3, List.forall_mem_cons.2 ⟨e109_4, List.forall_mem_cons.2 ⟨e109_5, List.forall_mem_cons.2 ⟨e109_6, fun p hp => by cases hp⟩⟩⟩⟩⟩⟩⟩)
noncomputable def x71_0 : TL × TL := ((.sl 4 7 q3 .nil), (.cl (.int .i64 0) .nil))
theorem e71_0 : evM Tryz.prog tab2 600 71 laidL x71_0 = some (.bool true) := by kernel_rfl
noncomputable def x71_1 : TL × TL := ((.cl (.slice none 0 0) .nil), (.cl (.int .i64 0) .nil))
theorem e71_1 : evM Tryz.prog tab2 600 71 laidL x71_1 = some (.bool true) := by kernel_rfl
/-- fescue/types.Check -/
noncomputable def l71 : List (TL × TL) := [x71_0, x71_1]
noncomputable def tab3 : Tab := tab2.know 71 (memo laidL l71)
theorem ok3 : tab3.Ok Tryz.prog := ok2.know Tryz.checked.mixed (n := 600) closedAll (List.forall_mem_cons.2 ⟨e71_0, List.forall_mem_cons.2 ⟨e71_1, fun p hp => by cases hp⟩⟩)
noncomputable def x37_0 : TL × TL := ((.ag q4 .nil), (.cl (.int .i64 0) .nil))
theorem e37_0 : evM Tryz.prog tab3 600 37 laidL x37_0 = some (.bool true) := by kernel_rfl
noncomputable def x37_1 : TL × TL := ((.ag (.cl (.slice none 0 0) (.cl (.slice none 0 0) .nil)) .nil), (.cl (.int .i64 60) .nil))
theorem e37_1 : evM Tryz.prog tab3 600 37 laidL x37_1 = some (.bool true) := by kernel_rfl
noncomputable def x37_2 : TL × TL := ((.ag q6 .nil), (.cl (.int .i64 0) .nil))
theorem e37_2 : evM Tryz.prog tab3 600 37 laidL x37_2 = some (.bool true) := by kernel_rfl
/-- fescue/shape.Check -/
noncomputable def l37 : List (TL × TL) := [x37_0, x37_1, x37_2]
noncomputable def tab4 : Tab := tab3.know 37 (memo laidL l37)
theorem ok4 : tab4.Ok Tryz.prog := ok3.know Tryz.checked.mixed (n := 600) closedAll (List.forall_mem_cons.2 ⟨e37_0, List.forall_mem_cons.2 ⟨e37_1, List.forall_mem_cons.2 ⟨e37_2, fun p hp => by cases hp⟩⟩⟩)
noncomputable def x17_0 : TL × TL := ((.ag q4 (.cl (.int .i64 0) .nil)), (.cl (.int .i64 9) (.cl (.int .i64 0) .nil)))
theorem e17_0 : evM Tryz.prog tab4 600 17 laidL x17_0 = some (.bool true) := by kernel_rfl
noncomputable def x17_1 : TL × TL := ((.ag q4 (.cl (.int .i64 1) .nil)), (.cl (.int .i64 2) (.cl (.int .i64 0) .nil)))
theorem e17_1 : evM Tryz.prog tab4 600 17 laidL x17_1 = some (.bool true) := by kernel_rfl
noncomputable def x17_2 : TL × TL := ((.ag q6 (.cl (.int .i64 0) .nil)), (.cl (.int .i64 3) (.cl (.int .i64 0) .nil)))
theorem e17_2 : evM Tryz.prog tab4 600 17 laidL x17_2 = some (.bool true) := by kernel_rfl
/-- fescue/shape.Regs -/
noncomputable def l17 : List (TL × TL) := [x17_0, x17_1, x17_2]
noncomputable def tab5 : Tab := tab4.know 17 (memo laidL l17)
theorem ok5 : tab5.Ok Tryz.prog := ok4.know Tryz.checked.mixed (n := 600) closedAll (List.forall_mem_cons.2 ⟨e17_0, List.forall_mem_cons.2 ⟨e17_1, List.forall_mem_cons.2 ⟨e17_2, fun p hp => by cases hp⟩⟩⟩)
noncomputable def x75_0 : TL × TL := ((.ag q4 (.cl (.int .i64 0) .nil)), (.sl 1 4 (.cl (.int .i64 0) (.cl (.int .i64 1) (.cl (.int .i64 2) (.cl (.int .i64 3) .nil)))) (.cl (.int .i64 0) .nil)))
theorem e75_0 : evM Tryz.prog tab5 600 75 laidL x75_0 = some (.bool true) := by kernel_rfl
noncomputable def x75_1 : TL × TL := ((.ag q4 (.cl (.int .i64 1) .nil)), (.sl 1 1 (.cl (.int .i64 0) .nil) (.cl (.int .i64 0) .nil)))
theorem e75_1 : evM Tryz.prog tab5 600 75 laidL x75_1 = some (.bool true) := by kernel_rfl
noncomputable def x75_2 : TL × TL := ((.ag q6 (.cl (.int .i64 0) .nil)), (.sl 1 1 (.cl (.int .i64 0) .nil) (.cl (.int .i64 0) .nil)))
theorem e75_2 : evM Tryz.prog tab5 600 75 laidL x75_2 = some (.bool true) := by kernel_rfl
/-- fescue/flow.Reach -/
noncomputable def l75 : List (TL × TL) := [x75_0, x75_1, x75_2]
noncomputable def tab6 : Tab := tab5.know 75 (memo laidL l75)
theorem ok6 : tab6.Ok Tryz.prog := ok5.know Tryz.checked.mixed (n := 600) closedAll (List.forall_mem_cons.2 ⟨e75_0, List.forall_mem_cons.2 ⟨e75_1, List.forall_mem_cons.2 ⟨e75_2, fun p hp => by cases hp⟩⟩⟩)
noncomputable def x123_0 : TL × TL := ((.ag q4 (.cl (.int .i64 0) (.cl (.int .i64 0) .nil))), (.cl (.slice none 0 0) (.cl (.int .i64 0) .nil)))
theorem e123_0 : evM Tryz.prog tab6 600 123 laidL x123_0 = some (.bool true) := by kernel_rfl
noncomputable def x123_1 : TL × TL := ((.ag q4 (.cl (.int .i64 0) (.cl (.int .i64 1) .nil))), (.sl 1 1 (.cl (.int .i64 0) .nil) (.cl (.int .i64 0) .nil)))
theorem e123_1 : evM Tryz.prog tab6 600 123 laidL x123_1 = some (.bool true) := by kernel_rfl
noncomputable def x123_2 : TL × TL := ((.ag q4 (.cl (.int .i64 0) (.cl (.int .i64 2) .nil))), (.sl 1 1 (.cl (.int .i64 0) .nil) (.cl (.int .i64 0) .nil)))
theorem e123_2 : evM Tryz.prog tab6 600 123 laidL x123_2 = some (.bool true) := by kernel_rfl
noncomputable def x123_3 : TL × TL := ((.ag q4 (.cl (.int .i64 0) (.cl (.int .i64 3) .nil))), (.sl 1 2 (.cl (.int .i64 1) (.cl (.int .i64 2) .nil)) (.cl (.int .i64 0) .nil)))
theorem e123_3 : evM Tryz.prog tab6 600 123 laidL x123_3 = some (.bool true) := by kernel_rfl
noncomputable def x123_4 : TL × TL := ((.ag q4 (.cl (.int .i64 1) (.cl (.int .i64 0) .nil))), (.cl (.slice none 0 0) (.cl (.int .i64 0) .nil)))
theorem e123_4 : evM Tryz.prog tab6 600 123 laidL x123_4 = some (.bool true) := by kernel_rfl
noncomputable def x123_5 : TL × TL := ((.ag q6 (.cl (.int .i64 0) (.cl (.int .i64 0) .nil))), (.cl (.slice none 0 0) (.cl (.int .i64 0) .nil)))
theorem e123_5 : evM Tryz.prog tab6 600 123 laidL x123_5 = some (.bool true) := by kernel_rfl
/-- fescue/flow.Preds -/
noncomputable def l123 : List (TL × TL) := [x123_0, x123_1, x123_2, x123_3, x123_4, x123_5]
noncomputable def tab7 : Tab := tab6.know 123 (memo laidL l123)
theorem ok7 : tab7.Ok Tryz.prog := ok6.know Tryz.checked.mixed (n := 600) closedAll (List.forall_mem_cons.2 ⟨e123_0, List.forall_mem_cons.2 ⟨e123_1, List.forall_mem_cons.2 ⟨e123_2, List.forall_mem_cons.2 ⟨e123_3, List.forall_mem_cons.2 ⟨e123_4, List.forall_mem_cons.2 ⟨e123_5, fun p hp => by cases hp⟩⟩⟩⟩⟩⟩)
noncomputable def x222_0 : TL × TL := ((.ag q4 (.cl (.int .i64 0) .nil)), (.sl 1 4 (.cl (.int .i64 0) (.cl (.int .i64 2) (.cl (.int .i64 1) (.cl (.int .i64 3) .nil)))) (.cl (.int .i64 0) .nil)))
theorem e222_0 : evM Tryz.prog tab7 600 222 laidL x222_0 = some (.bool true) := by kernel_rfl
noncomputable def x222_1 : TL × TL := ((.ag q4 (.cl (.int .i64 1) .nil)), (.sl 1 1 (.cl (.int .i64 0) .nil) (.cl (.int .i64 0) .nil)))
theorem e222_1 : evM Tryz.prog tab7 600 222 laidL x222_1 = some (.bool true) := by kernel_rfl
noncomputable def x222_2 : TL × TL := ((.ag q6 (.cl (.int .i64 0) .nil)), (.sl 1 1 (.cl (.int .i64 0) .nil) (.cl (.int .i64 0) .nil)))
theorem e222_2 : evM Tryz.prog tab7 600 222 laidL x222_2 = some (.bool true) := by kernel_rfl
/-- fescue/flow.Order -/
noncomputable def l222 : List (TL × TL) := [x222_0, x222_1, x222_2]
noncomputable def tab8 : Tab := tab7.know 222 (memo laidL l222)
theorem ok8 : tab8.Ok Tryz.prog := ok7.know Tryz.checked.mixed (n := 600) closedAll (List.forall_mem_cons.2 ⟨e222_0, List.forall_mem_cons.2 ⟨e222_1, List.forall_mem_cons.2 ⟨e222_2, fun p hp => by cases hp⟩⟩⟩)
noncomputable def x82_0 : TL × TL := ((.ag q4 (.cl (.int .i64 0) .nil)), (.sl 1 4 (.cl (.int .i64 (-1)) (.cl (.int .i64 0) (.cl (.int .i64 0) (.cl (.int .i64 0) .nil)))) (.cl (.int .i64 0) .nil)))
theorem e82_0 : evM Tryz.prog tab8 600 82 laidL x82_0 = some (.bool true) := by kernel_rfl
noncomputable def x82_1 : TL × TL := ((.ag q4 (.cl (.int .i64 1) .nil)), (.sl 1 1 (.cl (.int .i64 (-1)) .nil) (.cl (.int .i64 0) .nil)))
theorem e82_1 : evM Tryz.prog tab8 600 82 laidL x82_1 = some (.bool true) := by kernel_rfl
noncomputable def x82_2 : TL × TL := ((.ag q6 (.cl (.int .i64 0) .nil)), (.sl 1 1 (.cl (.int .i64 (-1)) .nil) (.cl (.int .i64 0) .nil)))
theorem e82_2 : evM Tryz.prog tab8 600 82 laidL x82_2 = some (.bool true) := by kernel_rfl
/-- fescue/dom.All -/
noncomputable def l82 : List (TL × TL) := [x82_0, x82_1, x82_2]
noncomputable def tab9 : Tab := tab8.know 82 (memo laidL l82)
theorem ok9 : tab9.Ok Tryz.prog := ok8.know Tryz.checked.mixed (n := 600) closedAll (List.forall_mem_cons.2 ⟨e82_0, List.forall_mem_cons.2 ⟨e82_1, List.forall_mem_cons.2 ⟨e82_2, fun p hp => by cases hp⟩⟩⟩)
noncomputable def x38_0 : TL × TL := ((.ag q4 (.cl (.int .i64 0) .nil)), (.cl (.nilIface) .nil))
theorem e38_0 : evM Tryz.prog tab9 600 38 laidL x38_0 = some (.bool true) := by kernel_rfl
noncomputable def x38_1 : TL × TL := ((.ag q4 (.cl (.int .i64 1) .nil)), (.cl (.nilIface) .nil))
theorem e38_1 : evM Tryz.prog tab9 600 38 laidL x38_1 = some (.bool true) := by kernel_rfl
noncomputable def x38_2 : TL × TL := ((.ag q6 (.cl (.int .i64 0) .nil)), (.cl (.nilIface) .nil))
theorem e38_2 : evM Tryz.prog tab9 600 38 laidL x38_2 = some (.bool true) := by kernel_rfl
/-- fescue/sound.function -/
noncomputable def l38 : List (TL × TL) := [x38_0, x38_1, x38_2]
noncomputable def tab10 : Tab := tab9.know 38 (memo laidL l38)
theorem ok10 : tab10.Ok Tryz.prog := ok9.know Tryz.checked.mixed (n := 600) closedAll (List.forall_mem_cons.2 ⟨e38_0, List.forall_mem_cons.2 ⟨e38_1, List.forall_mem_cons.2 ⟨e38_2, fun p hp => by cases hp⟩⟩⟩)
noncomputable def x16_0 : TL × TL := ((.ag q4 .nil), (.cl (.int .i64 0) .nil))
theorem e16_0 : evM Tryz.prog tab10 600 16 laidL x16_0 = some (.bool true) := by kernel_rfl
noncomputable def x16_1 : TL × TL := ((.ag (.cl (.slice none 0 0) (.cl (.slice none 0 0) .nil)) .nil), (.cl (.int .i64 60) .nil))
theorem e16_1 : evM Tryz.prog tab10 600 16 laidL x16_1 = some (.bool true) := by kernel_rfl
noncomputable def x16_2 : TL × TL := ((.ag q6 .nil), (.cl (.int .i64 0) .nil))
theorem e16_2 : evM Tryz.prog tab10 600 16 laidL x16_2 = some (.bool true) := by kernel_rfl
/-- fescue/sound.Check -/
noncomputable def l16 : List (TL × TL) := [x16_0, x16_1, x16_2]
noncomputable def tab11 : Tab := tab10.know 16 (memo laidL l16)
theorem ok11 : tab11.Ok Tryz.prog := ok10.know Tryz.checked.mixed (n := 600) closedAll (List.forall_mem_cons.2 ⟨e16_0, List.forall_mem_cons.2 ⟨e16_1, List.forall_mem_cons.2 ⟨e16_2, fun p hp => by cases hp⟩⟩⟩)
noncomputable def x25_0 : TL × TL := ((.ag q4 .nil), (.sl 3 1 (.cl (.int .i64 0) (.cl (.int .i64 0) (.cl (.int .i64 5) .nil))) (.cl (.int .i64 0) .nil)))
theorem e25_0 : evM Tryz.prog tab11 600 25 laidL x25_0 = some (.bool true) := by kernel_rfl
noncomputable def x25_1 : TL × TL := ((.ag (.cl (.slice none 0 0) (.cl (.slice none 0 0) .nil)) .nil), (.cl (.slice none 0 0) (.cl (.int .i64 60) .nil)))
theorem e25_1 : evM Tryz.prog tab11 600 25 laidL x25_1 = some (.bool true) := by kernel_rfl
noncomputable def x25_2 : TL × TL := ((.ag q6 .nil), (.sl 3 1 (.cl (.int .i64 0) (.cl (.int .i64 0) (.cl (.int .i64 1) .nil))) (.cl (.int .i64 0) .nil)))
theorem e25_2 : evM Tryz.prog tab11 600 25 laidL x25_2 = some (.bool true) := by kernel_rfl
/-- fescue/step.Sites -/
noncomputable def l25 : List (TL × TL) := [x25_0, x25_1, x25_2]
noncomputable def tab12 : Tab := tab11.know 25 (memo laidL l25)
theorem ok12 : tab12.Ok Tryz.prog := ok11.know Tryz.checked.mixed (n := 600) closedAll (List.forall_mem_cons.2 ⟨e25_0, List.forall_mem_cons.2 ⟨e25_1, List.forall_mem_cons.2 ⟨e25_2, fun p hp => by cases hp⟩⟩⟩)
noncomputable def x131_0 : TL × TL := ((.sl 4 7 q3 (.cl (.int .i64 5) .nil)), (.sl 1 2 (.cl (.int .i64 0) (.cl (.int .i64 1) .nil)) (.cl (.int .i64 0) .nil)))
theorem e131_0 : evM Tryz.prog tab12 600 131 laidL x131_0 = some (.bool true) := by kernel_rfl
noncomputable def x131_1 : TL × TL := ((.sl 4 7 q3 (.cl (.int .i64 0) .nil)), (.sl 1 1 (.cl (.int .i64 0) .nil) (.cl (.int .i64 0) .nil)))
theorem e131_1 : evM Tryz.prog tab12 600 131 laidL x131_1 = some (.bool true) := by kernel_rfl
noncomputable def x131_2 : TL × TL := ((.sl 4 7 q3 (.cl (.int .i64 1) .nil)), (.sl 1 1 (.cl (.int .i64 1) .nil) (.cl (.int .i64 0) .nil)))
theorem e131_2 : evM Tryz.prog tab12 600 131 laidL x131_2 = some (.bool true) := by kernel_rfl
/-- fescue/types.Cells -/
noncomputable def l131 : List (TL × TL) := [x131_0, x131_1, x131_2]
noncomputable def tab13 : Tab := tab12.know 131 (memo laidL l131)
theorem ok13 : tab13.Ok Tryz.prog := ok12.know Tryz.checked.mixed (n := 600) closedAll (List.forall_mem_cons.2 ⟨e131_0, List.forall_mem_cons.2 ⟨e131_1, List.forall_mem_cons.2 ⟨e131_2, fun p hp => by cases hp⟩⟩⟩)
noncomputable def x80_0 : TL × TL := ((.sl 4 7 q3 (.cl (.int .i64 5) .nil)), (.sl 1 2 (.cl (.int .i64 0) (.cl (.int .i64 1) .nil)) (.cl (.int .i64 0) .nil)))
theorem e80_0 : evM Tryz.prog tab13 600 80 laidL x80_0 = some (.bool true) := by kernel_rfl
noncomputable def x80_1 : TL × TL := ((.sl 4 7 q3 (.cl (.int .i64 0) .nil)), (.sl 1 1 (.cl (.int .i64 0) .nil) (.cl (.int .i64 0) .nil)))
theorem e80_1 : evM Tryz.prog tab13 600 80 laidL x80_1 = some (.bool true) := by kernel_rfl
noncomputable def x80_2 : TL × TL := ((.sl 4 7 q3 (.cl (.int .i64 1) .nil)), (.sl 1 1 (.cl (.int .i64 1) .nil) (.cl (.int .i64 0) .nil)))
theorem e80_2 : evM Tryz.prog tab13 600 80 laidL x80_2 = some (.bool true) := by kernel_rfl
/-- fescue/flat.Fields -/
noncomputable def l80 : List (TL × TL) := [x80_0, x80_1, x80_2]
noncomputable def tab14 : Tab := tab13.know 80 (memo laidL l80)
theorem ok14 : tab14.Ok Tryz.prog := ok13.know Tryz.checked.mixed (n := 600) closedAll (List.forall_mem_cons.2 ⟨e80_0, List.forall_mem_cons.2 ⟨e80_1, List.forall_mem_cons.2 ⟨e80_2, fun p hp => by cases hp⟩⟩⟩)
end Go.Proofs.YtmejfcakhpihlaaGreatDoor.consNames
