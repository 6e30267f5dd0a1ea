/- LeastNames: calls of functions of the program, each worked out once by the kernel in the abstract machine (part 1). -/
import Derived.Test.YtndffgfnndoifaaGreatDoorAmM
import Derived.Test.YtndffgfnndoifaaGreatDoorAmD
import Derived.Test.YtndffgfnndoifaaGreatDoorRows
import Derived.WalkKit
import Derived.ProofKit
import Derived.LaidMore
import Derived.OpenShut
import Derived.Stop.Joined
import Derived.SevenTiedAt
namespace Go.Proofs.YtndffgfnndoifaaGreatDoor.leastNames
open Go.ChangeShapes Go.WideShapes Go.ChangeAt Go.WideMaps Go.WideElems Go.RowKit Go.Am
set_option linter.unusedVariables false
set_option linter.unusedSimpArgs false
set_option maxRecDepth 1000000
def laids : List (String × DataW Unit) := [("math/bits.deBruijn64tab", Rows.laid_math_bits_deBruijn64tab), ("fescue/shape.table", Rows.laid_fescue_shape_table)]
def cells0 : List Value := flatD 16 (Rows.laid_math_bits_deBruijn64tab : DataW Unit)
def cells1 : List Value := flatD 16 (Rows.laid_fescue_shape_table : DataW Unit)
def laidL : List (Nat × List Value) := [(0, cells0), (1, cells1)]
theorem closedAll : (laidL.all fun x => Nat.ble (x.1 + 1) Tryz.prog.globals.size && closedL x.2) = true := by kernel_rfl
noncomputable def tab0 : Tab := codeTab Tryz.prog
theorem ok0 : tab0.Ok Tryz.prog := codeTab_ok _
noncomputable def q0 : TL := (.sl 7 8 (.cl (.int .u8 11) (.cl (.int .i64 6) (.cl (.int .i64 0) (.cl (.int .i64 0) (.cl (.int .i64 0) (.cl (.slice none 0 0) (.cl (.slice none 0 0) (.cl (.int .u8 14) (.cl (.int .i64 2) (.cl (.int .i64 0) (.cl (.int .i64 0) (.cl (.int .i64 1) (.cl (.slice none 0 0) (.cl (.slice none 0 0) (.cl (.int .u8 12) (.cl (.int .i64 1) (.cl (.int .i64 0) (.cl (.int .i64 0) (.cl (.int .i64 0) (.cl (.slice none 0 0) (.cl (.slice none 0 0) (.cl (.int .u8 17) (.cl (.int .i64 0) (.cl (.int .i64 1) (.cl (.int .i64 2) (.cl (.int .i64 0) (.cl (.slice none 0 0) (.cl (.slice none 0 0) (.cl (.int .u8 3) (.cl (.int .i64 4) (.cl (.int .i64 0) (.cl (.int .i64 0) (.cl (.int .i64 1) (.cl (.slice none 0 0) (.cl (.slice none 0 0) (.cl (.int .u8 19) (.cl (.int .i64 1) (.cl (.int .i64 4) (.cl (.int .i64 0) (.cl (.int .i64 0) (.sl 1 1 (.cl (.int .i64 2) .nil) (.cl (.slice none 0 0) (.cl (.int .u8 16) (.cl (.int .i64 1) (.cl (.int .i64 1) (.cl (.int .i64 0) (.cl (.int .i64 0) (.cl (.slice none 0 0) (.cl (.slice none 0 0) (.cl (.int .u8 1) (.cl (.int .i64 0) (.cl (.int .i64 0) (.cl (.int .i64 0) (.cl (.int .i64 1) (.cl (.slice none 0 0) (.cl (.slice none 0 0) .nil)))))))))))))))))))))))))))))))))))))))))))))))))))))))) (.cl (.int .u8 3) (.cl (.int .i64 7) (.cl (.int .i64 0) (.cl (.int .i64 0) .nil)))))
noncomputable def q1 : TL := (.cl (.int .i64 3) (.sl 5 1 q0 .nil))
noncomputable def q2 : TL := (.cl (.int .i64 3) (.sl 5 1 q0 (.cl (.int .i64 4) (.sl 5 1 (.cl (.slice none 0 0) (.cl (.int .u8 3) (.cl (.int .i64 0) (.cl (.int .i64 0) (.cl (.int .i64 0) .nil))))) .nil))))
noncomputable def q3 : TL := (.cl (.int .u8 1) (.cl (.int .i64 0) (.cl (.int .i64 0) (.cl (.slice none 0 0) (.cl (.int .u8 2) (.cl (.int .i64 0) (.cl (.int .i64 0) (.cl (.slice none 0 0) (.cl (.int .u8 2) (.cl (.int .i64 1) (.cl (.int .i64 0) (.cl (.slice none 0 0) (.cl (.int .u8 3) (.cl (.int .i64 0) (.cl (.int .i64 0) (.cl (.slice none 0 0) (.cl (.int .u8 3) (.cl (.int .i64 1) (.cl (.int .i64 0) (.sl 1 1 (.cl (.int .i64 1) .nil) (.cl (.int .u8 4) (.cl (.int .i64 0) (.cl (.int .i64 0) (.sl 1 2 (.cl (.int .i64 0) (.cl (.int .i64 1) .nil)) (.cl (.int .u8 2) (.cl (.int .i64 5) (.cl (.int .i64 0) (.cl (.slice none 0 0) .nil))))))))))))))))))))))))))))
noncomputable def q4 : TL := (.sl 4 7 q3 (.sl 2 2 q2 .nil))
noncomputable def x111_0 : TL × TL := ((.ag q4 (.ag q1 .nil)), (.cl (.bool true) .nil))
theorem e111_0 : evM Tryz.prog tab0 700 111 laidL x111_0 = some (.bool true) := by kernel_rfl
noncomputable def x111_1 : TL × TL := ((.ag q4 (.ag (.cl (.int .i64 4) (.sl 5 1 (.cl (.slice none 0 0) (.cl (.int .u8 3) (.cl (.int .i64 0) (.cl (.int .i64 0) (.cl (.int .i64 0) .nil))))) .nil)) .nil)), (.cl (.bool true) .nil))
theorem e111_1 : evM Tryz.prog tab0 700 111 laidL x111_1 = some (.bool true) := by kernel_rfl
noncomputable def q5 : TL := (.cl (.int .i64 3) (.sl 5 1 (.sl 7 3 (.cl (.int .u8 11) (.cl (.int .i64 2) (.cl (.int .i64 0) (.cl (.int .i64 0) (.cl (.int .i64 0) (.cl (.slice none 0 0) (.cl (.slice none 0 0) (.cl (.int .u8 16) (.cl (.int .i64 1) (.cl (.int .i64 0) (.cl (.int .i64 0) (.cl (.int .i64 0) (.cl (.slice none 0 0) (.cl (.slice none 0 0) (.cl (.int .u8 1) (.cl (.int .i64 0) (.cl (.int .i64 0) (.cl (.int .i64 0) (.cl (.int .i64 1) (.cl (.slice none 0 0) (.cl (.slice none 0 0) .nil))))))))))))))))))))) (.cl (.int .u8 3) (.cl (.int .i64 2) (.cl (.int .i64 0) (.cl (.int .i64 0) .nil))))) .nil))
noncomputable def q6 : TL := (.cl (.int .u8 1) (.cl (.int .i64 0) (.cl (.int .i64 0) (.cl (.slice none 0 0) (.cl (.int .u8 2) (.cl (.int .i64 0) (.cl (.int .i64 0) (.cl (.slice none 0 0) (.cl (.int .u8 2) (.cl (.int .i64 1) (.cl (.int .i64 0) (.cl (.slice none 0 0) (.cl (.int .u8 3) (.cl (.int .i64 0) (.cl (.int .i64 0) (.cl (.slice none 0 0) .nil))))))))))))))))
noncomputable def q7 : TL := (.sl 4 4 q6 (.sl 2 1 q5 .nil))
noncomputable def x111_2 : TL × TL := ((.ag q7 (.ag q5 .nil)), (.cl (.bool true) .nil))
theorem e111_2 : evM Tryz.prog tab0 700 111 laidL x111_2 = some (.bool true) := by kernel_rfl
/-- fescue/shape.function -/
noncomputable def l111 : List (TL × TL) := [x111_0, x111_1, x111_2]
noncomputable def tab1 : Tab := tab0.know 111 (memo laidL l111)
theorem ok1 : tab1.Ok Tryz.prog := ok0.know Tryz.checked.mixed (n := 700) closedAll (List.forall_mem_cons.2 ⟨e111_0, List.forall_mem_cons.2 ⟨e111_1, List.forall_mem_cons.2 ⟨e111_2, fun p hp => by cases hp⟩⟩⟩)
noncomputable def x159_0 : TL × TL := ((.sl 4 7 q3 (.cl (.int .i64 0) (.cl (.slice none 0 0) .nil))), (.cl (.int .i64 1) (.cl (.bool true) .nil)))
theorem e159_0 : evM Tryz.prog tab1 700 159 laidL x159_0 = some (.bool true) := by kernel_rfl
noncomputable def x159_1 : TL × TL := ((.sl 4 7 q3 (.cl (.int .i64 1) (.sl 1 1 (.cl (.int .i64 1) .nil) .nil))), (.cl (.int .i64 1) (.cl (.bool true) .nil)))
theorem e159_1 : evM Tryz.prog tab1 700 159 laidL x159_1 = some (.bool true) := by kernel_rfl
noncomputable def x159_2 : TL × TL := ((.sl 4 7 q3 (.cl (.int .i64 2) (.sl 1 2 (.cl (.int .i64 1) (.cl (.int .i64 1) .nil)) .nil))), (.cl (.int .i64 1) (.cl (.bool true) .nil)))
theorem e159_2 : evM Tryz.prog tab1 700 159 laidL x159_2 = some (.bool true) := by kernel_rfl
noncomputable def x159_3 : TL × TL := ((.sl 4 7 q3 (.cl (.int .i64 3) (.sl 1 3 (.cl (.int .i64 1) (.cl (.int .i64 1) (.cl (.int .i64 1) .nil))) .nil))), (.cl (.int .i64 1) (.cl (.bool true) .nil)))
theorem e159_3 : evM Tryz.prog tab1 700 159 laidL x159_3 = some (.bool true) := by kernel_rfl
noncomputable def x159_4 : TL × TL := ((.sl 4 7 q3 (.cl (.int .i64 4) (.sl 1 4 (.cl (.int .i64 1) (.cl (.int .i64 1) (.cl (.int .i64 1) (.cl (.int .i64 1) .nil)))) .nil))), (.cl (.int .i64 1) (.cl (.bool true) .nil)))
theorem e159_4 : evM Tryz.prog tab1 700 159 laidL x159_4 = some (.bool true) := by kernel_rfl
noncomputable def x159_5 : TL × TL := ((.sl 4 7 q3 (.cl (.int .i64 5) (.sl 1 5 (.cl (.int .i64 1) (.cl (.int .i64 1) (.cl (.int .i64 1) (.cl (.int .i64 1) (.cl (.int .i64 1) .nil))))) .nil))), (.cl (.int .i64 2) (.cl (.bool true) .nil)))
theorem e159_5 : evM Tryz.prog tab1 700 159 laidL x159_5 = some (.bool true) := by kernel_rfl
noncomputable def x159_6 : TL × TL := ((.sl 4 7 q3 (.cl (.int .i64 6) (.sl 1 6 (.cl (.int .i64 1) (.cl (.int .i64 1) (.cl (.int .i64 1) (.cl (.int .i64 1) (.cl (.int .i64 1) (.cl (.int .i64 2) .nil)))))) .nil))), (.cl (.int .i64 1) (.cl (.bool true) .nil)))
theorem e159_6 : evM Tryz.prog tab1 700 159 laidL x159_6 = some (.bool true) := by kernel_rfl
noncomputable def x159_7 : TL × TL := ((.sl 4 4 q6 (.cl (.int .i64 0) (.cl (.slice none 0 0) .nil))), (.cl (.int .i64 1) (.cl (.bool true) .nil)))
theorem e159_7 : evM Tryz.prog tab1 700 159 laidL x159_7 = some (.bool true) := by kernel_rfl
noncomputable def x159_8 : TL × TL := ((.sl 4 4 q6 (.cl (.int .i64 1) (.sl 1 1 (.cl (.int .i64 1) .nil) .nil))), (.cl (.int .i64 1) (.cl (.bool true) .nil)))
theorem e159_8 : evM Tryz.prog tab1 700 159 laidL x159_8 = some (.bool true) := by kernel_rfl
noncomputable def x159_9 : TL × TL := ((.sl 4 4 q6 (.cl (.int .i64 2) (.sl 1 2 (.cl (.int .i64 1) (.cl (.int .i64 1) .nil)) .nil))), (.cl (.int .i64 1) (.cl (.bool true) .nil)))
theorem e159_9 : evM Tryz.prog tab1 700 159 laidL x159_9 = some (.bool true) := by kernel_rfl
noncomputable def x159_10 : TL × TL := ((.sl 4 4 q6 (.cl (.int .i64 3) (.sl 1 3 (.cl (.int .i64 1) (.cl (.int .i64 1) (.cl (.int .i64 1) .nil))) .nil))), (.cl (.int .i64 1) (.cl (.bool true) .nil)))
theorem e159_10 : evM Tryz.prog tab1 700 159 laidL x159_10 = some (.bool true) := by kernel_rfl
/-- fescue/types.may -/
noncomputable def l159 : List (TL × TL) := [x159_0, x159_1, x159_2, x159_3, x159_4, x159_5, x159_6, x159_7, x159_8, x159_9, x159_10]
noncomputable def tab2 : Tab := tab1.know 159 (memo laidL l159)
theorem ok2 : tab2.Ok Tryz.prog := ok1.know Tryz.checked.mixed (n := 700) closedAll (List.forall_mem_cons.2 ⟨e159_0, List.forall_mem_cons.2 ⟨e159_1, List.forall_mem_cons.2 ⟨e159_2, List.forall_mem_cons.2 ⟨e159_3, List.forall_mem_cons.2 ⟨e159_4, List.forall_mem_cons.2 ⟨e159_5, List.forall_mem_cons.2 ⟨e159_6, List.forall_mem_cons.2 ⟨e159_7, List.forall_mem_cons.2 ⟨e159_8, List.forall_mem_cons.2 ⟨e159_9, List.forall_mem_cons.2 ⟨e159_10, fun p hp => by cases hp⟩⟩⟩⟩⟩⟩⟩⟩⟩⟩⟩)
noncomputable def x107_0 : TL × TL := ((.sl 4 7 q3 .nil), (.cl (.int .i64 0) .nil))
theorem e107_0 : evM Tryz.prog tab2 700 107 laidL x107_0 = some (.bool true) := by kernel_rfl
noncomputable def x107_1 : TL × TL := ((.cl (.slice none 0 0) .nil), (.cl (.int .i64 0) .nil))
theorem e107_1 : evM Tryz.prog tab2 700 107 laidL x107_1 = some (.bool true) := by kernel_rfl
noncomputable def x107_2 : TL × TL := ((.sl 4 4 q6 .nil), (.cl (.int .i64 0) .nil))
theorem e107_2 : evM Tryz.prog tab2 700 107 laidL x107_2 = some (.bool true) := by kernel_rfl
/-- fescue/types.Check -/
noncomputable def l107 : List (TL × TL) := [x107_0, x107_1, x107_2]
noncomputable def tab3 : Tab := tab2.know 107 (memo laidL l107)
theorem ok3 : tab3.Ok Tryz.prog := ok2.know Tryz.checked.mixed (n := 700) closedAll (List.forall_mem_cons.2 ⟨e107_0, List.forall_mem_cons.2 ⟨e107_1, List.forall_mem_cons.2 ⟨e107_2, fun p hp => by cases hp⟩⟩⟩)
noncomputable def x51_0 : TL × TL := ((.ag q4 .nil), (.cl (.int .i64 0) .nil))
theorem e51_0 : evM Tryz.prog tab3 700 51 laidL x51_0 = some (.bool true) := by kernel_rfl
noncomputable def x51_1 : TL × TL := ((.ag (.cl (.slice none 0 0) (.cl (.slice none 0 0) .nil)) .nil), (.cl (.int .i64 60) .nil))
theorem e51_1 : evM Tryz.prog tab3 700 51 laidL x51_1 = some (.bool true) := by kernel_rfl
noncomputable def x51_2 : TL × TL := ((.ag q7 .nil), (.cl (.int .i64 0) .nil))
theorem e51_2 : evM Tryz.prog tab3 700 51 laidL x51_2 = some (.bool true) := by kernel_rfl
/-- fescue/shape.Check -/
noncomputable def l51 : List (TL × TL) := [x51_0, x51_1, x51_2]
noncomputable def tab4 : Tab := tab3.know 51 (memo laidL l51)
theorem ok4 : tab4.Ok Tryz.prog := ok3.know Tryz.checked.mixed (n := 700) closedAll (List.forall_mem_cons.2 ⟨e51_0, List.forall_mem_cons.2 ⟨e51_1, List.forall_mem_cons.2 ⟨e51_2, fun p hp => by cases hp⟩⟩⟩)
noncomputable def x56_0 : TL × TL := ((.ag q4 (.cl (.int .i64 0) .nil)), (.cl (.int .i64 8) (.cl (.int .i64 0) .nil)))
theorem e56_0 : evM Tryz.prog tab4 700 56 laidL x56_0 = some (.bool true) := by kernel_rfl
noncomputable def x56_1 : TL × TL := ((.ag q4 (.cl (.int .i64 1) .nil)), (.cl (.int .i64 1) (.cl (.int .i64 0) .nil)))
theorem e56_1 : evM Tryz.prog tab4 700 56 laidL x56_1 = some (.bool true) := by kernel_rfl
noncomputable def x56_2 : TL × TL := ((.ag q7 (.cl (.int .i64 0) .nil)), (.cl (.int .i64 3) (.cl (.int .i64 0) .nil)))
theorem e56_2 : evM Tryz.prog tab4 700 56 laidL x56_2 = some (.bool true) := by kernel_rfl
/-- fescue/shape.Regs -/
noncomputable def l56 : List (TL × TL) := [x56_0, x56_1, x56_2]
noncomputable def tab5 : Tab := tab4.know 56 (memo laidL l56)
theorem ok5 : tab5.Ok Tryz.prog := ok4.know Tryz.checked.mixed (n := 700) closedAll (List.forall_mem_cons.2 ⟨e56_0, List.forall_mem_cons.2 ⟨e56_1, List.forall_mem_cons.2 ⟨e56_2, fun p hp => by cases hp⟩⟩⟩)
noncomputable def x230_0 : TL × TL := ((.ag q4 (.cl (.int .i64 0) .nil)), (.sl 1 1 (.cl (.int .i64 0) .nil) (.cl (.int .i64 0) .nil)))
theorem e230_0 : evM Tryz.prog tab5 700 230 laidL x230_0 = some (.bool true) := by kernel_rfl
noncomputable def x230_1 : TL × TL := ((.ag q4 (.cl (.int .i64 1) .nil)), (.sl 1 1 (.cl (.int .i64 0) .nil) (.cl (.int .i64 0) .nil)))
theorem e230_1 : evM Tryz.prog tab5 700 230 laidL x230_1 = some (.bool true) := by kernel_rfl
noncomputable def x230_2 : TL × TL := ((.ag q7 (.cl (.int .i64 0) .nil)), (.sl 1 1 (.cl (.int .i64 0) .nil) (.cl (.int .i64 0) .nil)))
theorem e230_2 : evM Tryz.prog tab5 700 230 laidL x230_2 = some (.bool true) := by kernel_rfl
/-- fescue/flow.Reach -/
noncomputable def l230 : List (TL × TL) := [x230_0, x230_1, x230_2]
noncomputable def tab6 : Tab := tab5.know 230 (memo laidL l230)
theorem ok6 : tab6.Ok Tryz.prog := ok5.know Tryz.checked.mixed (n := 700) closedAll (List.forall_mem_cons.2 ⟨e230_0, List.forall_mem_cons.2 ⟨e230_1, List.forall_mem_cons.2 ⟨e230_2, fun p hp => by cases hp⟩⟩⟩)
noncomputable def x274_0 : TL × TL := ((.ag q4 (.cl (.int .i64 0) (.cl (.int .i64 0) .nil))), (.cl (.slice none 0 0) (.cl (.int .i64 0) .nil)))
theorem e274_0 : evM Tryz.prog tab6 700 274 laidL x274_0 = some (.bool true) := by kernel_rfl
noncomputable def x274_1 : TL × TL := ((.ag q4 (.cl (.int .i64 1) (.cl (.int .i64 0) .nil))), (.cl (.slice none 0 0) (.cl (.int .i64 0) .nil)))
theorem e274_1 : evM Tryz.prog tab6 700 274 laidL x274_1 = some (.bool true) := by kernel_rfl
noncomputable def x274_2 : TL × TL := ((.ag q7 (.cl (.int .i64 0) (.cl (.int .i64 0) .nil))), (.cl (.slice none 0 0) (.cl (.int .i64 0) .nil)))
theorem e274_2 : evM Tryz.prog tab6 700 274 laidL x274_2 = some (.bool true) := by kernel_rfl
/-- fescue/flow.Preds -/
noncomputable def l274 : List (TL × TL) := [x274_0, x274_1, x274_2]
noncomputable def tab7 : Tab := tab6.know 274 (memo laidL l274)
theorem ok7 : tab7.Ok Tryz.prog := ok6.know Tryz.checked.mixed (n := 700) closedAll (List.forall_mem_cons.2 ⟨e274_0, List.forall_mem_cons.2 ⟨e274_1, List.forall_mem_cons.2 ⟨e274_2, fun p hp => by cases hp⟩⟩⟩)
noncomputable def x315_0 : TL × TL := ((.ag q4 (.cl (.int .i64 0) .nil)), (.sl 1 1 (.cl (.int .i64 0) .nil) (.cl (.int .i64 0) .nil)))
theorem e315_0 : evM Tryz.prog tab7 700 315 laidL x315_0 = some (.bool true) := by kernel_rfl
noncomputable def x315_1 : TL × TL := ((.ag q4 (.cl (.int .i64 1) .nil)), (.sl 1 1 (.cl (.int .i64 0) .nil) (.cl (.int .i64 0) .nil)))
theorem e315_1 : evM Tryz.prog tab7 700 315 laidL x315_1 = some (.bool true) := by kernel_rfl
noncomputable def x315_2 : TL × TL := ((.ag q7 (.cl (.int .i64 0) .nil)), (.sl 1 1 (.cl (.int .i64 0) .nil) (.cl (.int .i64 0) .nil)))
theorem e315_2 : evM Tryz.prog tab7 700 315 laidL x315_2 = some (.bool true) := by kernel_rfl
/-- fescue/flow.Order -/
noncomputable def l315 : List (TL × TL) := [x315_0, x315_1, x315_2]
noncomputable def tab8 : Tab := tab7.know 315 (memo laidL l315)
theorem ok8 : tab8.Ok Tryz.prog := ok7.know Tryz.checked.mixed (n := 700) closedAll (List.forall_mem_cons.2 ⟨e315_0, List.forall_mem_cons.2 ⟨e315_1, List.forall_mem_cons.2 ⟨e315_2, fun p hp => by cases hp⟩⟩⟩)
noncomputable def x267_0 : TL × TL := ((.ag q4 (.cl (.int .i64 0) .nil)), (.sl 1 1 (.cl (.int .i64 (-1)) .nil) (.cl (.int .i64 0) .nil)))
theorem e267_0 : evM Tryz.prog tab8 700 267 laidL x267_0 = some (.bool true) := by kernel_rfl
noncomputable def x267_1 : TL × TL := ((.ag q4 (.cl (.int .i64 1) .nil)), (.sl 1 1 (.cl (.int .i64 (-1)) .nil) (.cl (.int .i64 0) .nil)))
theorem e267_1 : evM Tryz.prog tab8 700 267 laidL x267_1 = some (.bool true) := by kernel_rfl
noncomputable def x267_2 : TL × TL := ((.ag q7 (.cl (.int .i64 0) .nil)), (.sl 1 1 (.cl (.int .i64 (-1)) .nil) (.cl (.int .i64 0) .nil)))
theorem e267_2 : evM Tryz.prog tab8 700 267 laidL x267_2 = some (.bool true) := by kernel_rfl
/-- fescue/dom.All -/
noncomputable def l267 : List (TL × TL) := [x267_0, x267_1, x267_2]
noncomputable def tab9 : Tab := tab8.know 267 (memo laidL l267)
theorem ok9 : tab9.Ok Tryz.prog := ok8.know Tryz.checked.mixed (n := 700) closedAll (List.forall_mem_cons.2 ⟨e267_0, List.forall_mem_cons.2 ⟨e267_1, List.forall_mem_cons.2 ⟨e267_2, fun p hp => by cases hp⟩⟩⟩)
noncomputable def x169_0 : TL × TL := ((.ag q4 (.cl (.int .i64 0) .nil)), (.cl (.nilIface) .nil))
theorem e169_0 : evM Tryz.prog tab9 700 169 laidL x169_0 = some (.bool true) := by kernel_rfl
noncomputable def x169_1 : TL × TL := ((.ag q4 (.cl (.int .i64 1) .nil)), (.cl (.nilIface) .nil))
theorem e169_1 : evM Tryz.prog tab9 700 169 laidL x169_1 = some (.bool true) := by kernel_rfl
noncomputable def x169_2 : TL × TL := ((.ag q7 (.cl (.int .i64 0) .nil)), (.cl (.nilIface) .nil))
theorem e169_2 : evM Tryz.prog tab9 700 169 laidL x169_2 = some (.bool true) := by kernel_rfl
/-- fescue/sound.function -/
noncomputable def l169 : List (TL × TL) := [x169_0, x169_1, x169_2]
noncomputable def tab10 : Tab := tab9.know 169 (memo laidL l169)
theorem ok10 : tab10.Ok Tryz.prog := ok9.know Tryz.checked.mixed (n := 700) closedAll (List.forall_mem_cons.2 ⟨e169_0, List.forall_mem_cons.2 ⟨e169_1, List.forall_mem_cons.2 ⟨e169_2, fun p hp => by cases hp⟩⟩⟩)
noncomputable def x114_0 : TL × TL := ((.ag q4 .nil), (.cl (.int .i64 0) .nil))
theorem e114_0 : evM Tryz.prog tab10 700 114 laidL x114_0 = some (.bool true) := by kernel_rfl
noncomputable def x114_1 : TL × TL := ((.ag (.cl (.slice none 0 0) (.cl (.slice none 0 0) .nil)) .nil), (.cl (.int .i64 60) .nil))
theorem e114_1 : evM Tryz.prog tab10 700 114 laidL x114_1 = some (.bool true) := by kernel_rfl
noncomputable def x114_2 : TL × TL := ((.ag q7 .nil), (.cl (.int .i64 0) .nil))
theorem e114_2 : evM Tryz.prog tab10 700 114 laidL x114_2 = some (.bool true) := by kernel_rfl
/-- fescue/sound.Check -/
noncomputable def l114 : List (TL × TL) := [x114_0, x114_1, x114_2]
noncomputable def tab11 : Tab := tab10.know 114 (memo laidL l114)
theorem ok11 : tab11.Ok Tryz.prog := ok10.know Tryz.checked.mixed (n := 700) closedAll (List.forall_mem_cons.2 ⟨e114_0, List.forall_mem_cons.2 ⟨e114_1, List.forall_mem_cons.2 ⟨e114_2, fun p hp => by cases hp⟩⟩⟩)
noncomputable def x54_0 : TL × TL := ((.ag q4 .nil), (.sl 3 2 (.cl (.int .i64 0) (.cl (.int .i64 0) (.cl (.int .i64 5) (.cl (.int .i64 0) (.cl (.int .i64 2) (.cl (.int .i64 0) .nil)))))) (.cl (.int .i64 0) .nil)))
theorem e54_0 : evM Tryz.prog tab11 700 54 laidL x54_0 = some (.bool true) := by kernel_rfl
noncomputable def x54_1 : TL × TL := ((.ag (.cl (.slice none 0 0) (.cl (.slice none 0 0) .nil)) .nil), (.cl (.slice none 0 0) (.cl (.int .i64 60) .nil)))
theorem e54_1 : evM Tryz.prog tab11 700 54 laidL x54_1 = some (.bool true) := by kernel_rfl
noncomputable def x54_2 : TL × TL := ((.ag q7 .nil), (.sl 3 1 (.cl (.int .i64 0) (.cl (.int .i64 0) (.cl (.int .i64 1) .nil))) (.cl (.int .i64 0) .nil)))
theorem e54_2 : evM Tryz.prog tab11 700 54 laidL x54_2 = some (.bool true) := by kernel_rfl
/-- fescue/step.Sites -/
noncomputable def l54 : List (TL × TL) := [x54_0, x54_1, x54_2]
noncomputable def tab12 : Tab := tab11.know 54 (memo laidL l54)
theorem ok12 : tab12.Ok Tryz.prog := ok11.know Tryz.checked.mixed (n := 700) closedAll (List.forall_mem_cons.2 ⟨e54_0, List.forall_mem_cons.2 ⟨e54_1, List.forall_mem_cons.2 ⟨e54_2, fun p hp => by cases hp⟩⟩⟩)
noncomputable def x132_0 : TL × TL := ((.sl 4 7 q3 (.cl (.int .i64 5) .nil)), (.sl 1 2 (.cl (.int .i64 0) (.cl (.int .i64 1) .nil)) (.cl (.int .i64 0) .nil)))
theorem e132_0 : evM Tryz.prog tab12 700 132 laidL x132_0 = some (.bool true) := by kernel_rfl
noncomputable def x132_1 : TL × TL := ((.sl 4 7 q3 (.cl (.int .i64 0) .nil)), (.sl 1 1 (.cl (.int .i64 0) .nil) (.cl (.int .i64 0) .nil)))
theorem e132_1 : evM Tryz.prog tab12 700 132 laidL x132_1 = some (.bool true) := by kernel_rfl
noncomputable def x132_2 : TL × TL := ((.sl 4 4 q6 (.cl (.int .i64 1) .nil)), (.sl 1 1 (.cl (.int .i64 1) .nil) (.cl (.int .i64 0) .nil)))
theorem e132_2 : evM Tryz.prog tab12 700 132 laidL x132_2 = some (.bool true) := by kernel_rfl
/-- fescue/types.Cells -/
noncomputable def l132 : List (TL × TL) := [x132_0, x132_1, x132_2]
noncomputable def tab13 : Tab := tab12.know 132 (memo laidL l132)
theorem ok13 : tab13.Ok Tryz.prog := ok12.know Tryz.checked.mixed (n := 700) closedAll (List.forall_mem_cons.2 ⟨e132_0, List.forall_mem_cons.2 ⟨e132_1, List.forall_mem_cons.2 ⟨e132_2, fun p hp => by cases hp⟩⟩⟩)
noncomputable def x71_0 : TL × TL := ((.sl 4 7 q3 (.cl (.int .i64 5) .nil)), (.sl 1 2 (.cl (.int .i64 0) (.cl (.int .i64 1) .nil)) (.cl (.int .i64 0) .nil)))
theorem e71_0 : evM Tryz.prog tab13 700 71 laidL x71_0 = some (.bool true) := by kernel_rfl
noncomputable def x71_1 : TL × TL := ((.sl 4 7 q3 (.cl (.int .i64 0) .nil)), (.sl 1 1 (.cl (.int .i64 0) .nil) (.cl (.int .i64 0) .nil)))
theorem e71_1 : evM Tryz.prog tab13 700 71 laidL x71_1 = some (.bool true) := by kernel_rfl
noncomputable def x71_2 : TL × TL := ((.sl 4 4 q6 (.cl (.int .i64 1) .nil)), (.sl 1 1 (.cl (.int .i64 1) .nil) (.cl (.int .i64 0) .nil)))
theorem e71_2 : evM Tryz.prog tab13 700 71 laidL x71_2 = some (.bool true) := by kernel_rfl
/-- fescue/flat.Fields -/
noncomputable def l71 : List (TL × TL) := [x71_0, x71_1, x71_2]
noncomputable def tab14 : Tab := tab13.know 71 (memo laidL l71)
theorem ok14 : tab14.Ok Tryz.prog := ok13.know Tryz.checked.mixed (n := 700) closedAll (List.forall_mem_cons.2 ⟨e71_0, List.forall_mem_cons.2 ⟨e71_1, List.forall_mem_cons.2 ⟨e71_2, fun p hp => by cases hp⟩⟩⟩)
end Go.Proofs.YtndffgfnndoifaaGreatDoor.leastNames
