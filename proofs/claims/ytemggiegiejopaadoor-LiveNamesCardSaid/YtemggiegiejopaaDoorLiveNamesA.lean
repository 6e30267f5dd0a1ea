/- LiveNames: calls of functions of the program, each worked out once by the kernel in the abstract machine (part 1). -/
import Derived.Test.YtemggiegiejopaaDoorAmM
import Derived.Test.YtemggiegiejopaaDoorAmD
import Derived.Test.YtemggiegiejopaaDoorRows
import Derived.WalkKit
import Derived.ProofKit
import Derived.LaidMore
import Derived.OpenShut
import Derived.Stop.Joined
import Derived.SevenTiedAt
namespace Go.Proofs.YtemggiegiejopaaDoor.liveNames
open Go.ChangeShapes Go.WideShapes Go.ChangeAt Go.WideMaps Go.WideElems Go.RowKit Go.Am
set_option linter.unusedVariables false
set_option linter.unusedSimpArgs false
set_option maxRecDepth 1000000
def laids : List (String × DataW Unit) := [("math/bits.deBruijn64tab", Rows.laid_math_bits_deBruijn64tab), ("fescue/shape.table", Rows.laid_fescue_shape_table)]
def cells0 : List Value := flatD 16 (Rows.laid_math_bits_deBruijn64tab : DataW Unit)
def cells1 : List Value := flatD 16 (Rows.laid_fescue_shape_table : DataW Unit)
def laidL : List (Nat × List Value) := [(1, cells0), (0, cells1)]
theorem closedAll : (laidL.all fun x => Nat.ble (x.1 + 1) Tryd.prog.globals.size && closedL x.2) = true := by kernel_rfl
noncomputable def tab0 : Tab := codeTab Tryd.prog
theorem ok0 : tab0.Ok Tryd.prog := codeTab_ok _
noncomputable def q0 : TL := (.cl (.int .i64 1) (.sl 5 3 (.sl 7 2 (.cl (.int .u8 1) (.cl (.int .i64 0) (.cl (.int .i64 0) (.cl (.int .i64 0) (.cl (.int .i64 0) (.cl (.slice none 0 0) (.cl (.slice none 0 0) (.cl (.int .u8 1) (.cl (.int .i64 0) (.cl (.int .i64 0) (.cl (.int .i64 0) (.cl (.int .i64 0) (.cl (.slice none 0 0) (.cl (.slice none 0 0) .nil)))))))))))))) (.cl (.int .u8 1) (.cl (.int .i64 0) (.cl (.int .i64 1) (.cl (.int .i64 0) (.sl 7 2 (.cl (.int .u8 22) (.cl (.int .i64 0) (.cl (.int .i64 0) (.cl (.int .i64 0) (.cl (.int .i64 0) (.sl 1 2 (.cl (.int .i64 0) (.cl (.int .i64 3) .nil)) (.sl 1 2 (.cl (.int .i64 0) (.cl (.int .i64 1) .nil)) (.cl (.int .u8 4) (.cl (.int .i64 0) (.cl (.int .i64 2) (.cl (.int .i64 1) (.cl (.int .i64 0) (.cl (.slice none 0 0) (.cl (.slice none 0 0) .nil)))))))))))))) (.cl (.int .u8 2) (.cl (.int .i64 3) (.cl (.int .i64 1) (.cl (.int .i64 2) (.cl (.slice none 0 0) (.cl (.int .u8 3) (.cl (.int .i64 3) (.cl (.int .i64 0) (.cl (.int .i64 0) .nil))))))))))))))) .nil))
noncomputable def q1 : TL := (.sl 4 2 (.cl (.int .u8 1) (.cl (.int .i64 0) (.cl (.int .i64 0) (.cl (.slice none 0 0) (.cl (.int .u8 3) (.cl (.int .i64 0) (.cl (.int .i64 0) (.cl (.slice none 0 0) .nil)))))))) (.sl 2 1 q0 .nil))
noncomputable def x51_0 : TL × TL := ((.ag q1 (.ag q0 .nil)), (.cl (.bool true) .nil))
theorem e51_0 : evM Tryd.prog tab0 700 51 laidL x51_0 = some (.bool true) := by kernel_rfl
/-- fescue/shape.function -/
noncomputable def l51 : List (TL × TL) := [x51_0]
noncomputable def tab1 : Tab := tab0.know 51 (memo laidL l51)
theorem ok1 : tab1.Ok Tryd.prog := ok0.know Tryd.checked.mixed (n := 700) closedAll (List.forall_mem_cons.2 ⟨e51_0, fun p hp => by cases hp⟩)
noncomputable def x60_0 : TL × TL := ((.sl 4 2 (.cl (.int .u8 1) (.cl (.int .i64 0) (.cl (.int .i64 0) (.cl (.slice none 0 0) (.cl (.int .u8 3) (.cl (.int .i64 0) (.cl (.int .i64 0) (.cl (.slice none 0 0) .nil)))))))) (.cl (.int .i64 0) (.cl (.slice none 0 0) .nil))), (.cl (.int .i64 1) (.cl (.bool true) .nil)))
theorem e60_0 : evM Tryd.prog tab1 700 60 laidL x60_0 = some (.bool true) := by kernel_rfl
noncomputable def x60_1 : TL × TL := ((.sl 4 2 (.cl (.int .u8 1) (.cl (.int .i64 0) (.cl (.int .i64 0) (.cl (.slice none 0 0) (.cl (.int .u8 3) (.cl (.int .i64 0) (.cl (.int .i64 0) (.cl (.slice none 0 0) .nil)))))))) (.cl (.int .i64 1) (.sl 1 1 (.cl (.int .i64 1) .nil) .nil))), (.cl (.int .i64 1) (.cl (.bool true) .nil)))
theorem e60_1 : evM Tryd.prog tab1 700 60 laidL x60_1 = some (.bool true) := by kernel_rfl
/-- fescue/types.may -/
noncomputable def l60 : List (TL × TL) := [x60_0, x60_1]
noncomputable def tab2 : Tab := tab1.know 60 (memo laidL l60)
theorem ok2 : tab2.Ok Tryd.prog := ok1.know Tryd.checked.mixed (n := 700) closedAll (List.forall_mem_cons.2 ⟨e60_0, List.forall_mem_cons.2 ⟨e60_1, fun p hp => by cases hp⟩⟩)
noncomputable def x48_0 : TL × TL := ((.sl 4 2 (.cl (.int .u8 1) (.cl (.int .i64 0) (.cl (.int .i64 0) (.cl (.slice none 0 0) (.cl (.int .u8 3) (.cl (.int .i64 0) (.cl (.int .i64 0) (.cl (.slice none 0 0) .nil)))))))) .nil), (.cl (.int .i64 0) .nil))
theorem e48_0 : evM Tryd.prog tab2 700 48 laidL x48_0 = some (.bool true) := by kernel_rfl
/-- fescue/types.Check -/
noncomputable def l48 : List (TL × TL) := [x48_0]
noncomputable def tab3 : Tab := tab2.know 48 (memo laidL l48)
theorem ok3 : tab3.Ok Tryd.prog := ok2.know Tryd.checked.mixed (n := 700) closedAll (List.forall_mem_cons.2 ⟨e48_0, fun p hp => by cases hp⟩)
noncomputable def x38_0 : TL × TL := ((.ag q1 .nil), (.cl (.int .i64 0) .nil))
theorem e38_0 : evM Tryd.prog tab3 700 38 laidL x38_0 = some (.bool true) := by kernel_rfl
/-- fescue/shape.Check -/
noncomputable def l38 : List (TL × TL) := [x38_0]
noncomputable def tab4 : Tab := tab3.know 38 (memo laidL l38)
theorem ok4 : tab4.Ok Tryd.prog := ok3.know Tryd.checked.mixed (n := 700) closedAll (List.forall_mem_cons.2 ⟨e38_0, fun p hp => by cases hp⟩)
noncomputable def x13_0 : TL × TL := ((.ag q1 (.cl (.int .i64 0) .nil)), (.cl (.int .i64 4) (.cl (.int .i64 0) .nil)))
theorem e13_0 : evM Tryd.prog tab4 700 13 laidL x13_0 = some (.bool true) := by kernel_rfl
noncomputable def x13_1 : TL × TL := ((.ag q1 (.cl (.int .i64 1) .nil)), (.cl (.int .i64 0) (.cl (.int .i64 2) .nil)))
theorem e13_1 : evM Tryd.prog tab4 700 13 laidL x13_1 = some (.bool true) := by kernel_rfl
/-- fescue/shape.Regs -/
noncomputable def l13 : List (TL × TL) := [x13_0, x13_1]
noncomputable def tab5 : Tab := tab4.know 13 (memo laidL l13)
theorem ok5 : tab5.Ok Tryd.prog := ok4.know Tryd.checked.mixed (n := 700) closedAll (List.forall_mem_cons.2 ⟨e13_0, List.forall_mem_cons.2 ⟨e13_1, fun p hp => by cases hp⟩⟩)
noncomputable def x18_0 : TL × TL := ((.ag q1 (.cl (.int .i64 0) (.cl (.int .i64 1) .nil))), (.sl 1 2 (.cl (.int .i64 1) (.cl (.int .i64 2) .nil)) (.cl (.int .i64 0) .nil)))
theorem e18_0 : evM Tryd.prog tab5 700 18 laidL x18_0 = some (.bool true) := by kernel_rfl
noncomputable def x18_1 : TL × TL := ((.ag q1 (.cl (.int .i64 0) (.cl (.int .i64 0) .nil))), (.sl 1 1 (.cl (.int .i64 1) .nil) (.cl (.int .i64 0) .nil)))
theorem e18_1 : evM Tryd.prog tab5 700 18 laidL x18_1 = some (.bool true) := by kernel_rfl
noncomputable def x18_2 : TL × TL := ((.ag q1 (.cl (.int .i64 0) (.cl (.int .i64 2) .nil))), (.cl (.slice none 0 0) (.cl (.int .i64 0) .nil)))
theorem e18_2 : evM Tryd.prog tab5 700 18 laidL x18_2 = some (.bool true) := by kernel_rfl
noncomputable def x18_3 : TL × TL := ((.ag q1 (.cl (.int .i64 0) (.cl (.int .i64 3) .nil))), (.cl (.slice none 0 0) (.cl (.int .i64 2) .nil)))
theorem e18_3 : evM Tryd.prog tab5 700 18 laidL x18_3 = some (.bool true) := by kernel_rfl
noncomputable def x18_4 : TL × TL := ((.ag q1 (.cl (.int .i64 1) (.cl (.int .i64 0) .nil))), (.cl (.slice none 0 0) (.cl (.int .i64 2) .nil)))
theorem e18_4 : evM Tryd.prog tab5 700 18 laidL x18_4 = some (.bool true) := by kernel_rfl
/-- fescue/flow.Next -/
noncomputable def l18 : List (TL × TL) := [x18_0, x18_1, x18_2, x18_3, x18_4]
noncomputable def tab6 : Tab := tab5.know 18 (memo laidL l18)
theorem ok6 : tab6.Ok Tryd.prog := ok5.know Tryd.checked.mixed (n := 700) closedAll (List.forall_mem_cons.2 ⟨e18_0, List.forall_mem_cons.2 ⟨e18_1, List.forall_mem_cons.2 ⟨e18_2, List.forall_mem_cons.2 ⟨e18_3, List.forall_mem_cons.2 ⟨e18_4, fun p hp => by cases hp⟩⟩⟩⟩⟩)
noncomputable def x45_0 : TL × TL := ((.ag q1 (.cl (.int .i64 0) (.cl (.int .i64 1) .nil))), (.sl 1 2 (.cl (.int .i64 0) (.cl (.int .i64 1) .nil)) (.cl (.int .i64 0) .nil)))
theorem e45_0 : evM Tryd.prog tab6 700 45 laidL x45_0 = some (.bool true) := by kernel_rfl
noncomputable def x45_1 : TL × TL := ((.ag q1 (.cl (.int .i64 0) (.cl (.int .i64 2) .nil))), (.sl 1 1 (.cl (.int .i64 1) .nil) (.cl (.int .i64 0) .nil)))
theorem e45_1 : evM Tryd.prog tab6 700 45 laidL x45_1 = some (.bool true) := by kernel_rfl
/-- fescue/flow.Preds -/
noncomputable def l45 : List (TL × TL) := [x45_0, x45_1]
noncomputable def tab7 : Tab := tab6.know 45 (memo laidL l45)
theorem ok7 : tab7.Ok Tryd.prog := ok6.know Tryd.checked.mixed (n := 700) closedAll (List.forall_mem_cons.2 ⟨e45_0, List.forall_mem_cons.2 ⟨e45_1, fun p hp => by cases hp⟩⟩)
end Go.Proofs.YtemggiegiejopaaDoor.liveNames
