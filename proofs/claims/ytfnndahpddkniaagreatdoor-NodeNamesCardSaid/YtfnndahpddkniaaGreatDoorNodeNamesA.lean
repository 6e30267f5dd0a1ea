/- NodeNames: calls of functions of the program, each worked out once by the kernel in the abstract machine (part 1). -/
import Derived.Test.YtfnndahpddkniaaGreatDoorAmM
import Derived.Test.YtfnndahpddkniaaGreatDoorAmD
import Derived.Test.YtfnndahpddkniaaGreatDoorRows
import Derived.WalkKit
import Derived.ProofKit
import Derived.LaidMore
import Derived.OpenShut
import Derived.Stop.Joined
import Derived.SevenTiedAt
namespace Go.Proofs.YtfnndahpddkniaaGreatDoor.nodeNames
open Go.ChangeShapes Go.WideShapes Go.ChangeAt Go.WideMaps Go.WideElems Go.RowKit Go.Am
set_option linter.unusedVariables false
set_option linter.unusedSimpArgs false
set_option maxRecDepth 1000000
def laids : List (String × DataW Unit) := [("fescue/shape.table", Rows.laid_fescue_shape_table)]
def cells0 : List Value := flatD 16 (Rows.laid_fescue_shape_table : DataW Unit)
def laidL : List (Nat × List Value) := [(0, cells0)]
theorem closedAll : (laidL.all fun x => Nat.ble (x.1 + 1) Tryz.prog.globals.size && closedL x.2) = true := by kernel_rfl
noncomputable def tab0 : Tab := codeTab Tryz.prog
theorem ok0 : tab0.Ok Tryz.prog := codeTab_ok _
noncomputable def q0 : TL := (.sl 7 3 (.cl (.int .u8 11) (.cl (.int .i64 1) (.cl (.int .i64 0) (.cl (.int .i64 0) (.cl (.int .i64 0) (.cl (.slice none 0 0) (.cl (.slice none 0 0) (.cl (.int .u8 12) (.cl (.int .i64 1) (.cl (.int .i64 0) (.cl (.int .i64 0) (.cl (.int .i64 0) (.cl (.slice none 0 0) (.cl (.slice none 0 0) (.cl (.int .u8 1) (.cl (.int .i64 0) (.cl (.int .i64 0) (.cl (.int .i64 0) (.cl (.int .i64 1) (.cl (.slice none 0 0) (.cl (.slice none 0 0) .nil))))))))))))))))))))) (.cl (.int .u8 3) (.cl (.int .i64 2) (.cl (.int .i64 0) (.cl (.int .i64 0) .nil)))))
noncomputable def q1 : TL := (.sl 7 1 (.cl (.int .u8 1) (.cl (.int .i64 0) (.cl (.int .i64 0) (.cl (.int .i64 0) (.cl (.int .i64 1) (.cl (.slice none 0 0) (.cl (.slice none 0 0) .nil))))))) (.cl (.int .u8 3) (.cl (.int .i64 0) (.cl (.int .i64 0) (.cl (.int .i64 0) .nil)))))
noncomputable def q2 : TL := (.cl (.int .u8 1) (.cl (.int .i64 0) (.cl (.int .i64 0) (.cl (.slice none 0 0) (.cl (.int .u8 2) (.cl (.int .i64 2) (.cl (.int .i64 0) (.cl (.slice none 0 0) (.cl (.int .u8 4) (.cl (.int .i64 0) (.cl (.int .i64 0) (.sl 1 2 (.cl (.int .i64 0) (.cl (.int .i64 1) .nil)) (.cl (.int .u8 3) (.cl (.int .i64 0) (.cl (.int .i64 0) (.cl (.slice none 0 0) .nil))))))))))))))))
noncomputable def q3 : TL := (.sl 4 4 q2 (.sl 2 2 (.cl (.int .i64 3) (.sl 5 1 q0 (.cl (.int .i64 3) (.sl 5 1 q1 .nil)))) .nil))
noncomputable def x103_0 : TL × TL := ((.ag q3 (.ag (.cl (.int .i64 3) (.sl 5 1 q0 .nil)) .nil)), (.cl (.bool true) .nil))
theorem e103_0 : evM Tryz.prog tab0 700 103 laidL x103_0 = some (.bool true) := by kernel_rfl
noncomputable def x103_1 : TL × TL := ((.ag q3 (.ag (.cl (.int .i64 3) (.sl 5 1 q1 .nil)) .nil)), (.cl (.bool true) .nil))
theorem e103_1 : evM Tryz.prog tab0 700 103 laidL x103_1 = some (.bool true) := by kernel_rfl
/-- fescue/shape.function -/
noncomputable def l103 : List (TL × TL) := [x103_0, x103_1]
noncomputable def tab1 : Tab := tab0.know 103 (memo laidL l103)
theorem ok1 : tab1.Ok Tryz.prog := ok0.know Tryz.checked.mixed (n := 700) closedAll (List.forall_mem_cons.2 ⟨e103_0, List.forall_mem_cons.2 ⟨e103_1, fun p hp => by cases hp⟩⟩)
noncomputable def x107_0 : TL × TL := ((.sl 4 4 q2 (.cl (.int .i64 0) (.cl (.slice none 0 0) .nil))), (.cl (.int .i64 1) (.cl (.bool true) .nil)))
theorem e107_0 : evM Tryz.prog tab1 700 107 laidL x107_0 = some (.bool true) := by kernel_rfl
noncomputable def x107_1 : TL × TL := ((.sl 4 4 q2 (.cl (.int .i64 1) (.sl 1 1 (.cl (.int .i64 1) .nil) .nil))), (.cl (.int .i64 1) (.cl (.bool true) .nil)))
theorem e107_1 : evM Tryz.prog tab1 700 107 laidL x107_1 = some (.bool true) := by kernel_rfl
noncomputable def x107_2 : TL × TL := ((.sl 4 4 q2 (.cl (.int .i64 2) (.sl 1 2 (.cl (.int .i64 1) (.cl (.int .i64 1) .nil)) .nil))), (.cl (.int .i64 2) (.cl (.bool true) .nil)))
theorem e107_2 : evM Tryz.prog tab1 700 107 laidL x107_2 = some (.bool true) := by kernel_rfl
noncomputable def x107_3 : TL × TL := ((.sl 4 4 q2 (.cl (.int .i64 3) (.sl 1 3 (.cl (.int .i64 1) (.cl (.int .i64 1) (.cl (.int .i64 2) .nil))) .nil))), (.cl (.int .i64 1) (.cl (.bool true) .nil)))
theorem e107_3 : evM Tryz.prog tab1 700 107 laidL x107_3 = some (.bool true) := by kernel_rfl
/-- fescue/types.may -/
noncomputable def l107 : List (TL × TL) := [x107_0, x107_1, x107_2, x107_3]
noncomputable def tab2 : Tab := tab1.know 107 (memo laidL l107)
theorem ok2 : tab2.Ok Tryz.prog := ok1.know Tryz.checked.mixed (n := 700) closedAll (List.forall_mem_cons.2 ⟨e107_0, List.forall_mem_cons.2 ⟨e107_1, List.forall_mem_cons.2 ⟨e107_2, List.forall_mem_cons.2 ⟨e107_3, fun p hp => by cases hp⟩⟩⟩⟩)
noncomputable def x83_0 : TL × TL := ((.sl 4 4 q2 .nil), (.cl (.int .i64 0) .nil))
theorem e83_0 : evM Tryz.prog tab2 700 83 laidL x83_0 = some (.bool true) := by kernel_rfl
/-- fescue/types.Check -/
noncomputable def l83 : List (TL × TL) := [x83_0]
noncomputable def tab3 : Tab := tab2.know 83 (memo laidL l83)
theorem ok3 : tab3.Ok Tryz.prog := ok2.know Tryz.checked.mixed (n := 700) closedAll (List.forall_mem_cons.2 ⟨e83_0, fun p hp => by cases hp⟩)
noncomputable def x77_0 : TL × TL := ((.ag q3 .nil), (.cl (.int .i64 0) .nil))
theorem e77_0 : evM Tryz.prog tab3 700 77 laidL x77_0 = some (.bool true) := by kernel_rfl
/-- fescue/shape.Check -/
noncomputable def l77 : List (TL × TL) := [x77_0]
noncomputable def tab4 : Tab := tab3.know 77 (memo laidL l77)
theorem ok4 : tab4.Ok Tryz.prog := ok3.know Tryz.checked.mixed (n := 700) closedAll (List.forall_mem_cons.2 ⟨e77_0, fun p hp => by cases hp⟩)
noncomputable def x59_0 : TL × TL := ((.ag q3 (.cl (.int .i64 0) .nil)), (.cl (.int .i64 3) (.cl (.int .i64 0) .nil)))
theorem e59_0 : evM Tryz.prog tab4 700 59 laidL x59_0 = some (.bool true) := by kernel_rfl
noncomputable def x59_1 : TL × TL := ((.ag q3 (.cl (.int .i64 1) .nil)), (.cl (.int .i64 1) (.cl (.int .i64 0) .nil)))
theorem e59_1 : evM Tryz.prog tab4 700 59 laidL x59_1 = some (.bool true) := by kernel_rfl
/-- fescue/shape.Regs -/
noncomputable def l59 : List (TL × TL) := [x59_0, x59_1]
noncomputable def tab5 : Tab := tab4.know 59 (memo laidL l59)
theorem ok5 : tab5.Ok Tryz.prog := ok4.know Tryz.checked.mixed (n := 700) closedAll (List.forall_mem_cons.2 ⟨e59_0, List.forall_mem_cons.2 ⟨e59_1, fun p hp => by cases hp⟩⟩)
noncomputable def x136_0 : TL × TL := ((.ag q3 (.cl (.int .i64 0) .nil)), (.sl 1 1 (.cl (.int .i64 0) .nil) (.cl (.int .i64 0) .nil)))
theorem e136_0 : evM Tryz.prog tab5 700 136 laidL x136_0 = some (.bool true) := by kernel_rfl
noncomputable def x136_1 : TL × TL := ((.ag q3 (.cl (.int .i64 1) .nil)), (.sl 1 1 (.cl (.int .i64 0) .nil) (.cl (.int .i64 0) .nil)))
theorem e136_1 : evM Tryz.prog tab5 700 136 laidL x136_1 = some (.bool true) := by kernel_rfl
/-- fescue/flow.Reach -/
noncomputable def l136 : List (TL × TL) := [x136_0, x136_1]
noncomputable def tab6 : Tab := tab5.know 136 (memo laidL l136)
theorem ok6 : tab6.Ok Tryz.prog := ok5.know Tryz.checked.mixed (n := 700) closedAll (List.forall_mem_cons.2 ⟨e136_0, List.forall_mem_cons.2 ⟨e136_1, fun p hp => by cases hp⟩⟩)
noncomputable def x179_0 : TL × TL := ((.ag q3 (.cl (.int .i64 0) (.cl (.int .i64 0) .nil))), (.cl (.slice none 0 0) (.cl (.int .i64 0) .nil)))
theorem e179_0 : evM Tryz.prog tab6 700 179 laidL x179_0 = some (.bool true) := by kernel_rfl
noncomputable def x179_1 : TL × TL := ((.ag q3 (.cl (.int .i64 1) (.cl (.int .i64 0) .nil))), (.cl (.slice none 0 0) (.cl (.int .i64 0) .nil)))
theorem e179_1 : evM Tryz.prog tab6 700 179 laidL x179_1 = some (.bool true) := by kernel_rfl
/-- fescue/flow.Preds -/
noncomputable def l179 : List (TL × TL) := [x179_0, x179_1]
noncomputable def tab7 : Tab := tab6.know 179 (memo laidL l179)
theorem ok7 : tab7.Ok Tryz.prog := ok6.know Tryz.checked.mixed (n := 700) closedAll (List.forall_mem_cons.2 ⟨e179_0, List.forall_mem_cons.2 ⟨e179_1, fun p hp => by cases hp⟩⟩)
noncomputable def x228_0 : TL × TL := ((.ag q3 (.cl (.int .i64 0) .nil)), (.sl 1 1 (.cl (.int .i64 0) .nil) (.cl (.int .i64 0) .nil)))
theorem e228_0 : evM Tryz.prog tab7 700 228 laidL x228_0 = some (.bool true) := by kernel_rfl
noncomputable def x228_1 : TL × TL := ((.ag q3 (.cl (.int .i64 1) .nil)), (.sl 1 1 (.cl (.int .i64 0) .nil) (.cl (.int .i64 0) .nil)))
theorem e228_1 : evM Tryz.prog tab7 700 228 laidL x228_1 = some (.bool true) := by kernel_rfl
/-- fescue/flow.Order -/
noncomputable def l228 : List (TL × TL) := [x228_0, x228_1]
noncomputable def tab8 : Tab := tab7.know 228 (memo laidL l228)
theorem ok8 : tab8.Ok Tryz.prog := ok7.know Tryz.checked.mixed (n := 700) closedAll (List.forall_mem_cons.2 ⟨e228_0, List.forall_mem_cons.2 ⟨e228_1, fun p hp => by cases hp⟩⟩)
noncomputable def x171_0 : TL × TL := ((.ag q3 (.cl (.int .i64 0) .nil)), (.sl 1 1 (.cl (.int .i64 (-1)) .nil) (.cl (.int .i64 0) .nil)))
theorem e171_0 : evM Tryz.prog tab8 700 171 laidL x171_0 = some (.bool true) := by kernel_rfl
noncomputable def x171_1 : TL × TL := ((.ag q3 (.cl (.int .i64 1) .nil)), (.sl 1 1 (.cl (.int .i64 (-1)) .nil) (.cl (.int .i64 0) .nil)))
theorem e171_1 : evM Tryz.prog tab8 700 171 laidL x171_1 = some (.bool true) := by kernel_rfl
/-- fescue/dom.All -/
noncomputable def l171 : List (TL × TL) := [x171_0, x171_1]
noncomputable def tab9 : Tab := tab8.know 171 (memo laidL l171)
theorem ok9 : tab9.Ok Tryz.prog := ok8.know Tryz.checked.mixed (n := 700) closedAll (List.forall_mem_cons.2 ⟨e171_0, List.forall_mem_cons.2 ⟨e171_1, fun p hp => by cases hp⟩⟩)
noncomputable def x104_0 : TL × TL := ((.ag q3 (.cl (.int .i64 0) .nil)), (.cl (.nilIface) .nil))
theorem e104_0 : evM Tryz.prog tab9 700 104 laidL x104_0 = some (.bool true) := by kernel_rfl
noncomputable def x104_1 : TL × TL := ((.ag q3 (.cl (.int .i64 1) .nil)), (.cl (.nilIface) .nil))
theorem e104_1 : evM Tryz.prog tab9 700 104 laidL x104_1 = some (.bool true) := by kernel_rfl
/-- fescue/sound.function -/
noncomputable def l104 : List (TL × TL) := [x104_0, x104_1]
noncomputable def tab10 : Tab := tab9.know 104 (memo laidL l104)
theorem ok10 : tab10.Ok Tryz.prog := ok9.know Tryz.checked.mixed (n := 700) closedAll (List.forall_mem_cons.2 ⟨e104_0, List.forall_mem_cons.2 ⟨e104_1, fun p hp => by cases hp⟩⟩)
noncomputable def x78_0 : TL × TL := ((.ag q3 .nil), (.cl (.int .i64 0) .nil))
theorem e78_0 : evM Tryz.prog tab10 700 78 laidL x78_0 = some (.bool true) := by kernel_rfl
/-- fescue/sound.Check -/
noncomputable def l78 : List (TL × TL) := [x78_0]
noncomputable def tab11 : Tab := tab10.know 78 (memo laidL l78)
theorem ok11 : tab11.Ok Tryz.prog := ok10.know Tryz.checked.mixed (n := 700) closedAll (List.forall_mem_cons.2 ⟨e78_0, fun p hp => by cases hp⟩)
noncomputable def x35_0 : TL × TL := ((.sl 4 4 q2 (.cl (.int .i64 2) .nil)), (.sl 1 2 (.cl (.int .i64 0) (.cl (.int .i64 1) .nil)) (.cl (.int .i64 0) .nil)))
theorem e35_0 : evM Tryz.prog tab11 700 35 laidL x35_0 = some (.bool true) := by kernel_rfl
/-- fescue/types.Cells -/
noncomputable def l35 : List (TL × TL) := [x35_0]
noncomputable def tab12 : Tab := tab11.know 35 (memo laidL l35)
theorem ok12 : tab12.Ok Tryz.prog := ok11.know Tryz.checked.mixed (n := 700) closedAll (List.forall_mem_cons.2 ⟨e35_0, fun p hp => by cases hp⟩)
noncomputable def x60_0 : TL × TL := ((.sl 4 4 q2 (.cl (.int .i64 2) .nil)), (.sl 1 2 (.cl (.int .i64 0) (.cl (.int .i64 1) .nil)) (.cl (.int .i64 0) .nil)))
theorem e60_0 : evM Tryz.prog tab12 700 60 laidL x60_0 = some (.bool true) := by kernel_rfl
/-- fescue/flat.Fields -/
noncomputable def l60 : List (TL × TL) := [x60_0]
noncomputable def tab13 : Tab := tab12.know 60 (memo laidL l60)
theorem ok13 : tab13.Ok Tryz.prog := ok12.know Tryz.checked.mixed (n := 700) closedAll (List.forall_mem_cons.2 ⟨e60_0, fun p hp => by cases hp⟩)
noncomputable def x58_0 : TL × TL := ((.ag q3 .nil), (.sl 3 2 (.cl (.int .i64 0) (.cl (.int .i64 0) (.cl (.int .i64 2) (.cl (.int .i64 0) (.cl (.int .i64 1) (.cl (.int .i64 2) .nil)))))) (.cl (.int .i64 0) .nil)))
theorem e58_0 : evM Tryz.prog tab13 700 58 laidL x58_0 = some (.bool true) := by kernel_rfl
/-- fescue/step.Sites -/
noncomputable def l58 : List (TL × TL) := [x58_0]
noncomputable def tab14 : Tab := tab13.know 58 (memo laidL l58)
theorem ok14 : tab14.Ok Tryz.prog := ok13.know Tryz.checked.mixed (n := 700) closedAll (List.forall_mem_cons.2 ⟨e58_0, fun p hp => by cases hp⟩)
noncomputable def x33_0 : TL × TL := ((.ag q3 .nil), (.ag (.sl 1 2 (.cl (.int .i64 3) (.cl (.int .i64 1) .nil)) (.sl 1 2 (.cl (.int .i64 2) (.cl (.int .i64 2) .nil)) (.sl 3 2 (.cl (.int .i64 0) (.cl (.int .i64 0) (.cl (.int .i64 2) (.cl (.int .i64 0) (.cl (.int .i64 1) (.cl (.int .i64 2) .nil)))))) .nil))) (.cl (.int .i64 0) .nil)))
theorem e33_0 : evM Tryz.prog tab14 700 33 laidL x33_0 = some (.bool true) := by kernel_rfl
/-- fescue/node.of -/
noncomputable def l33 : List (TL × TL) := [x33_0]
noncomputable def tab15 : Tab := tab14.know 33 (memo laidL l33)
theorem ok15 : tab15.Ok Tryz.prog := ok14.know Tryz.checked.mixed (n := 700) closedAll (List.forall_mem_cons.2 ⟨e33_0, fun p hp => by cases hp⟩)
noncomputable def x74_0 : TL × TL := ((.cl (.string ⟨⟨[116, 121, 112, 101, 32, 105, 110, 116, 10, 116, 121, 112, 101, 32, 112, 116, 114, 32, 116, 50, 10, 116, 121, 112, 101, 32, 115, 116, 114, 117, 99, 116, 32, 116, 48, 32, 116, 49, 10, 116, 121, 112, 101, 32, 102, 110, 32, 116, 48, 10, 102, 117, 110, 99, 32, 116, 51, 10, 98, 108, 111, 99, 107, 10, 114, 48, 32, 116, 49, 32, 61, 32, 110, 101, 119, 10, 114, 49, 32, 116, 49, 32, 61, 32, 108, 111, 99, 97, 108, 10, 114, 50, 32, 116, 48, 32, 61, 32, 105, 110, 116, 32, 49, 10, 114, 101, 116, 117, 114, 110, 32, 114, 50, 10, 102, 117, 110, 99, 32, 116, 51, 10, 98, 108, 111, 99, 107, 10, 114, 48, 32, 116, 48, 32, 61, 32, 105, 110, 116, 32, 49, 10, 114, 101, 116, 117, 114, 110, 32, 114, 48, 10]⟩⟩) .nil), (.sl 1 14 (.sl 1 2 (.cl (.string ⟨⟨[116, 121, 112, 101]⟩⟩) (.cl (.string ⟨⟨[105, 110, 116]⟩⟩) .nil)) (.sl 1 3 (.cl (.string ⟨⟨[116, 121, 112, 101]⟩⟩) (.cl (.string ⟨⟨[112, 116, 114]⟩⟩) (.cl (.string ⟨⟨[116, 50]⟩⟩) .nil))) (.sl 1 4 (.cl (.string ⟨⟨[116, 121, 112, 101]⟩⟩) (.cl (.string ⟨⟨[115, 116, 114, 117, 99, 116]⟩⟩) (.cl (.string ⟨⟨[116, 48]⟩⟩) (.cl (.string ⟨⟨[116, 49]⟩⟩) .nil)))) (.sl 1 3 (.cl (.string ⟨⟨[116, 121, 112, 101]⟩⟩) (.cl (.string ⟨⟨[102, 110]⟩⟩) (.cl (.string ⟨⟨[116, 48]⟩⟩) .nil))) (.sl 1 2 (.cl (.string ⟨⟨[102, 117, 110, 99]⟩⟩) (.cl (.string ⟨⟨[116, 51]⟩⟩) .nil)) (.sl 1 1 (.cl (.string ⟨⟨[98, 108, 111, 99, 107]⟩⟩) .nil) (.sl 1 4 (.cl (.string ⟨⟨[114, 48]⟩⟩) (.cl (.string ⟨⟨[116, 49]⟩⟩) (.cl (.string ⟨⟨[61]⟩⟩) (.cl (.string ⟨⟨[110, 101, 119]⟩⟩) .nil)))) (.sl 1 4 (.cl (.string ⟨⟨[114, 49]⟩⟩) (.cl (.string ⟨⟨[116, 49]⟩⟩) (.cl (.string ⟨⟨[61]⟩⟩) (.cl (.string ⟨⟨[108, 111, 99, 97, 108]⟩⟩) .nil)))) (.sl 1 5 (.cl (.string ⟨⟨[114, 50]⟩⟩) (.cl (.string ⟨⟨[116, 48]⟩⟩) (.cl (.string ⟨⟨[61]⟩⟩) (.cl (.string ⟨⟨[105, 110, 116]⟩⟩) (.cl (.string ⟨⟨[49]⟩⟩) .nil))))) (.sl 1 2 (.cl (.string ⟨⟨[114, 101, 116, 117, 114, 110]⟩⟩) (.cl (.string ⟨⟨[114, 50]⟩⟩) .nil)) (.sl 1 2 (.cl (.string ⟨⟨[102, 117, 110, 99]⟩⟩) (.cl (.string ⟨⟨[116, 51]⟩⟩) .nil)) (.sl 1 1 (.cl (.string ⟨⟨[98, 108, 111, 99, 107]⟩⟩) .nil) (.sl 1 5 (.cl (.string ⟨⟨[114, 48]⟩⟩) (.cl (.string ⟨⟨[116, 48]⟩⟩) (.cl (.string ⟨⟨[61]⟩⟩) (.cl (.string ⟨⟨[105, 110, 116]⟩⟩) (.cl (.string ⟨⟨[49]⟩⟩) .nil))))) (.sl 1 2 (.cl (.string ⟨⟨[114, 101, 116, 117, 114, 110]⟩⟩) (.cl (.string ⟨⟨[114, 48]⟩⟩) .nil)) .nil)))))))))))))) (.cl (.int .i64 0) .nil)))
theorem e74_0 : evM Tryz.prog tab15 700 74 laidL x74_0 = some (.bool true) := by kernel_rfl
/-- fescue/lex.Lines -/
noncomputable def l74 : List (TL × TL) := [x74_0]
noncomputable def tab16 : Tab := tab15.know 74 (memo laidL l74)
theorem ok16 : tab16.Ok Tryz.prog := ok15.know Tryz.checked.mixed (n := 700) closedAll (List.forall_mem_cons.2 ⟨e74_0, fun p hp => by cases hp⟩)
noncomputable def x57_0 : TL × TL := ((.cl (.string ⟨⟨[116, 121, 112, 101, 32, 105, 110, 116, 10, 116, 121, 112, 101, 32, 112, 116, 114, 32, 116, 50, 10, 116, 121, 112, 101, 32, 115, 116, 114, 117, 99, 116, 32, 116, 48, 32, 116, 49, 10, 116, 121, 112, 101, 32, 102, 110, 32, 116, 48, 10, 102, 117, 110, 99, 32, 116, 51, 10, 98, 108, 111, 99, 107, 10, 114, 48, 32, 116, 49, 32, 61, 32, 110, 101, 119, 10, 114, 49, 32, 116, 49, 32, 61, 32, 108, 111, 99, 97, 108, 10, 114, 50, 32, 116, 48, 32, 61, 32, 105, 110, 116, 32, 49, 10, 114, 101, 116, 117, 114, 110, 32, 114, 50, 10, 102, 117, 110, 99, 32, 116, 51, 10, 98, 108, 111, 99, 107, 10, 114, 48, 32, 116, 48, 32, 61, 32, 105, 110, 116, 32, 49, 10, 114, 101, 116, 117, 114, 110, 32, 114, 48, 10]⟩⟩) .nil), (.ag q3 (.cl (.int .i64 0) .nil)))
theorem e57_0 : evM Tryz.prog tab16 700 57 laidL x57_0 = some (.bool true) := by kernel_rfl
/-- fescue/read.Read -/
noncomputable def l57 : List (TL × TL) := [x57_0]
noncomputable def tab17 : Tab := tab16.know 57 (memo laidL l57)
theorem ok17 : tab17.Ok Tryz.prog := ok16.know Tryz.checked.mixed (n := 700) closedAll (List.forall_mem_cons.2 ⟨e57_0, fun p hp => by cases hp⟩)
end Go.Proofs.YtfnndahpddkniaaGreatDoor.nodeNames
