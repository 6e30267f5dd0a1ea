/- SoundNames: calls of functions of the program, each worked out once by the kernel in the abstract machine (part 1). -/
import Derived.Test.YteekipjpghikkaaGreatDoorAmM
import Derived.Test.YteekipjpghikkaaGreatDoorAmD
import Derived.Test.YteekipjpghikkaaGreatDoorRows
import Derived.WalkKit
import Derived.ProofKit
import Derived.LaidMore
import Derived.OpenShut
import Derived.Stop.Joined
import Derived.SevenTiedAt
namespace Go.Proofs.YteekipjpghikkaaGreatDoor.soundNames
open Go.ChangeShapes Go.WideShapes Go.ChangeAt Go.WideMaps Go.WideElems Go.RowKit Go.Am
set_option linter.unusedVariables false
set_option linter.unusedSimpArgs false
set_option maxRecDepth 1000000
def laids : List (String × DataW Unit) := [("fescue/shape.table", Rows.laid_fescue_shape_table)]
def cells0 : List Value := flatD 16 (Rows.laid_fescue_shape_table : DataW Unit)
def laidL : List (Nat × List Value) := [(0, cells0)]
theorem closedAll : (laidL.all fun x => Nat.ble (x.1 + 1) Tryz.prog.globals.size && closedL x.2) = true := by kernel_rfl
noncomputable def tab0 : Tab := codeTab Tryz.prog
theorem ok0 : tab0.Ok Tryz.prog := codeTab_ok _
noncomputable def q0 : TL := (.sl 7 8 (.cl (.int .u8 11) (.cl (.int .i64 3) (.cl (.int .i64 0) (.cl (.int .i64 0) (.cl (.int .i64 0) (.cl (.slice none 0 0) (.cl (.slice none 0 0) (.cl (.int .u8 14) (.cl (.int .i64 8) (.cl (.int .i64 0) (.cl (.int .i64 0) (.cl (.int .i64 1) (.cl (.slice none 0 0) (.cl (.slice none 0 0) (.cl (.int .u8 16) (.cl (.int .i64 1) (.cl (.int .i64 1) (.cl (.int .i64 0) (.cl (.int .i64 0) (.cl (.slice none 0 0) (.cl (.slice none 0 0) (.cl (.int .u8 18) (.cl (.int .i64 0) (.cl (.int .i64 0) (.cl (.int .i64 0) (.cl (.int .i64 1) (.sl 1 1 (.cl (.int .i64 2) .nil) (.cl (.slice none 0 0) (.cl (.int .u8 3) (.cl (.int .i64 7) (.cl (.int .i64 0) (.cl (.int .i64 0) (.cl (.int .i64 1) (.cl (.slice none 0 0) (.cl (.slice none 0 0) (.cl (.int .u8 19) (.cl (.int .i64 0) (.cl (.int .i64 4) (.cl (.int .i64 0) (.cl (.int .i64 0) (.sl 1 1 (.cl (.int .i64 2) .nil) (.cl (.slice none 0 0) (.cl (.int .u8 17) (.cl (.int .i64 0) (.cl (.int .i64 1) (.cl (.int .i64 2) (.cl (.int .i64 0) (.cl (.slice none 0 0) (.cl (.slice none 0 0) (.cl (.int .u8 13) (.cl (.int .i64 0) (.cl (.int .i64 0) (.cl (.int .i64 0) (.cl (.int .i64 0) (.cl (.slice none 0 0) (.cl (.slice none 0 0) .nil)))))))))))))))))))))))))))))))))))))))))))))))))))))))) (.cl (.int .u8 3) (.cl (.int .i64 5) (.cl (.int .i64 0) (.cl (.int .i64 0) .nil)))))
noncomputable def q1 : TL := (.cl (.int .i64 6) (.sl 5 1 q0 .nil))
noncomputable def q2 : TL := (.sl 7 1 (.cl (.int .u8 16) (.cl (.int .i64 0) (.cl (.int .i64 0) (.cl (.int .i64 0) (.cl (.int .i64 0) (.cl (.slice none 0 0) (.cl (.slice none 0 0) .nil))))))) (.cl (.int .u8 3) (.cl (.int .i64 1) (.cl (.int .i64 0) (.cl (.int .i64 0) .nil)))))
noncomputable def q3 : TL := (.cl (.int .i64 6) (.sl 5 1 q0 (.cl (.int .i64 7) (.sl 5 1 q2 .nil))))
noncomputable def q4 : TL := (.cl (.int .u8 1) (.cl (.int .i64 0) (.cl (.int .i64 0) (.cl (.slice none 0 0) (.cl (.int .u8 2) (.cl (.int .i64 0) (.cl (.int .i64 0) (.cl (.slice none 0 0) (.cl (.int .u8 4) (.cl (.int .i64 0) (.cl (.int .i64 0) (.sl 1 2 (.cl (.int .i64 0) (.cl (.int .i64 1) .nil)) (.cl (.int .u8 2) (.cl (.int .i64 2) (.cl (.int .i64 0) (.cl (.slice none 0 0) (.cl (.int .u8 5) (.cl (.int .i64 0) (.cl (.int .i64 2) (.cl (.slice none 0 0) (.cl (.int .u8 2) (.cl (.int .i64 4) (.cl (.int .i64 0) (.cl (.slice none 0 0) (.cl (.int .u8 3) (.cl (.int .i64 0) (.cl (.int .i64 0) (.cl (.slice none 0 0) (.cl (.int .u8 3) (.cl (.int .i64 0) (.cl (.int .i64 0) (.sl 1 1 (.cl (.int .i64 1) .nil) (.cl (.int .u8 2) (.cl (.int .i64 1) (.cl (.int .i64 0) (.cl (.slice none 0 0) .nil))))))))))))))))))))))))))))))))))))
noncomputable def q5 : TL := (.sl 4 9 q4 (.sl 2 2 q3 .nil))
noncomputable def x65_0 : TL × TL := ((.ag q5 (.ag q1 .nil)), (.cl (.bool true) .nil))
theorem e65_0 : evM Tryz.prog tab0 700 65 laidL x65_0 = some (.bool true) := by kernel_rfl
noncomputable def q6 : TL := (.cl (.int .i64 7) (.sl 5 1 q2 .nil))
noncomputable def x65_1 : TL × TL := ((.ag q5 (.ag q6 .nil)), (.cl (.bool true) .nil))
theorem e65_1 : evM Tryz.prog tab0 700 65 laidL x65_1 = some (.bool true) := by kernel_rfl
noncomputable def q7 : TL := (.sl 7 8 (.cl (.int .u8 1) (.cl (.int .i64 0) (.cl (.int .i64 0) (.cl (.int .i64 0) (.cl (.int .i64 1) (.cl (.slice none 0 0) (.cl (.slice none 0 0) (.cl (.int .u8 12) (.cl (.int .i64 5) (.cl (.int .i64 0) (.cl (.int .i64 0) (.cl (.int .i64 0) (.cl (.slice none 0 0) (.cl (.slice none 0 0) (.cl (.int .u8 15) (.cl (.int .i64 1) (.cl (.int .i64 1) (.cl (.int .i64 0) (.cl (.int .i64 0) (.cl (.slice none 0 0) (.cl (.slice none 0 0) (.cl (.int .u8 17) (.cl (.int .i64 0) (.cl (.int .i64 2) (.cl (.int .i64 0) (.cl (.int .i64 0) (.cl (.slice none 0 0) (.cl (.slice none 0 0) (.cl (.int .u8 10) (.cl (.int .i64 0) (.cl (.int .i64 2) (.cl (.int .i64 2) (.cl (.int .i64 0) (.cl (.slice none 0 0) (.cl (.slice none 0 0) (.cl (.int .u8 21) (.cl (.int .i64 0) (.cl (.int .i64 4) (.cl (.int .i64 0) (.cl (.int .i64 0) (.cl (.slice none 0 0) (.cl (.slice none 0 0) (.cl (.int .u8 20) (.cl (.int .i64 0) (.cl (.int .i64 0) (.cl (.int .i64 0) (.cl (.int .i64 0) (.cl (.slice none 0 0) (.cl (.slice none 0 0) (.cl (.int .u8 2) (.cl (.int .i64 7) (.cl (.int .i64 0) (.cl (.int .i64 0) (.cl (.int .i64 0) (.cl (.slice none 0 0) (.cl (.slice none 0 0) .nil)))))))))))))))))))))))))))))))))))))))))))))))))))))))) (.cl (.int .u8 3) (.cl (.int .i64 6) (.cl (.int .i64 0) (.cl (.int .i64 0) .nil)))))
noncomputable def q8 : TL := (.cl (.int .i64 6) (.sl 5 1 q7 .nil))
noncomputable def q9 : TL := (.cl (.int .i64 6) (.sl 5 1 q7 (.cl (.int .i64 7) (.sl 5 1 q2 .nil))))
noncomputable def q10 : TL := (.sl 4 9 q4 (.sl 2 2 q9 .nil))
noncomputable def x65_2 : TL × TL := ((.ag q10 (.ag q8 .nil)), (.cl (.bool true) .nil))
theorem e65_2 : evM Tryz.prog tab0 700 65 laidL x65_2 = some (.bool true) := by kernel_rfl
noncomputable def x65_3 : TL × TL := ((.ag q10 (.ag q6 .nil)), (.cl (.bool true) .nil))
theorem e65_3 : evM Tryz.prog tab0 700 65 laidL x65_3 = some (.bool true) := by kernel_rfl
noncomputable def q11 : TL := (.sl 7 1 (.cl (.int .u8 1) (.cl (.int .i64 0) (.cl (.int .i64 0) (.cl (.int .i64 0) (.cl (.int .i64 1) (.cl (.slice none 0 0) (.cl (.slice none 0 0) .nil))))))) (.cl (.int .u8 1) (.cl (.int .i64 0) (.cl (.int .i64 1) (.cl (.int .i64 0) (.sl 7 2 (.cl (.int .u8 22) (.cl (.int .i64 0) (.cl (.int .i64 0) (.cl (.int .i64 0) (.cl (.int .i64 0) (.sl 1 2 (.cl (.int .i64 0) (.cl (.int .i64 2) .nil)) (.sl 1 2 (.cl (.int .i64 0) (.cl (.int .i64 1) .nil)) (.cl (.int .u8 4) (.cl (.int .i64 0) (.cl (.int .i64 1) (.cl (.int .i64 0) (.cl (.int .i64 0) (.cl (.slice none 0 0) (.cl (.slice none 0 0) .nil)))))))))))))) (.cl (.int .u8 2) (.cl (.int .i64 2) (.cl (.int .i64 1) (.cl (.int .i64 2) (.cl (.slice none 0 0) (.cl (.int .u8 3) (.cl (.int .i64 1) (.cl (.int .i64 0) (.cl (.int .i64 0) .nil)))))))))))))))
noncomputable def q12 : TL := (.sl 4 9 q4 (.sl 2 2 (.cl (.int .i64 6) (.sl 5 3 q11 (.cl (.int .i64 7) (.sl 5 1 q2 .nil)))) .nil))
noncomputable def x65_4 : TL × TL := ((.ag q12 (.ag (.cl (.int .i64 6) (.sl 5 3 q11 .nil)) .nil)), (.cl (.bool true) .nil))
theorem e65_4 : evM Tryz.prog tab0 700 65 laidL x65_4 = some (.bool true) := by kernel_rfl
noncomputable def x65_5 : TL × TL := ((.ag q12 (.ag q6 .nil)), (.cl (.bool true) .nil))
theorem e65_5 : evM Tryz.prog tab0 700 65 laidL x65_5 = some (.bool true) := by kernel_rfl
noncomputable def q13 : TL := (.sl 7 3 (.cl (.int .u8 11) (.cl (.int .i64 3) (.cl (.int .i64 0) (.cl (.int .i64 0) (.cl (.int .i64 0) (.cl (.slice none 0 0) (.cl (.slice none 0 0) (.cl (.int .u8 14) (.cl (.int .i64 1) (.cl (.int .i64 0) (.cl (.int .i64 0) (.cl (.int .i64 1) (.cl (.slice none 0 0) (.cl (.slice none 0 0) (.cl (.int .u8 16) (.cl (.int .i64 0) (.cl (.int .i64 1) (.cl (.int .i64 0) (.cl (.int .i64 0) (.cl (.slice none 0 0) (.cl (.slice none 0 0) .nil))))))))))))))))))))) (.cl (.int .u8 3) (.cl (.int .i64 2) (.cl (.int .i64 0) (.cl (.int .i64 0) .nil)))))
noncomputable def q14 : TL := (.sl 4 9 q4 (.sl 2 2 (.cl (.int .i64 6) (.sl 5 1 q13 (.cl (.int .i64 7) (.sl 5 1 q2 .nil)))) .nil))
noncomputable def x65_6 : TL × TL := ((.ag q14 (.ag (.cl (.int .i64 6) (.sl 5 1 q13 .nil)) .nil)), (.cl (.bool true) .nil))
theorem e65_6 : evM Tryz.prog tab0 700 65 laidL x65_6 = some (.bool true) := by kernel_rfl
noncomputable def x65_7 : TL × TL := ((.ag q14 (.ag q6 .nil)), (.cl (.bool true) .nil))
theorem e65_7 : evM Tryz.prog tab0 700 65 laidL x65_7 = some (.bool true) := by kernel_rfl
noncomputable def q15 : TL := (.sl 7 3 (.cl (.int .u8 11) (.cl (.int .i64 1) (.cl (.int .i64 0) (.cl (.int .i64 0) (.cl (.int .i64 0) (.cl (.slice none 0 0) (.cl (.slice none 0 0) (.cl (.int .u8 17) (.cl (.int .i64 0) (.cl (.int .i64 0) (.cl (.int .i64 0) (.cl (.int .i64 0) (.cl (.slice none 0 0) (.cl (.slice none 0 0) (.cl (.int .u8 16) (.cl (.int .i64 0) (.cl (.int .i64 0) (.cl (.int .i64 0) (.cl (.int .i64 0) (.cl (.slice none 0 0) (.cl (.slice none 0 0) .nil))))))))))))))))))))) (.cl (.int .u8 3) (.cl (.int .i64 2) (.cl (.int .i64 0) (.cl (.int .i64 0) .nil)))))
noncomputable def q16 : TL := (.sl 4 9 q4 (.sl 2 2 (.cl (.int .i64 6) (.sl 5 1 q15 (.cl (.int .i64 7) (.sl 5 1 q2 .nil)))) .nil))
noncomputable def x65_8 : TL × TL := ((.ag q16 (.ag (.cl (.int .i64 6) (.sl 5 1 q15 .nil)) .nil)), (.cl (.bool true) .nil))
theorem e65_8 : evM Tryz.prog tab0 700 65 laidL x65_8 = some (.bool true) := by kernel_rfl
noncomputable def x65_9 : TL × TL := ((.ag q16 (.ag q6 .nil)), (.cl (.bool true) .nil))
theorem e65_9 : evM Tryz.prog tab0 700 65 laidL x65_9 = some (.bool true) := by kernel_rfl
noncomputable def q17 : TL := (.sl 7 1 (.cl (.int .u8 11) (.cl (.int .i64 1) (.cl (.int .i64 0) (.cl (.int .i64 0) (.cl (.int .i64 0) (.cl (.slice none 0 0) (.cl (.slice none 0 0) .nil))))))) (.cl (.int .u8 3) (.cl (.int .i64 0) (.cl (.int .i64 0) (.cl (.int .i64 0) .nil)))))
noncomputable def q18 : TL := (.sl 4 9 q4 (.sl 2 2 (.cl (.int .i64 6) (.sl 5 1 q17 (.cl (.int .i64 7) (.sl 5 1 q2 .nil)))) .nil))
noncomputable def x65_10 : TL × TL := ((.ag q18 (.ag (.cl (.int .i64 6) (.sl 5 1 q17 .nil)) .nil)), (.cl (.bool true) .nil))
theorem e65_10 : evM Tryz.prog tab0 700 65 laidL x65_10 = some (.bool true) := by kernel_rfl
noncomputable def x65_11 : TL × TL := ((.ag q18 (.ag q6 .nil)), (.cl (.bool true) .nil))
theorem e65_11 : evM Tryz.prog tab0 700 65 laidL x65_11 = some (.bool true) := by kernel_rfl
noncomputable def q19 : TL := (.sl 7 2 (.cl (.int .u8 1) (.cl (.int .i64 0) (.cl (.int .i64 0) (.cl (.int .i64 0) (.cl (.int .i64 1) (.cl (.slice none 0 0) (.cl (.slice none 0 0) (.cl (.int .u8 18) (.cl (.int .i64 0) (.cl (.int .i64 0) (.cl (.int .i64 0) (.cl (.int .i64 1) (.sl 1 1 (.cl (.int .i64 0) .nil) (.cl (.slice none 0 0) .nil)))))))))))))) (.cl (.int .u8 3) (.cl (.int .i64 0) (.cl (.int .i64 0) (.cl (.int .i64 0) .nil)))))
noncomputable def q20 : TL := (.sl 4 9 q4 (.sl 2 2 (.cl (.int .i64 6) (.sl 5 1 q19 (.cl (.int .i64 7) (.sl 5 1 q2 .nil)))) .nil))
noncomputable def x65_12 : TL × TL := ((.ag q20 (.ag (.cl (.int .i64 6) (.sl 5 1 q19 .nil)) .nil)), (.cl (.bool true) .nil))
theorem e65_12 : evM Tryz.prog tab0 700 65 laidL x65_12 = some (.bool true) := by kernel_rfl
noncomputable def x65_13 : TL × TL := ((.ag q20 (.ag q6 .nil)), (.cl (.bool true) .nil))
theorem e65_13 : evM Tryz.prog tab0 700 65 laidL x65_13 = some (.bool true) := by kernel_rfl
noncomputable def q21 : TL := (.sl 7 1 (.cl (.int .u8 1) (.cl (.int .i64 0) (.cl (.int .i64 0) (.cl (.int .i64 0) (.cl (.int .i64 1) (.cl (.slice none 0 0) (.cl (.slice none 0 0) .nil))))))) (.cl (.int .u8 1) (.cl (.int .i64 0) (.cl (.int .i64 0) (.cl (.int .i64 0) .nil)))))
noncomputable def q22 : TL := (.sl 4 9 q4 (.sl 2 2 (.cl (.int .i64 6) (.sl 5 1 q21 (.cl (.int .i64 7) (.sl 5 1 q2 .nil)))) .nil))
noncomputable def x65_14 : TL × TL := ((.ag q22 (.ag (.cl (.int .i64 6) (.sl 5 1 q21 .nil)) .nil)), (.cl (.bool true) .nil))
theorem e65_14 : evM Tryz.prog tab0 700 65 laidL x65_14 = some (.bool true) := by kernel_rfl
noncomputable def x65_15 : TL × TL := ((.ag q22 (.ag q6 .nil)), (.cl (.bool true) .nil))
theorem e65_15 : evM Tryz.prog tab0 700 65 laidL x65_15 = some (.bool true) := by kernel_rfl
noncomputable def q23 : TL := (.sl 7 1 (.cl (.int .u8 1) (.cl (.int .i64 0) (.cl (.int .i64 0) (.cl (.int .i64 0) (.cl (.int .i64 1) (.cl (.slice none 0 0) (.cl (.slice none 0 0) .nil))))))) (.cl (.int .u8 3) (.cl (.int .i64 0) (.cl (.int .i64 0) (.cl (.int .i64 0) (.cl (.slice none 0 0) (.cl (.int .u8 3) (.cl (.int .i64 0) (.cl (.int .i64 0) (.cl (.int .i64 0) .nil))))))))))
noncomputable def q24 : TL := (.sl 4 9 q4 (.sl 2 2 (.cl (.int .i64 6) (.sl 5 2 q23 (.cl (.int .i64 7) (.sl 5 1 q2 .nil)))) .nil))
noncomputable def x65_16 : TL × TL := ((.ag q24 (.ag (.cl (.int .i64 6) (.sl 5 2 q23 .nil)) .nil)), (.cl (.bool true) .nil))
theorem e65_16 : evM Tryz.prog tab0 700 65 laidL x65_16 = some (.bool true) := by kernel_rfl
noncomputable def x65_17 : TL × TL := ((.ag q24 (.ag q6 .nil)), (.cl (.bool true) .nil))
theorem e65_17 : evM Tryz.prog tab0 700 65 laidL x65_17 = some (.bool true) := by kernel_rfl
noncomputable def q25 : TL := (.sl 7 1 (.cl (.int .u8 1) (.cl (.int .i64 0) (.cl (.int .i64 0) (.cl (.int .i64 0) (.cl (.int .i64 1) (.cl (.slice none 0 0) (.cl (.slice none 0 0) .nil))))))) (.cl (.int .u8 1) (.cl (.int .i64 0) (.cl (.int .i64 1) (.cl (.int .i64 0) (.sl 7 1 (.cl (.int .u8 22) (.cl (.int .i64 0) (.cl (.int .i64 0) (.cl (.int .i64 0) (.cl (.int .i64 0) (.sl 1 1 (.cl (.int .i64 0) .nil) (.sl 1 1 (.cl (.int .i64 1) .nil) .nil))))))) (.cl (.int .u8 3) (.cl (.int .i64 1) (.cl (.int .i64 0) (.cl (.int .i64 0) .nil))))))))))
noncomputable def q26 : TL := (.sl 4 9 q4 (.sl 2 2 (.cl (.int .i64 6) (.sl 5 2 q25 (.cl (.int .i64 7) (.sl 5 1 q2 .nil)))) .nil))
noncomputable def x65_18 : TL × TL := ((.ag q26 (.ag (.cl (.int .i64 6) (.sl 5 2 q25 .nil)) .nil)), (.cl (.bool true) .nil))
theorem e65_18 : evM Tryz.prog tab0 700 65 laidL x65_18 = some (.bool true) := by kernel_rfl
noncomputable def x65_19 : TL × TL := ((.ag q26 (.ag q6 .nil)), (.cl (.bool true) .nil))
theorem e65_19 : evM Tryz.prog tab0 700 65 laidL x65_19 = some (.bool true) := by kernel_rfl
noncomputable def q27 : TL := (.sl 7 3 (.cl (.int .u8 1) (.cl (.int .i64 0) (.cl (.int .i64 0) (.cl (.int .i64 0) (.cl (.int .i64 1) (.cl (.slice none 0 0) (.cl (.slice none 0 0) (.cl (.int .u8 21) (.cl (.int .i64 0) (.cl (.int .i64 0) (.cl (.int .i64 0) (.cl (.int .i64 0) (.cl (.slice none 0 0) (.cl (.slice none 0 0) (.cl (.int .u8 4) (.cl (.int .i64 0) (.cl (.int .i64 1) (.cl (.int .i64 0) (.cl (.int .i64 0) (.cl (.slice none 0 0) (.cl (.slice none 0 0) .nil))))))))))))))))))))) (.cl (.int .u8 3) (.cl (.int .i64 0) (.cl (.int .i64 0) (.cl (.int .i64 0) .nil)))))
noncomputable def q28 : TL := (.sl 4 9 q4 (.sl 2 2 (.cl (.int .i64 6) (.sl 5 1 q27 (.cl (.int .i64 7) (.sl 5 1 q2 .nil)))) .nil))
noncomputable def x65_20 : TL × TL := ((.ag q28 (.ag (.cl (.int .i64 6) (.sl 5 1 q27 .nil)) .nil)), (.cl (.bool true) .nil))
theorem e65_20 : evM Tryz.prog tab0 700 65 laidL x65_20 = some (.bool true) := by kernel_rfl
noncomputable def x65_21 : TL × TL := ((.ag q28 (.ag q6 .nil)), (.cl (.bool true) .nil))
theorem e65_21 : evM Tryz.prog tab0 700 65 laidL x65_21 = some (.bool true) := by kernel_rfl
noncomputable def q29 : TL := (.sl 7 1 (.cl (.int .u8 1) (.cl (.int .i64 0) (.cl (.int .i64 0) (.cl (.int .i64 0) (.cl (.int .i64 1) (.cl (.slice none 0 0) (.cl (.slice none 0 0) .nil))))))) (.cl (.int .u8 1) (.cl (.int .i64 0) (.cl (.int .i64 1) (.cl (.int .i64 0) (.sl 7 2 (.cl (.int .u8 21) (.cl (.int .i64 0) (.cl (.int .i64 0) (.cl (.int .i64 0) (.cl (.int .i64 0) (.cl (.slice none 0 0) (.cl (.slice none 0 0) (.cl (.int .u8 22) (.cl (.int .i64 0) (.cl (.int .i64 0) (.cl (.int .i64 0) (.cl (.int .i64 0) (.sl 1 1 (.cl (.int .i64 0) .nil) (.sl 1 1 (.cl (.int .i64 0) .nil) .nil)))))))))))))) (.cl (.int .u8 3) (.cl (.int .i64 0) (.cl (.int .i64 0) (.cl (.int .i64 0) .nil))))))))))
noncomputable def q30 : TL := (.sl 4 9 q4 (.sl 2 2 (.cl (.int .i64 6) (.sl 5 2 q29 (.cl (.int .i64 7) (.sl 5 1 q2 .nil)))) .nil))
noncomputable def x65_22 : TL × TL := ((.ag q30 (.ag (.cl (.int .i64 6) (.sl 5 2 q29 .nil)) .nil)), (.cl (.bool true) .nil))
theorem e65_22 : evM Tryz.prog tab0 700 65 laidL x65_22 = some (.bool true) := by kernel_rfl
noncomputable def x65_23 : TL × TL := ((.ag q30 (.ag q6 .nil)), (.cl (.bool true) .nil))
theorem e65_23 : evM Tryz.prog tab0 700 65 laidL x65_23 = some (.bool true) := by kernel_rfl
noncomputable def q31 : TL := (.sl 7 3 (.cl (.int .u8 2) (.cl (.int .i64 3) (.cl (.int .i64 0) (.cl (.int .i64 0) (.cl (.int .i64 0) (.cl (.slice none 0 0) (.cl (.slice none 0 0) (.cl (.int .u8 16) (.cl (.int .i64 3) (.cl (.int .i64 0) (.cl (.int .i64 0) (.cl (.int .i64 0) (.cl (.slice none 0 0) (.cl (.slice none 0 0) (.cl (.int .u8 1) (.cl (.int .i64 0) (.cl (.int .i64 0) (.cl (.int .i64 0) (.cl (.int .i64 1) (.cl (.slice none 0 0) (.cl (.slice none 0 0) .nil))))))))))))))))))))) (.cl (.int .u8 3) (.cl (.int .i64 2) (.cl (.int .i64 0) (.cl (.int .i64 0) .nil)))))
noncomputable def q32 : TL := (.sl 4 9 q4 (.sl 2 2 (.cl (.int .i64 6) (.sl 5 1 q31 (.cl (.int .i64 7) (.sl 5 1 q2 .nil)))) .nil))
noncomputable def x65_24 : TL × TL := ((.ag q32 (.ag (.cl (.int .i64 6) (.sl 5 1 q31 .nil)) .nil)), (.cl (.bool true) .nil))
theorem e65_24 : evM Tryz.prog tab0 700 65 laidL x65_24 = some (.bool true) := by kernel_rfl
noncomputable def x65_25 : TL × TL := ((.ag q32 (.ag q6 .nil)), (.cl (.bool true) .nil))
theorem e65_25 : evM Tryz.prog tab0 700 65 laidL x65_25 = some (.bool true) := by kernel_rfl
noncomputable def q33 : TL := (.cl (.int .i64 1) (.sl 5 2 (.sl 7 1 (.cl (.int .u8 1) (.cl (.int .i64 0) (.cl (.int .i64 0) (.cl (.int .i64 0) (.cl (.int .i64 5) (.cl (.slice none 0 0) (.cl (.slice none 0 0) .nil))))))) (.cl (.int .u8 1) (.cl (.int .i64 0) (.cl (.int .i64 1) (.cl (.int .i64 0) (.sl 7 1 (.cl (.int .u8 4) (.cl (.int .i64 0) (.cl (.int .i64 0) (.cl (.int .i64 0) (.cl (.int .i64 0) (.cl (.slice none 0 0) (.cl (.slice none 0 0) .nil))))))) (.cl (.int .u8 3) (.cl (.int .i64 1) (.cl (.int .i64 0) (.cl (.int .i64 0) .nil)))))))))) .nil))
noncomputable def q34 : TL := (.sl 4 2 (.cl (.int .u8 1) (.cl (.int .i64 0) (.cl (.int .i64 0) (.cl (.slice none 0 0) (.cl (.int .u8 3) (.cl (.int .i64 0) (.cl (.int .i64 0) (.cl (.slice none 0 0) .nil)))))))) (.sl 2 1 q33 .nil))
noncomputable def x65_26 : TL × TL := ((.ag q34 (.ag q33 .nil)), (.cl (.bool true) .nil))
theorem e65_26 : evM Tryz.prog tab0 700 65 laidL x65_26 = some (.bool true) := by kernel_rfl
noncomputable def q35 : TL := (.cl (.int .i64 1) (.sl 5 2 (.sl 7 1 (.cl (.int .u8 1) (.cl (.int .i64 0) (.cl (.int .i64 0) (.cl (.int .i64 0) (.cl (.int .i64 5) (.cl (.slice none 0 0) (.cl (.slice none 0 0) .nil))))))) (.cl (.int .u8 1) (.cl (.int .i64 0) (.cl (.int .i64 1) (.cl (.int .i64 0) (.sl 7 1 (.cl (.int .u8 21) (.cl (.int .i64 0) (.cl (.int .i64 0) (.cl (.int .i64 0) (.cl (.int .i64 0) (.cl (.slice none 0 0) (.cl (.slice none 0 0) .nil))))))) (.cl (.int .u8 3) (.cl (.int .i64 0) (.cl (.int .i64 0) (.cl (.int .i64 0) .nil)))))))))) .nil))
noncomputable def q36 : TL := (.sl 4 2 (.cl (.int .u8 1) (.cl (.int .i64 0) (.cl (.int .i64 0) (.cl (.slice none 0 0) (.cl (.int .u8 3) (.cl (.int .i64 0) (.cl (.int .i64 0) (.cl (.slice none 0 0) .nil)))))))) (.sl 2 1 q35 .nil))
noncomputable def x65_27 : TL × TL := ((.ag q36 (.ag q35 .nil)), (.cl (.bool true) .nil))
theorem e65_27 : evM Tryz.prog tab0 700 65 laidL x65_27 = some (.bool true) := by kernel_rfl
noncomputable def q37 : TL := (.cl (.int .i64 1) (.sl 5 2 (.sl 7 1 (.cl (.int .u8 1) (.cl (.int .i64 0) (.cl (.int .i64 0) (.cl (.int .i64 0) (.cl (.int .i64 5) (.cl (.slice none 0 0) (.cl (.slice none 0 0) .nil))))))) (.cl (.int .u8 1) (.cl (.int .i64 0) (.cl (.int .i64 1) (.cl (.int .i64 0) (.sl 7 1 (.cl (.int .u8 4) (.cl (.int .i64 0) (.cl (.int .i64 1) (.cl (.int .i64 1) (.cl (.int .i64 0) (.cl (.slice none 0 0) (.cl (.slice none 0 0) .nil))))))) (.cl (.int .u8 3) (.cl (.int .i64 1) (.cl (.int .i64 0) (.cl (.int .i64 0) .nil)))))))))) .nil))
noncomputable def q38 : TL := (.sl 4 2 (.cl (.int .u8 1) (.cl (.int .i64 0) (.cl (.int .i64 0) (.cl (.slice none 0 0) (.cl (.int .u8 3) (.cl (.int .i64 0) (.cl (.int .i64 0) (.cl (.slice none 0 0) .nil)))))))) (.sl 2 1 q37 .nil))
noncomputable def x65_28 : TL × TL := ((.ag q38 (.ag q37 .nil)), (.cl (.bool true) .nil))
theorem e65_28 : evM Tryz.prog tab0 700 65 laidL x65_28 = some (.bool true) := by kernel_rfl
noncomputable def q39 : TL := (.sl 4 2 (.cl (.int .u8 1) (.cl (.int .i64 0) (.cl (.int .i64 0) (.cl (.slice none 0 0) (.cl (.int .u8 3) (.cl (.int .i64 0) (.cl (.int .i64 0) (.sl 1 1 (.cl (.int .i64 0) .nil) .nil)))))))) (.sl 2 1 q33 .nil))
noncomputable def x65_29 : TL × TL := ((.ag q39 (.ag q33 .nil)), (.cl (.bool true) .nil))
theorem e65_29 : evM Tryz.prog tab0 700 65 laidL x65_29 = some (.bool true) := by kernel_rfl
/-- fescue/shape.function -/
noncomputable def l65 : List (TL × TL) := [x65_0, x65_1, x65_2, x65_3, x65_4, x65_5, x65_6, x65_7, x65_8, x65_9, x65_10, x65_11, x65_12, x65_13, x65_14, x65_15, x65_16, x65_17, x65_18, x65_19, x65_20, x65_21, x65_22, x65_23, x65_24, x65_25, x65_26, x65_27, x65_28, x65_29]
noncomputable def tab1 : Tab := tab0.know 65 (memo laidL l65)
theorem ok1 : tab1.Ok Tryz.prog := ok0.know Tryz.checked.mixed (n := 700) closedAll (List.forall_mem_cons.2 ⟨e65_0, List.forall_mem_cons.2 ⟨e65_1, List.forall_mem_cons.2 ⟨e65_2, List.forall_mem_cons.2 ⟨e65_3, List.forall_mem_cons.2 ⟨e65_4, List.forall_mem_cons.2 ⟨e65_5, List.forall_mem_cons.2 ⟨e65_6, List.forall_mem_cons.2 ⟨e65_7, List.forall_mem_cons.2 ⟨e65_8, List.forall_mem_cons.2 ⟨e65_9, List.forall_mem_cons.2 ⟨e65_10, List.forall_mem_cons.2 ⟨e65_11, List.forall_mem_cons.2 ⟨e65_12, List.forall_mem_cons.2 ⟨e65_13, List.forall_mem_cons.2 ⟨e65_14, List.forall_mem_cons.2 ⟨e65_15, List.forall_mem_cons.2 ⟨e65_16, List.forall_mem_cons.2 ⟨e65_17, List.forall_mem_cons.2 ⟨e65_18, List.forall_mem_cons.2 ⟨e65_19, List.forall_mem_cons.2 ⟨e65_20, List.forall_mem_cons.2 ⟨e65_21, List.forall_mem_cons.2 ⟨e65_22, List.forall_mem_cons.2 ⟨e65_23, List.forall_mem_cons.2 ⟨e65_24, List.forall_mem_cons.2 ⟨e65_25, List.forall_mem_cons.2 ⟨e65_26, List.forall_mem_cons.2 ⟨e65_27, List.forall_mem_cons.2 ⟨e65_28, List.forall_mem_cons.2 ⟨e65_29, fun p hp => by cases hp⟩⟩⟩⟩⟩⟩⟩⟩⟩⟩⟩⟩⟩⟩⟩⟩⟩⟩⟩⟩⟩⟩⟩⟩⟩⟩⟩⟩⟩⟩)
noncomputable def x98_0 : TL × TL := ((.sl 4 9 q4 (.cl (.int .i64 0) (.cl (.slice none 0 0) .nil))), (.cl (.int .i64 1) (.cl (.bool true) .nil)))
theorem e98_0 : evM Tryz.prog tab1 700 98 laidL x98_0 = some (.bool true) := by kernel_rfl
noncomputable def x98_1 : TL × TL := ((.sl 4 9 q4 (.cl (.int .i64 1) (.sl 1 1 (.cl (.int .i64 1) .nil) .nil))), (.cl (.int .i64 1) (.cl (.bool true) .nil)))
theorem e98_1 : evM Tryz.prog tab1 700 98 laidL x98_1 = some (.bool true) := by kernel_rfl
noncomputable def x98_2 : TL × TL := ((.sl 4 9 q4 (.cl (.int .i64 2) (.sl 1 2 (.cl (.int .i64 1) (.cl (.int .i64 1) .nil)) .nil))), (.cl (.int .i64 2) (.cl (.bool true) .nil)))
theorem e98_2 : evM Tryz.prog tab1 700 98 laidL x98_2 = some (.bool true) := by kernel_rfl
noncomputable def x98_3 : TL × TL := ((.sl 4 9 q4 (.cl (.int .i64 3) (.sl 1 3 (.cl (.int .i64 1) (.cl (.int .i64 1) (.cl (.int .i64 2) .nil))) .nil))), (.cl (.int .i64 1) (.cl (.bool true) .nil)))
theorem e98_3 : evM Tryz.prog tab1 700 98 laidL x98_3 = some (.bool true) := by kernel_rfl
noncomputable def x98_4 : TL × TL := ((.sl 4 9 q4 (.cl (.int .i64 4) (.sl 1 4 (.cl (.int .i64 1) (.cl (.int .i64 1) (.cl (.int .i64 2) (.cl (.int .i64 1) .nil)))) .nil))), (.cl (.int .i64 2) (.cl (.bool true) .nil)))
theorem e98_4 : evM Tryz.prog tab1 700 98 laidL x98_4 = some (.bool true) := by kernel_rfl
noncomputable def x98_5 : TL × TL := ((.sl 4 9 q4 (.cl (.int .i64 5) (.sl 1 5 (.cl (.int .i64 1) (.cl (.int .i64 1) (.cl (.int .i64 2) (.cl (.int .i64 1) (.cl (.int .i64 2) .nil))))) .nil))), (.cl (.int .i64 1) (.cl (.bool true) .nil)))
theorem e98_5 : evM Tryz.prog tab1 700 98 laidL x98_5 = some (.bool true) := by kernel_rfl
noncomputable def x98_6 : TL × TL := ((.sl 4 9 q4 (.cl (.int .i64 6) (.sl 1 6 (.cl (.int .i64 1) (.cl (.int .i64 1) (.cl (.int .i64 2) (.cl (.int .i64 1) (.cl (.int .i64 2) (.cl (.int .i64 1) .nil)))))) .nil))), (.cl (.int .i64 1) (.cl (.bool true) .nil)))
theorem e98_6 : evM Tryz.prog tab1 700 98 laidL x98_6 = some (.bool true) := by kernel_rfl
noncomputable def x98_7 : TL × TL := ((.sl 4 9 q4 (.cl (.int .i64 7) (.sl 1 7 (.cl (.int .i64 1) (.cl (.int .i64 1) (.cl (.int .i64 2) (.cl (.int .i64 1) (.cl (.int .i64 2) (.cl (.int .i64 1) (.cl (.int .i64 1) .nil))))))) .nil))), (.cl (.int .i64 1) (.cl (.bool true) .nil)))
theorem e98_7 : evM Tryz.prog tab1 700 98 laidL x98_7 = some (.bool true) := by kernel_rfl
noncomputable def x98_8 : TL × TL := ((.sl 4 9 q4 (.cl (.int .i64 8) (.sl 1 8 (.cl (.int .i64 1) (.cl (.int .i64 1) (.cl (.int .i64 2) (.cl (.int .i64 1) (.cl (.int .i64 2) (.cl (.int .i64 1) (.cl (.int .i64 1) (.cl (.int .i64 1) .nil)))))))) .nil))), (.cl (.int .i64 1) (.cl (.bool true) .nil)))
theorem e98_8 : evM Tryz.prog tab1 700 98 laidL x98_8 = some (.bool true) := by kernel_rfl
noncomputable def x98_9 : TL × TL := ((.sl 4 2 (.cl (.int .u8 1) (.cl (.int .i64 0) (.cl (.int .i64 0) (.cl (.slice none 0 0) (.cl (.int .u8 3) (.cl (.int .i64 0) (.cl (.int .i64 0) (.cl (.slice none 0 0) .nil)))))))) (.cl (.int .i64 0) (.cl (.slice none 0 0) .nil))), (.cl (.int .i64 1) (.cl (.bool true) .nil)))
theorem e98_9 : evM Tryz.prog tab1 700 98 laidL x98_9 = some (.bool true) := by kernel_rfl
noncomputable def x98_10 : TL × TL := ((.sl 4 2 (.cl (.int .u8 1) (.cl (.int .i64 0) (.cl (.int .i64 0) (.cl (.slice none 0 0) (.cl (.int .u8 3) (.cl (.int .i64 0) (.cl (.int .i64 0) (.cl (.slice none 0 0) .nil)))))))) (.cl (.int .i64 1) (.sl 1 1 (.cl (.int .i64 1) .nil) .nil))), (.cl (.int .i64 1) (.cl (.bool true) .nil)))
theorem e98_10 : evM Tryz.prog tab1 700 98 laidL x98_10 = some (.bool true) := by kernel_rfl
noncomputable def x98_11 : TL × TL := ((.sl 4 2 (.cl (.int .u8 1) (.cl (.int .i64 0) (.cl (.int .i64 0) (.cl (.slice none 0 0) (.cl (.int .u8 3) (.cl (.int .i64 0) (.cl (.int .i64 0) (.sl 1 1 (.cl (.int .i64 0) .nil) .nil)))))))) (.cl (.int .i64 0) (.cl (.slice none 0 0) .nil))), (.cl (.int .i64 1) (.cl (.bool true) .nil)))
theorem e98_11 : evM Tryz.prog tab1 700 98 laidL x98_11 = some (.bool true) := by kernel_rfl
noncomputable def x98_12 : TL × TL := ((.sl 4 2 (.cl (.int .u8 1) (.cl (.int .i64 0) (.cl (.int .i64 0) (.cl (.slice none 0 0) (.cl (.int .u8 3) (.cl (.int .i64 0) (.cl (.int .i64 0) (.sl 1 1 (.cl (.int .i64 0) .nil) .nil)))))))) (.cl (.int .i64 1) (.sl 1 1 (.cl (.int .i64 1) .nil) .nil))), (.cl (.int .i64 1) (.cl (.bool true) .nil)))
theorem e98_12 : evM Tryz.prog tab1 700 98 laidL x98_12 = some (.bool true) := by kernel_rfl
/-- fescue/types.may -/
noncomputable def l98 : List (TL × TL) := [x98_0, x98_1, x98_2, x98_3, x98_4, x98_5, x98_6, x98_7, x98_8, x98_9, x98_10, x98_11, x98_12]
noncomputable def tab2 : Tab := tab1.know 98 (memo laidL l98)
theorem ok2 : tab2.Ok Tryz.prog := ok1.know Tryz.checked.mixed (n := 700) closedAll (List.forall_mem_cons.2 ⟨e98_0, List.forall_mem_cons.2 ⟨e98_1, List.forall_mem_cons.2 ⟨e98_2, List.forall_mem_cons.2 ⟨e98_3, List.forall_mem_cons.2 ⟨e98_4, List.forall_mem_cons.2 ⟨e98_5, List.forall_mem_cons.2 ⟨e98_6, List.forall_mem_cons.2 ⟨e98_7, List.forall_mem_cons.2 ⟨e98_8, List.forall_mem_cons.2 ⟨e98_9, List.forall_mem_cons.2 ⟨e98_10, List.forall_mem_cons.2 ⟨e98_11, List.forall_mem_cons.2 ⟨e98_12, fun p hp => by cases hp⟩⟩⟩⟩⟩⟩⟩⟩⟩⟩⟩⟩⟩)
noncomputable def x62_0 : TL × TL := ((.sl 4 9 q4 .nil), (.cl (.int .i64 0) .nil))
theorem e62_0 : evM Tryz.prog tab2 700 62 laidL x62_0 = some (.bool true) := by kernel_rfl
noncomputable def x62_1 : TL × TL := ((.sl 4 2 (.cl (.int .u8 1) (.cl (.int .i64 0) (.cl (.int .i64 0) (.cl (.slice none 0 0) (.cl (.int .u8 3) (.cl (.int .i64 0) (.cl (.int .i64 0) (.cl (.slice none 0 0) .nil)))))))) .nil), (.cl (.int .i64 0) .nil))
theorem e62_1 : evM Tryz.prog tab2 700 62 laidL x62_1 = some (.bool true) := by kernel_rfl
noncomputable def x62_2 : TL × TL := ((.cl (.slice none 0 0) .nil), (.cl (.int .i64 0) .nil))
theorem e62_2 : evM Tryz.prog tab2 700 62 laidL x62_2 = some (.bool true) := by kernel_rfl
noncomputable def x62_3 : TL × TL := ((.sl 4 2 (.cl (.int .u8 1) (.cl (.int .i64 0) (.cl (.int .i64 0) (.cl (.slice none 0 0) (.cl (.int .u8 3) (.cl (.int .i64 0) (.cl (.int .i64 0) (.sl 1 1 (.cl (.int .i64 0) .nil) .nil)))))))) .nil), (.cl (.int .i64 0) .nil))
theorem e62_3 : evM Tryz.prog tab2 700 62 laidL x62_3 = some (.bool true) := by kernel_rfl
/-- fescue/types.Check -/
noncomputable def l62 : List (TL × TL) := [x62_0, x62_1, x62_2, x62_3]
noncomputable def tab3 : Tab := tab2.know 62 (memo laidL l62)
theorem ok3 : tab3.Ok Tryz.prog := ok2.know Tryz.checked.mixed (n := 700) closedAll (List.forall_mem_cons.2 ⟨e62_0, List.forall_mem_cons.2 ⟨e62_1, List.forall_mem_cons.2 ⟨e62_2, List.forall_mem_cons.2 ⟨e62_3, fun p hp => by cases hp⟩⟩⟩⟩)
noncomputable def x30_0 : TL × TL := ((.ag q5 .nil), (.cl (.int .i64 0) .nil))
theorem e30_0 : evM Tryz.prog tab3 700 30 laidL x30_0 = some (.bool true) := by kernel_rfl
noncomputable def x30_1 : TL × TL := ((.ag q10 .nil), (.cl (.int .i64 0) .nil))
theorem e30_1 : evM Tryz.prog tab3 700 30 laidL x30_1 = some (.bool true) := by kernel_rfl
noncomputable def x30_2 : TL × TL := ((.ag q12 .nil), (.cl (.int .i64 0) .nil))
theorem e30_2 : evM Tryz.prog tab3 700 30 laidL x30_2 = some (.bool true) := by kernel_rfl
noncomputable def x30_3 : TL × TL := ((.ag q14 .nil), (.cl (.int .i64 0) .nil))
theorem e30_3 : evM Tryz.prog tab3 700 30 laidL x30_3 = some (.bool true) := by kernel_rfl
noncomputable def x30_4 : TL × TL := ((.ag q16 .nil), (.cl (.int .i64 0) .nil))
theorem e30_4 : evM Tryz.prog tab3 700 30 laidL x30_4 = some (.bool true) := by kernel_rfl
noncomputable def x30_5 : TL × TL := ((.ag q18 .nil), (.cl (.int .i64 0) .nil))
theorem e30_5 : evM Tryz.prog tab3 700 30 laidL x30_5 = some (.bool true) := by kernel_rfl
noncomputable def x30_6 : TL × TL := ((.ag q20 .nil), (.cl (.int .i64 0) .nil))
theorem e30_6 : evM Tryz.prog tab3 700 30 laidL x30_6 = some (.bool true) := by kernel_rfl
noncomputable def x30_7 : TL × TL := ((.ag q22 .nil), (.cl (.int .i64 0) .nil))
theorem e30_7 : evM Tryz.prog tab3 700 30 laidL x30_7 = some (.bool true) := by kernel_rfl
noncomputable def x30_8 : TL × TL := ((.ag q24 .nil), (.cl (.int .i64 0) .nil))
theorem e30_8 : evM Tryz.prog tab3 700 30 laidL x30_8 = some (.bool true) := by kernel_rfl
noncomputable def x30_9 : TL × TL := ((.ag q26 .nil), (.cl (.int .i64 0) .nil))
theorem e30_9 : evM Tryz.prog tab3 700 30 laidL x30_9 = some (.bool true) := by kernel_rfl
noncomputable def x30_10 : TL × TL := ((.ag q28 .nil), (.cl (.int .i64 0) .nil))
theorem e30_10 : evM Tryz.prog tab3 700 30 laidL x30_10 = some (.bool true) := by kernel_rfl
noncomputable def x30_11 : TL × TL := ((.ag q30 .nil), (.cl (.int .i64 0) .nil))
theorem e30_11 : evM Tryz.prog tab3 700 30 laidL x30_11 = some (.bool true) := by kernel_rfl
noncomputable def x30_12 : TL × TL := ((.ag q32 .nil), (.cl (.int .i64 0) .nil))
theorem e30_12 : evM Tryz.prog tab3 700 30 laidL x30_12 = some (.bool true) := by kernel_rfl
noncomputable def x30_13 : TL × TL := ((.ag q34 .nil), (.cl (.int .i64 0) .nil))
theorem e30_13 : evM Tryz.prog tab3 700 30 laidL x30_13 = some (.bool true) := by kernel_rfl
noncomputable def x30_14 : TL × TL := ((.ag q36 .nil), (.cl (.int .i64 0) .nil))
theorem e30_14 : evM Tryz.prog tab3 700 30 laidL x30_14 = some (.bool true) := by kernel_rfl
noncomputable def x30_15 : TL × TL := ((.ag q38 .nil), (.cl (.int .i64 0) .nil))
theorem e30_15 : evM Tryz.prog tab3 700 30 laidL x30_15 = some (.bool true) := by kernel_rfl
noncomputable def x30_16 : TL × TL := ((.ag (.cl (.slice none 0 0) (.cl (.slice none 0 0) .nil)) .nil), (.cl (.int .i64 60) .nil))
theorem e30_16 : evM Tryz.prog tab3 700 30 laidL x30_16 = some (.bool true) := by kernel_rfl
noncomputable def x30_17 : TL × TL := ((.ag q39 .nil), (.cl (.int .i64 0) .nil))
theorem e30_17 : evM Tryz.prog tab3 700 30 laidL x30_17 = some (.bool true) := by kernel_rfl
/-- fescue/shape.Check -/
noncomputable def l30 : List (TL × TL) := [x30_0, x30_1, x30_2, x30_3, x30_4, x30_5, x30_6, x30_7, x30_8, x30_9, x30_10, x30_11, x30_12, x30_13, x30_14, x30_15, x30_16, x30_17]
noncomputable def tab4 : Tab := tab3.know 30 (memo laidL l30)
theorem ok4 : tab4.Ok Tryz.prog := ok3.know Tryz.checked.mixed (n := 700) closedAll (List.forall_mem_cons.2 ⟨e30_0, List.forall_mem_cons.2 ⟨e30_1, List.forall_mem_cons.2 ⟨e30_2, List.forall_mem_cons.2 ⟨e30_3, List.forall_mem_cons.2 ⟨e30_4, List.forall_mem_cons.2 ⟨e30_5, List.forall_mem_cons.2 ⟨e30_6, List.forall_mem_cons.2 ⟨e30_7, List.forall_mem_cons.2 ⟨e30_8, List.forall_mem_cons.2 ⟨e30_9, List.forall_mem_cons.2 ⟨e30_10, List.forall_mem_cons.2 ⟨e30_11, List.forall_mem_cons.2 ⟨e30_12, List.forall_mem_cons.2 ⟨e30_13, List.forall_mem_cons.2 ⟨e30_14, List.forall_mem_cons.2 ⟨e30_15, List.forall_mem_cons.2 ⟨e30_16, List.forall_mem_cons.2 ⟨e30_17, fun p hp => by cases hp⟩⟩⟩⟩⟩⟩⟩⟩⟩⟩⟩⟩⟩⟩⟩⟩⟩⟩)
noncomputable def x78_0 : TL × TL := ((.ag q5 (.cl (.int .i64 0) .nil)), (.cl (.int .i64 8) (.cl (.int .i64 0) .nil)))
theorem e78_0 : evM Tryz.prog tab4 700 78 laidL x78_0 = some (.bool true) := by kernel_rfl
noncomputable def x78_1 : TL × TL := ((.ag q5 (.cl (.int .i64 1) .nil)), (.cl (.int .i64 2) (.cl (.int .i64 0) .nil)))
theorem e78_1 : evM Tryz.prog tab4 700 78 laidL x78_1 = some (.bool true) := by kernel_rfl
noncomputable def x78_2 : TL × TL := ((.ag q10 (.cl (.int .i64 0) .nil)), (.cl (.int .i64 8) (.cl (.int .i64 0) .nil)))
theorem e78_2 : evM Tryz.prog tab4 700 78 laidL x78_2 = some (.bool true) := by kernel_rfl
noncomputable def x78_3 : TL × TL := ((.ag q10 (.cl (.int .i64 1) .nil)), (.cl (.int .i64 2) (.cl (.int .i64 0) .nil)))
theorem e78_3 : evM Tryz.prog tab4 700 78 laidL x78_3 = some (.bool true) := by kernel_rfl
noncomputable def x78_4 : TL × TL := ((.ag q12 (.cl (.int .i64 0) .nil)), (.cl (.int .i64 3) (.cl (.int .i64 0) .nil)))
theorem e78_4 : evM Tryz.prog tab4 700 78 laidL x78_4 = some (.bool true) := by kernel_rfl
noncomputable def x78_5 : TL × TL := ((.ag q12 (.cl (.int .i64 1) .nil)), (.cl (.int .i64 2) (.cl (.int .i64 0) .nil)))
theorem e78_5 : evM Tryz.prog tab4 700 78 laidL x78_5 = some (.bool true) := by kernel_rfl
noncomputable def x78_6 : TL × TL := ((.ag q14 (.cl (.int .i64 0) .nil)), (.cl (.int .i64 3) (.cl (.int .i64 0) .nil)))
theorem e78_6 : evM Tryz.prog tab4 700 78 laidL x78_6 = some (.bool true) := by kernel_rfl
noncomputable def x78_7 : TL × TL := ((.ag q16 (.cl (.int .i64 0) .nil)), (.cl (.int .i64 3) (.cl (.int .i64 0) .nil)))
theorem e78_7 : evM Tryz.prog tab4 700 78 laidL x78_7 = some (.bool true) := by kernel_rfl
noncomputable def x78_8 : TL × TL := ((.ag q18 (.cl (.int .i64 0) .nil)), (.cl (.int .i64 1) (.cl (.int .i64 0) .nil)))
theorem e78_8 : evM Tryz.prog tab4 700 78 laidL x78_8 = some (.bool true) := by kernel_rfl
noncomputable def x78_9 : TL × TL := ((.ag q20 (.cl (.int .i64 0) .nil)), (.cl (.int .i64 2) (.cl (.int .i64 0) .nil)))
theorem e78_9 : evM Tryz.prog tab4 700 78 laidL x78_9 = some (.bool true) := by kernel_rfl
noncomputable def x78_10 : TL × TL := ((.ag q22 (.cl (.int .i64 0) .nil)), (.cl (.int .i64 1) (.cl (.int .i64 0) .nil)))
theorem e78_10 : evM Tryz.prog tab4 700 78 laidL x78_10 = some (.bool true) := by kernel_rfl
noncomputable def x78_11 : TL × TL := ((.ag q24 (.cl (.int .i64 0) .nil)), (.cl (.int .i64 1) (.cl (.int .i64 0) .nil)))
theorem e78_11 : evM Tryz.prog tab4 700 78 laidL x78_11 = some (.bool true) := by kernel_rfl
noncomputable def x78_12 : TL × TL := ((.ag q26 (.cl (.int .i64 0) .nil)), (.cl (.int .i64 2) (.cl (.int .i64 0) .nil)))
theorem e78_12 : evM Tryz.prog tab4 700 78 laidL x78_12 = some (.bool true) := by kernel_rfl
noncomputable def x78_13 : TL × TL := ((.ag q28 (.cl (.int .i64 0) .nil)), (.cl (.int .i64 3) (.cl (.int .i64 0) .nil)))
theorem e78_13 : evM Tryz.prog tab4 700 78 laidL x78_13 = some (.bool true) := by kernel_rfl
noncomputable def x78_14 : TL × TL := ((.ag q30 (.cl (.int .i64 0) .nil)), (.cl (.int .i64 3) (.cl (.int .i64 0) .nil)))
theorem e78_14 : evM Tryz.prog tab4 700 78 laidL x78_14 = some (.bool true) := by kernel_rfl
noncomputable def x78_15 : TL × TL := ((.ag q32 (.cl (.int .i64 0) .nil)), (.cl (.int .i64 3) (.cl (.int .i64 0) .nil)))
theorem e78_15 : evM Tryz.prog tab4 700 78 laidL x78_15 = some (.bool true) := by kernel_rfl
noncomputable def x78_16 : TL × TL := ((.ag q34 (.cl (.int .i64 0) .nil)), (.cl (.int .i64 2) (.cl (.int .i64 0) .nil)))
theorem e78_16 : evM Tryz.prog tab4 700 78 laidL x78_16 = some (.bool true) := by kernel_rfl
noncomputable def x78_17 : TL × TL := ((.ag q36 (.cl (.int .i64 0) .nil)), (.cl (.int .i64 2) (.cl (.int .i64 0) .nil)))
theorem e78_17 : evM Tryz.prog tab4 700 78 laidL x78_17 = some (.bool true) := by kernel_rfl
noncomputable def x78_18 : TL × TL := ((.ag q38 (.cl (.int .i64 0) .nil)), (.cl (.int .i64 2) (.cl (.int .i64 0) .nil)))
theorem e78_18 : evM Tryz.prog tab4 700 78 laidL x78_18 = some (.bool true) := by kernel_rfl
noncomputable def x78_19 : TL × TL := ((.ag q39 (.cl (.int .i64 0) .nil)), (.cl (.int .i64 3) (.cl (.int .i64 0) .nil)))
theorem e78_19 : evM Tryz.prog tab4 700 78 laidL x78_19 = some (.bool true) := by kernel_rfl
/-- fescue/shape.Regs -/
noncomputable def l78 : List (TL × TL) := [x78_0, x78_1, x78_2, x78_3, x78_4, x78_5, x78_6, x78_7, x78_8, x78_9, x78_10, x78_11, x78_12, x78_13, x78_14, x78_15, x78_16, x78_17, x78_18, x78_19]
noncomputable def tab5 : Tab := tab4.know 78 (memo laidL l78)
theorem ok5 : tab5.Ok Tryz.prog := ok4.know Tryz.checked.mixed (n := 700) closedAll (List.forall_mem_cons.2 ⟨e78_0, List.forall_mem_cons.2 ⟨e78_1, List.forall_mem_cons.2 ⟨e78_2, List.forall_mem_cons.2 ⟨e78_3, List.forall_mem_cons.2 ⟨e78_4, List.forall_mem_cons.2 ⟨e78_5, List.forall_mem_cons.2 ⟨e78_6, List.forall_mem_cons.2 ⟨e78_7, List.forall_mem_cons.2 ⟨e78_8, List.forall_mem_cons.2 ⟨e78_9, List.forall_mem_cons.2 ⟨e78_10, List.forall_mem_cons.2 ⟨e78_11, List.forall_mem_cons.2 ⟨e78_12, List.forall_mem_cons.2 ⟨e78_13, List.forall_mem_cons.2 ⟨e78_14, List.forall_mem_cons.2 ⟨e78_15, List.forall_mem_cons.2 ⟨e78_16, List.forall_mem_cons.2 ⟨e78_17, List.forall_mem_cons.2 ⟨e78_18, List.forall_mem_cons.2 ⟨e78_19, fun p hp => by cases hp⟩⟩⟩⟩⟩⟩⟩⟩⟩⟩⟩⟩⟩⟩⟩⟩⟩⟩⟩⟩)
noncomputable def x66_0 : TL × TL := ((.ag q5 (.cl (.int .i64 0) .nil)), (.sl 1 1 (.cl (.int .i64 0) .nil) (.cl (.int .i64 0) .nil)))
theorem e66_0 : evM Tryz.prog tab5 700 66 laidL x66_0 = some (.bool true) := by kernel_rfl
noncomputable def x66_1 : TL × TL := ((.ag q5 (.cl (.int .i64 1) .nil)), (.sl 1 1 (.cl (.int .i64 0) .nil) (.cl (.int .i64 0) .nil)))
theorem e66_1 : evM Tryz.prog tab5 700 66 laidL x66_1 = some (.bool true) := by kernel_rfl
noncomputable def x66_2 : TL × TL := ((.ag q10 (.cl (.int .i64 0) .nil)), (.sl 1 1 (.cl (.int .i64 0) .nil) (.cl (.int .i64 0) .nil)))
theorem e66_2 : evM Tryz.prog tab5 700 66 laidL x66_2 = some (.bool true) := by kernel_rfl
noncomputable def x66_3 : TL × TL := ((.ag q10 (.cl (.int .i64 1) .nil)), (.sl 1 1 (.cl (.int .i64 0) .nil) (.cl (.int .i64 0) .nil)))
theorem e66_3 : evM Tryz.prog tab5 700 66 laidL x66_3 = some (.bool true) := by kernel_rfl
noncomputable def x66_4 : TL × TL := ((.ag q12 (.cl (.int .i64 0) .nil)), (.sl 1 3 (.cl (.int .i64 0) (.cl (.int .i64 1) (.cl (.int .i64 2) .nil))) (.cl (.int .i64 0) .nil)))
theorem e66_4 : evM Tryz.prog tab5 700 66 laidL x66_4 = some (.bool true) := by kernel_rfl
noncomputable def x66_5 : TL × TL := ((.ag q12 (.cl (.int .i64 1) .nil)), (.sl 1 1 (.cl (.int .i64 0) .nil) (.cl (.int .i64 0) .nil)))
theorem e66_5 : evM Tryz.prog tab5 700 66 laidL x66_5 = some (.bool true) := by kernel_rfl
noncomputable def x66_6 : TL × TL := ((.ag q14 (.cl (.int .i64 0) .nil)), (.sl 1 1 (.cl (.int .i64 0) .nil) (.cl (.int .i64 0) .nil)))
theorem e66_6 : evM Tryz.prog tab5 700 66 laidL x66_6 = some (.bool true) := by kernel_rfl
noncomputable def x66_7 : TL × TL := ((.ag q16 (.cl (.int .i64 0) .nil)), (.sl 1 1 (.cl (.int .i64 0) .nil) (.cl (.int .i64 0) .nil)))
theorem e66_7 : evM Tryz.prog tab5 700 66 laidL x66_7 = some (.bool true) := by kernel_rfl
noncomputable def x66_8 : TL × TL := ((.ag q18 (.cl (.int .i64 0) .nil)), (.sl 1 1 (.cl (.int .i64 0) .nil) (.cl (.int .i64 0) .nil)))
theorem e66_8 : evM Tryz.prog tab5 700 66 laidL x66_8 = some (.bool true) := by kernel_rfl
noncomputable def x66_9 : TL × TL := ((.ag q20 (.cl (.int .i64 0) .nil)), (.sl 1 1 (.cl (.int .i64 0) .nil) (.cl (.int .i64 0) .nil)))
theorem e66_9 : evM Tryz.prog tab5 700 66 laidL x66_9 = some (.bool true) := by kernel_rfl
end Go.Proofs.YteekipjpghikkaaGreatDoor.soundNames
