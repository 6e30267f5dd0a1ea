/- What functions of the program come to in the abstract machine, and plain laws about it; no statement of the seat is proved in this text. -/
import Derived.Test.YtmejfcakhpihlaaGreatDoorJa
import Derived.Test.YtmejfcakhpihlaaGreatDoorAmM
set_option linter.unusedVariables false
set_option linter.unusedSimpArgs false
namespace Go.Proofs.YtmejfcakhpihlaaGreatDoor
noncomputable section
open Go.Am
def laidL:List (Nat×List Value):=[(0,ZQ)]
set_option maxRecDepth 1000000 in
theorem z9:(laidL.all fun x=>Nat.ble (x.1+1) Tryz.prog.globals.size&&yW x.2)=true:=by kernel_rfl
def tab0:Wd:=zKI Tryz.prog
theorem ok0:tab0.Ok Tryz.prog:=zJm _
def q0:TL:=(.cl (.int .i64 3) (.sl 5 1 (.sl 7 3 (.cl (.int .u8 11) (.cl (.int .i64 2) (.cl (.int .i64 0) (.cl (.int .i64 0) (.cl (.int .i64 0) (.cl (.slice none 0 0) (.cl (.slice none 0 0) (.cl (.int .u8 16) (.cl (.int .i64 1) (.cl (.int .i64 0) (.cl (.int .i64 0) (.cl (.int .i64 0) (.cl (.slice none 0 0) (.cl (.slice none 0 0) (.cl (.int .u8 1) (.cl (.int .i64 0) (.cl (.int .i64 0) (.cl (.int .i64 0) (.cl (.int .i64 1) (.cl (.slice none 0 0) (.cl (.slice none 0 0) .nil))))))))))))))))))))) (.cl (.int .u8 3) (.cl (.int .i64 2) (.cl (.int .i64 0) (.cl (.int .i64 0) .nil))))) .nil))
def q1:TL:=(.cl (.int .u8 1) (.cl (.int .i64 0) (.cl (.int .i64 0) (.cl (.slice none 0 0) (.cl (.int .u8 2) (.cl (.int .i64 0) (.cl (.int .i64 0) (.cl (.slice none 0 0) (.cl (.int .u8 2) (.cl (.int .i64 1) (.cl (.int .i64 0) (.cl (.slice none 0 0) (.cl (.int .u8 3) (.cl (.int .i64 0) (.cl (.int .i64 0) (.cl (.slice none 0 0) (.cl (.int .u8 3) (.cl (.int .i64 1) (.cl (.int .i64 0) (.sl 1 2 (.cl (.int .i64 1) (.cl (.int .i64 0) .nil)) (.cl (.int .u8 4) (.cl (.int .i64 0) (.cl (.int .i64 0) (.sl 1 2 (.cl (.int .i64 0) (.cl (.int .i64 1) .nil)) (.cl (.int .u8 2) (.cl (.int .i64 5) (.cl (.int .i64 0) (.cl (.slice none 0 0) .nil))))))))))))))))))))))))))))
def q2:TL:=(.sl 4 7 q1 (.sl 2 1 q0 .nil))
def zSc:TL×TL:=((.ag q2 (.ag q0 .nil)),(.cl (.bool true) .nil))
set_option maxRecDepth 1000000 in
theorem zUt:BU Tryz.prog tab0 700 74 laidL zSc=some (.bool true):=by kernel_rfl
def l74:List (TL×TL):=[zSc]
def tab1:Wd:=tab0.know 74 (Yf laidL l74)
theorem ok1:tab1.Ok Tryz.prog:=ok0.know Tryz.checked.mixed (n:=700) z9 (List.forall_mem_cons.2 ⟨zUt,fun p hp=>by cases hp⟩)
def zOa:TL×TL:=((.sl 4 7 q1 (.cl (.int .i64 0) (.cl (.slice none 0 0) .nil))),(.cl (.int .i64 1) (.cl (.bool true) .nil)))
set_option maxRecDepth 1000000 in
theorem zTq:BU Tryz.prog tab1 700 109 laidL zOa=some (.bool true):=by kernel_rfl
def zOl:TL×TL:=((.sl 4 7 q1 (.cl (.int .i64 1) (.sl 1 1 (.cl (.int .i64 1) .nil) .nil))),(.cl (.int .i64 1) (.cl (.bool true) .nil)))
set_option maxRecDepth 1000000 in
theorem zS5:BU Tryz.prog tab1 700 109 laidL zOl=some (.bool true):=by kernel_rfl
def zNS:TL×TL:=((.sl 4 7 q1 (.cl (.int .i64 2) (.sl 1 2 (.cl (.int .i64 1) (.cl (.int .i64 1) .nil)) .nil))),(.cl (.int .i64 1) (.cl (.bool true) .nil)))
set_option maxRecDepth 1000000 in
theorem zT5:BU Tryz.prog tab1 700 109 laidL zNS=some (.bool true):=by kernel_rfl
def zO8:TL×TL:=((.sl 4 7 q1 (.cl (.int .i64 3) (.sl 1 3 (.cl (.int .i64 1) (.cl (.int .i64 1) (.cl (.int .i64 1) .nil))) .nil))),(.cl (.int .i64 1) (.cl (.bool true) .nil)))
set_option maxRecDepth 1000000 in
theorem zTf:BU Tryz.prog tab1 700 109 laidL zO8=some (.bool true):=by kernel_rfl
def zNR:TL×TL:=((.sl 4 7 q1 (.cl (.int .i64 4) (.sl 1 4 (.cl (.int .i64 1) (.cl (.int .i64 1) (.cl (.int .i64 1) (.cl (.int .i64 1) .nil)))) .nil))),(.cl (.int .i64 1) (.cl (.bool true) .nil)))
set_option maxRecDepth 1000000 in
theorem zTc:BU Tryz.prog tab1 700 109 laidL zNR=some (.bool true):=by kernel_rfl
def zOF:TL×TL:=((.sl 4 7 q1 (.cl (.int .i64 5) (.sl 1 5 (.cl (.int .i64 1) (.cl (.int .i64 1) (.cl (.int .i64 1) (.cl (.int .i64 1) (.cl (.int .i64 1) .nil))))) .nil))),(.cl (.int .i64 2) (.cl (.bool true) .nil)))
set_option maxRecDepth 1000000 in
theorem zUB:BU Tryz.prog tab1 700 109 laidL zOF=some (.bool true):=by kernel_rfl
def zM9:TL×TL:=((.sl 4 7 q1 (.cl (.int .i64 6) (.sl 1 6 (.cl (.int .i64 1) (.cl (.int .i64 1) (.cl (.int .i64 1) (.cl (.int .i64 1) (.cl (.int .i64 1) (.cl (.int .i64 2) .nil)))))) .nil))),(.cl (.int .i64 1) (.cl (.bool true) .nil)))
set_option maxRecDepth 1000000 in
theorem zUJ:BU Tryz.prog tab1 700 109 laidL zM9=some (.bool true):=by kernel_rfl
def zVh:List (TL×TL):=[zOa,zOl,zNS,zO8,zNR,zOF,zM9]
def tab2:Wd:=tab1.know 109 (Yf laidL zVh)
theorem ok2:tab2.Ok Tryz.prog:=ok1.know Tryz.checked.mixed (n:=700) z9 (List.forall_mem_cons.2 ⟨zTq,List.forall_mem_cons.2 ⟨zS5,List.forall_mem_cons.2 ⟨zT5,List.forall_mem_cons.2 ⟨zTf,List.forall_mem_cons.2 ⟨zTc,List.forall_mem_cons.2 ⟨zUB,List.forall_mem_cons.2 ⟨zUJ,fun p hp=>by cases hp⟩⟩⟩⟩⟩⟩⟩)
def zSj:TL×TL:=((.sl 4 7 q1 .nil),(.cl (.int .i64 0) .nil))
set_option maxRecDepth 1000000 in
theorem zUf:BU Tryz.prog tab2 700 71 laidL zSj=some (.bool true):=by kernel_rfl
def l71:List (TL×TL):=[zSj]
def tab3:Wd:=tab2.know 71 (Yf laidL l71)
theorem ok3:tab3.Ok Tryz.prog:=ok2.know Tryz.checked.mixed (n:=700) z9 (List.forall_mem_cons.2 ⟨zUf,fun p hp=>by cases hp⟩)
def zSg:TL×TL:=((.ag q2 .nil),(.cl (.int .i64 0) .nil))
set_option maxRecDepth 1000000 in
theorem zUy:BU Tryz.prog tab3 700 37 laidL zSg=some (.bool true):=by kernel_rfl
def l37:List (TL×TL):=[zSg]
def tab4:Wd:=tab3.know 37 (Yf laidL l37)
theorem ok4:tab4.Ok Tryz.prog:=ok3.know Tryz.checked.mixed (n:=700) z9 (List.forall_mem_cons.2 ⟨zUy,fun p hp=>by cases hp⟩)
def zSo:TL×TL:=((.ag q2 (.cl (.int .i64 0) .nil)),(.cl (.int .i64 3) (.cl (.int .i64 0) .nil)))
set_option maxRecDepth 1000000 in
theorem zUw:BU Tryz.prog tab4 700 17 laidL zSo=some (.bool true):=by kernel_rfl
def l17:List (TL×TL):=[zSo]
def tab5:Wd:=tab4.know 17 (Yf laidL l17)
theorem ok5:tab5.Ok Tryz.prog:=ok4.know Tryz.checked.mixed (n:=700) z9 (List.forall_mem_cons.2 ⟨zUw,fun p hp=>by cases hp⟩)
def zSa:TL×TL:=((.ag q2 (.cl (.int .i64 0) .nil)),(.sl 1 1 (.cl (.int .i64 0) .nil) (.cl (.int .i64 0) .nil)))
set_option maxRecDepth 1000000 in
theorem zUn:BU Tryz.prog tab5 700 75 laidL zSa=some (.bool true):=by kernel_rfl
def l75:List (TL×TL):=[zSa]
def tab6:Wd:=tab5.know 75 (Yf laidL l75)
theorem ok6:tab6.Ok Tryz.prog:=ok5.know Tryz.checked.mixed (n:=700) z9 (List.forall_mem_cons.2 ⟨zUn,fun p hp=>by cases hp⟩)
def zPa:TL×TL:=((.ag q2 (.cl (.int .i64 0) (.cl (.int .i64 0) .nil))),(.cl (.slice none 0 0) (.cl (.int .i64 0) .nil)))
set_option maxRecDepth 1000000 in
theorem zUN:BU Tryz.prog tab6 700 123 laidL zPa=some (.bool true):=by kernel_rfl
def zVg:List (TL×TL):=[zPa]
def tab7:Wd:=tab6.know 123 (Yf laidL zVg)
theorem ok7:tab7.Ok Tryz.prog:=ok6.know Tryz.checked.mixed (n:=700) z9 (List.forall_mem_cons.2 ⟨zUN,fun p hp=>by cases hp⟩)
def zOr:TL×TL:=((.ag q2 (.cl (.int .i64 0) .nil)),(.sl 1 1 (.cl (.int .i64 0) .nil) (.cl (.int .i64 0) .nil)))
set_option maxRecDepth 1000000 in
theorem zSz:BU Tryz.prog tab7 700 222 laidL zOr=some (.bool true):=by kernel_rfl
def zVl:List (TL×TL):=[zOr]
def tab8:Wd:=tab7.know 222 (Yf laidL zVl)
theorem ok8:tab8.Ok Tryz.prog:=ok7.know Tryz.checked.mixed (n:=700) z9 (List.forall_mem_cons.2 ⟨zSz,fun p hp=>by cases hp⟩)
def zSU:TL×TL:=((.ag q2 (.cl (.int .i64 0) .nil)),(.sl 1 1 (.cl (.int .i64 (-1)) .nil) (.cl (.int .i64 0) .nil)))
set_option maxRecDepth 1000000 in
theorem zU0:BU Tryz.prog tab8 700 82 laidL zSU=some (.bool true):=by kernel_rfl
def l82:List (TL×TL):=[zSU]
def tab9:Wd:=tab8.know 82 (Yf laidL l82)
theorem ok9:tab9.Ok Tryz.prog:=ok8.know Tryz.checked.mixed (n:=700) z9 (List.forall_mem_cons.2 ⟨zU0,fun p hp=>by cases hp⟩)
def zSh:TL×TL:=((.ag q2 (.cl (.int .i64 0) .nil)),(.cl (.nilIface) .nil))
set_option maxRecDepth 1000000 in
theorem zVH:BU Tryz.prog tab9 700 38 laidL zSh=some (.bool true):=by kernel_rfl
def l38:List (TL×TL):=[zSh]
def tab10:Wd:=tab9.know 38 (Yf laidL l38)
theorem ok10:tab10.Ok Tryz.prog:=ok9.know Tryz.checked.mixed (n:=700) z9 (List.forall_mem_cons.2 ⟨zVH,fun p hp=>by cases hp⟩)
def zSn:TL×TL:=((.ag q2 .nil),(.cl (.int .i64 0) .nil))
set_option maxRecDepth 1000000 in
theorem zUz:BU Tryz.prog tab10 700 16 laidL zSn=some (.bool true):=by kernel_rfl
def l16:List (TL×TL):=[zSn]
def tab11:Wd:=tab10.know 16 (Yf laidL l16)
theorem ok11:tab11.Ok Tryz.prog:=ok10.know Tryz.checked.mixed (n:=700) z9 (List.forall_mem_cons.2 ⟨zUz,fun p hp=>by cases hp⟩)
def zSe:TL×TL:=((.ag q2 .nil),(.sl 3 1 (.cl (.int .i64 0) (.cl (.int .i64 0) (.cl (.int .i64 1) .nil))) (.cl (.int .i64 0) .nil)))
set_option maxRecDepth 1000000 in
theorem zUd:BU Tryz.prog tab11 700 25 laidL zSe=some (.bool true):=by kernel_rfl
def l25:List (TL×TL):=[zSe]
def tab12:Wd:=tab11.know 25 (Yf laidL l25)
theorem ok12:tab12.Ok Tryz.prog:=ok11.know Tryz.checked.mixed (n:=700) z9 (List.forall_mem_cons.2 ⟨zUd,fun p hp=>by cases hp⟩)
def zPc:TL×TL:=((.sl 4 7 q1 (.cl (.int .i64 1) .nil)),(.sl 1 1 (.cl (.int .i64 1) .nil) (.cl (.int .i64 0) .nil)))
set_option maxRecDepth 1000000 in
theorem zTM:BU Tryz.prog tab12 700 131 laidL zPc=some (.bool true):=by kernel_rfl
def zVR:List (TL×TL):=[zPc]
def tab13:Wd:=tab12.know 131 (Yf laidL zVR)
theorem ok13:tab13.Ok Tryz.prog:=ok12.know Tryz.checked.mixed (n:=700) z9 (List.forall_mem_cons.2 ⟨zTM,fun p hp=>by cases hp⟩)
def zSV:TL×TL:=((.sl 4 7 q1 (.cl (.int .i64 1) .nil)),(.sl 1 1 (.cl (.int .i64 1) .nil) (.cl (.int .i64 0) .nil)))
set_option maxRecDepth 1000000 in
theorem zUc:BU Tryz.prog tab13 700 80 laidL zSV=some (.bool true):=by kernel_rfl
def l80:List (TL×TL):=[zSV]
def tab14:Wd:=tab13.know 80 (Yf laidL l80)
theorem ok14:tab14.Ok Tryz.prog:=ok13.know Tryz.checked.mixed (n:=700) z9 (List.forall_mem_cons.2 ⟨zUc,fun p hp=>by cases hp⟩)
def zSs:TL×TL:=((.cl (.string ⟨⟨[116,121,112,101,32,105,110,116,10,116,121,112,101,32,112,116,114,32,116,48,10,116,121,112,101,32,112,116,114,32,116,49,10,116,121,112,101,32,102,110,32,116,48,10,116,121,112,101,32,102,110,32,116,49,32,116,49,32,116,48,10,116,121,112,101,32,115,116,114,117,99,116,32,116,48,32,116,49,10,116,121,112,101,32,112,116,114,32,116,53,10,102,117,110,99,32,116,51,10,98,108,111,99,107,10,114,48,32,116,50,32,61,32,110,101,119,10,114,49,32,116,49,32,61,32,108,111,97,100,32,114,48,10,114,50,32,116,48,32,61,32,105,110,116,32,49,10,114,101,116,117,114,110,32,114,50,10]⟩⟩) .nil),(.sl 1 13 (.sl 1 2 (.cl (.string ⟨⟨[116,121,112,101]⟩⟩) (.cl (.string ⟨⟨[105,110,116]⟩⟩) .nil)) (.sl 1 3 (.cl (.string ⟨⟨[116,121,112,101]⟩⟩) (.cl (.string ⟨⟨[112,116,114]⟩⟩) (.cl (.string ⟨⟨[116,48]⟩⟩) .nil))) (.sl 1 3 (.cl (.string ⟨⟨[116,121,112,101]⟩⟩) (.cl (.string ⟨⟨[112,116,114]⟩⟩) (.cl (.string ⟨⟨[116,49]⟩⟩) .nil))) (.sl 1 3 (.cl (.string ⟨⟨[116,121,112,101]⟩⟩) (.cl (.string ⟨⟨[102,110]⟩⟩) (.cl (.string ⟨⟨[116,48]⟩⟩) .nil))) (.sl 1 5 (.cl (.string ⟨⟨[116,121,112,101]⟩⟩) (.cl (.string ⟨⟨[102,110]⟩⟩) (.cl (.string ⟨⟨[116,49]⟩⟩) (.cl (.string ⟨⟨[116,49]⟩⟩) (.cl (.string ⟨⟨[116,48]⟩⟩) .nil))))) (.sl 1 4 (.cl (.string ⟨⟨[116,121,112,101]⟩⟩) (.cl (.string ⟨⟨[115,116,114,117,99,116]⟩⟩) (.cl (.string ⟨⟨[116,48]⟩⟩) (.cl (.string ⟨⟨[116,49]⟩⟩) .nil)))) (.sl 1 3 (.cl (.string ⟨⟨[116,121,112,101]⟩⟩) (.cl (.string ⟨⟨[112,116,114]⟩⟩) (.cl (.string ⟨⟨[116,53]⟩⟩) .nil))) (.sl 1 2 (.cl (.string ⟨⟨[102,117,110,99]⟩⟩) (.cl (.string ⟨⟨[116,51]⟩⟩) .nil)) (.sl 1 1 (.cl (.string ⟨⟨[98,108,111,99,107]⟩⟩) .nil) (.sl 1 4 (.cl (.string ⟨⟨[114,48]⟩⟩) (.cl (.string ⟨⟨[116,50]⟩⟩) (.cl (.string ⟨⟨[61]⟩⟩) (.cl (.string ⟨⟨[110,101,119]⟩⟩) .nil)))) (.sl 1 5 (.cl (.string ⟨⟨[114,49]⟩⟩) (.cl (.string ⟨⟨[116,49]⟩⟩) (.cl (.string ⟨⟨[61]⟩⟩) (.cl (.string ⟨⟨[108,111,97,100]⟩⟩) (.cl (.string ⟨⟨[114,48]⟩⟩) .nil))))) (.sl 1 5 (.cl (.string ⟨⟨[114,50]⟩⟩) (.cl (.string ⟨⟨[116,48]⟩⟩) (.cl (.string ⟨⟨[61]⟩⟩) (.cl (.string ⟨⟨[105,110,116]⟩⟩) (.cl (.string ⟨⟨[49]⟩⟩) .nil))))) (.sl 1 2 (.cl (.string ⟨⟨[114,101,116,117,114,110]⟩⟩) (.cl (.string ⟨⟨[114,50]⟩⟩) .nil)) .nil))))))))))))) (.cl (.int .i64 0) .nil)))
set_option maxRecDepth 1000000 in
theorem zUv:BU Tryz.prog tab14 700 68 laidL zSs=some (.bool true):=by kernel_rfl
def l68:List (TL×TL):=[zSs]
def tab15:Wd:=tab14.know 68 (Yf laidL l68)
theorem ok15:tab15.Ok Tryz.prog:=ok14.know Tryz.checked.mixed (n:=700) z9 (List.forall_mem_cons.2 ⟨zUv,fun p hp=>by cases hp⟩)
def zSm:TL×TL:=((.cl (.string ⟨⟨[116,121,112,101,32,105,110,116,10,116,121,112,101,32,112,116,114,32,116,48,10,116,121,112,101,32,112,116,114,32,116,49,10,116,121,112,101,32,102,110,32,116,48,10,116,121,112,101,32,102,110,32,116,49,32,116,49,32,116,48,10,116,121,112,101,32,115,116,114,117,99,116,32,116,48,32,116,49,10,116,121,112,101,32,112,116,114,32,116,53,10,102,117,110,99,32,116,51,10,98,108,111,99,107,10,114,48,32,116,50,32,61,32,110,101,119,10,114,49,32,116,49,32,61,32,108,111,97,100,32,114,48,10,114,50,32,116,48,32,61,32,105,110,116,32,49,10,114,101,116,117,114,110,32,114,50,10]⟩⟩) .nil),(.ag q2 (.cl (.int .i64 0) .nil)))
set_option maxRecDepth 1000000 in
theorem zU6:BU Tryz.prog tab15 700 36 laidL zSm=some (.bool true):=by kernel_rfl
def l36:List (TL×TL):=[zSm]
def tab16:Wd:=tab15.know 36 (Yf laidL l36)
theorem ok16:tab16.Ok Tryz.prog:=ok15.know Tryz.checked.mixed (n:=700) z9 (List.forall_mem_cons.2 ⟨zU6,fun p hp=>by cases hp⟩)
def zSp:TL×TL:=((.ag q2 .nil),(.sl 5 3 (.cl (.int .u8 1) (.cl (.int .i64 0) (.cl (.int .i64 0) (.cl (.int .i64 2) (.cl (.slice none 0 0) (.cl (.int .u8 1) (.cl (.int .i64 4) (.cl (.int .i64 0) (.cl (.int .i64 0) (.cl (.slice none 0 0) (.cl (.int .u8 4) (.cl (.int .i64 1) (.cl (.int .i64 0) (.cl (.int .i64 0) (.cl (.slice none 0 0) .nil))))))))))))))) (.cl (.int .i64 0) .nil)))
set_option maxRecDepth 1000000 in
theorem zVM:BU Tryz.prog tab16 700 10 laidL zSp=some (.bool true):=by kernel_rfl
def l10:List (TL×TL):=[zSp]
def tab17:Wd:=tab16.know 10 (Yf laidL l10)
theorem zVT:tab17.Ok Tryz.prog:=ok16.know Tryz.checked.mixed (n:=700) z9 (List.forall_mem_cons.2 ⟨zVM,fun p hp=>by cases hp⟩)
set_option maxRecDepth 1000000 in
theorem zLV:(zIl Tryz.prog tab17 700).call 15 [] (Zy Tryz.prog.globals.size [(0,ZQ)]) (fun v _=>some v)=some (.bool true):=by kernel_rfl
theorem zNH:((Ws Tryz.prog tab17 700).call 15 [] (Zy Tryz.prog.globals.size [(0,ZQ)])).map (·.1)=some (.bool true):=zOU zLV
set_option maxRecDepth 1000000 in
theorem tb_ok:tb.Ok Tryz.prog where
 code:=fun _ _ h=>h
 stub:=fun f s hs=>by
  have hs:(if f=15 then some (zBD [(0,ZQ)] (.bool true)) else none)=some s:=hs;split at hs
  ·rename_i e;subst e;cases hs;exact zHN Tryz.checked.mixed zVT rfl (fun x hx=>by
    have h1:=QV.1 z9 x hx;rw[QF]at h1;exact⟨QN h1.1,h1.2⟩) zNH
  ·cases hs
 grow:=fun f s hs args h v h' hk=>by
  have hs:(if f=15 then some (zBD [(0,ZQ)] (.bool true)) else none)=some s:=hs;split at hs
  ·cases hs;exact zJF args h v h' hk
  ·cases hs
end
end Go.Proofs.YtmejfcakhpihlaaGreatDoor
