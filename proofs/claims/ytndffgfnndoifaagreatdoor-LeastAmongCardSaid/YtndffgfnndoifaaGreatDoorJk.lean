/- Walks of functions, plain laws; proves no statement. -/
import Derived.Test.YtndffgfnndoifaaGreatDoorJa
import Derived.Test.YtndffgfnndoifaaGreatDoorAmM
set_option linter.all false
namespace Go.Proofs.YtndffgfnndoifaaGreatDoor
noncomputable section
open Go.Am
set_option maxRecDepth 1000000 in
def yK:(laidB.all fun x=>Nat.ble (x.1+1) Tryz.prog.globals.size&&yk x.2)=true:=by kernel_rfl
def tab0:Ws:=zMY Tryz.prog
def ok0:tab0.Ok Tryz.prog:=zK6 _
def q0:TL:=(.cl (.int .i64 3) (.sl 5 1 (.sl 7 3 (.cl (.int .u8 11) (.cl (.int .i64 2) (.cl (.int .i64 0) (.cl (.int .i64 0) (.cl (.int .i64 0) (.cl (.slice none 0 0) (.cl (.slice none 0 0) (.cl (.int .u8 16) (.cl (.int .i64 1) (.cl (.int .i64 0) (.cl (.int .i64 0) (.cl (.int .i64 0) (.cl (.slice none 0 0) (.cl (.slice none 0 0) (.cl (.int .u8 1) (.cl (.int .i64 0) (.cl (.int .i64 0) (.cl (.int .i64 0) (.cl (.int .i64 1) (.cl (.slice none 0 0) (.cl (.slice none 0 0) .nil))))))))))))))))))))) (.cl (.int .u8 3) (.cl (.int .i64 2) (.cl (.int .i64 0) (.cl (.int .i64 0) .nil))))) .nil))
def q1:TL:=(.cl (.int .u8 1) (.cl (.int .i64 0) (.cl (.int .i64 0) (.cl (.slice none 0 0) (.cl (.int .u8 2) (.cl (.int .i64 0) (.cl (.int .i64 0) (.cl (.slice none 0 0) (.cl (.int .u8 2) (.cl (.int .i64 1) (.cl (.int .i64 0) (.cl (.slice none 0 0) (.cl (.int .u8 3) (.cl (.int .i64 0) (.cl (.int .i64 0) (.cl (.slice none 0 0) .nil))))))))))))))))
def q2:TL:=(.sl 4 4 q1 (.sl 2 1 q0 .nil))
def zP8:TL×TL:=((.ag q2 (.ag q0 .nil)),(.cl (.bool true) .nil))
set_option maxRecDepth 1000000 in
def zUi:SD Tryz.prog tab0 700 111 laidB zP8=some (.bool true):=by kernel_rfl
def zVf:List (TL×TL):=[zP8]
def tab1:Ws:=tab0.know 111 (B4 laidB zVf)
def ok1:tab1.Ok Tryz.prog:=ok0.know Tryz.checked.mixed (n:=700) yK (List.forall_mem_cons.2 ⟨zUi,fun p hp=>by cases hp⟩)
def zQS:TL×TL:=((.sl 4 4 q1 (.cl (.int .i64 0) (.cl (.slice none 0 0) .nil))),(.cl (.int .i64 1) (.cl (.bool true) .nil)))
set_option maxRecDepth 1000000 in
def zUc:SD Tryz.prog tab1 700 159 laidB zQS=some (.bool true):=by kernel_rfl
def zPi:TL×TL:=((.sl 4 4 q1 (.cl (.int .i64 1) (.sl 1 1 (.cl (.int .i64 1) .nil) .nil))),(.cl (.int .i64 1) (.cl (.bool true) .nil)))
set_option maxRecDepth 1000000 in
def zTl:SD Tryz.prog tab1 700 159 laidB zPi=some (.bool true):=by kernel_rfl
def zP3:TL×TL:=((.sl 4 4 q1 (.cl (.int .i64 2) (.sl 1 2 (.cl (.int .i64 1) (.cl (.int .i64 1) .nil)) .nil))),(.cl (.int .i64 1) (.cl (.bool true) .nil)))
set_option maxRecDepth 1000000 in
def zT1:SD Tryz.prog tab1 700 159 laidB zP3=some (.bool true):=by kernel_rfl
def zQI:TL×TL:=((.sl 4 4 q1 (.cl (.int .i64 3) (.sl 1 3 (.cl (.int .i64 1) (.cl (.int .i64 1) (.cl (.int .i64 1) .nil))) .nil))),(.cl (.int .i64 1) (.cl (.bool true) .nil)))
set_option maxRecDepth 1000000 in
def zTL:SD Tryz.prog tab1 700 159 laidB zQI=some (.bool true):=by kernel_rfl
def zVr:List (TL×TL):=[zQS,zPi,zP3,zQI]
def tab2:Ws:=tab1.know 159 (B4 laidB zVr)
def ok2:tab2.Ok Tryz.prog:=ok1.know Tryz.checked.mixed (n:=700) yK (List.forall_mem_cons.2 ⟨zUc,List.forall_mem_cons.2 ⟨zTl,List.forall_mem_cons.2 ⟨zT1,List.forall_mem_cons.2 ⟨zTL,fun p hp=>by cases hp⟩⟩⟩⟩)
def zO7:TL×TL:=((.sl 4 4 q1 .nil),(.cl (.int .i64 0) .nil))
set_option maxRecDepth 1000000 in
def zUn:SD Tryz.prog tab2 700 107 laidB zO7=some (.bool true):=by kernel_rfl
def zVZ:List (TL×TL):=[zO7]
def tab3:Ws:=tab2.know 107 (B4 laidB zVZ)
def ok3:tab3.Ok Tryz.prog:=ok2.know Tryz.checked.mixed (n:=700) yK (List.forall_mem_cons.2 ⟨zUn,fun p hp=>by cases hp⟩)
def zTI:TL×TL:=((.ag q2 .nil),(.cl (.int .i64 0) .nil))
set_option maxRecDepth 1000000 in
def zVL:SD Tryz.prog tab3 700 51 laidB zTI=some (.bool true):=by kernel_rfl
def l51:List (TL×TL):=[zTI]
def tab4:Ws:=tab3.know 51 (B4 laidB l51)
def ok4:tab4.Ok Tryz.prog:=ok3.know Tryz.checked.mixed (n:=700) yK (List.forall_mem_cons.2 ⟨zVL,fun p hp=>by cases hp⟩)
def zTJ:TL×TL:=((.ag q2 (.cl (.int .i64 0) .nil)),(.cl (.int .i64 3) (.cl (.int .i64 0) .nil)))
set_option maxRecDepth 1000000 in
def zVH:SD Tryz.prog tab4 700 56 laidB zTJ=some (.bool true):=by kernel_rfl
def l56:List (TL×TL):=[zTJ]
def tab5:Ws:=tab4.know 56 (B4 laidB l56)
def ok5:tab5.Ok Tryz.prog:=ok4.know Tryz.checked.mixed (n:=700) yK (List.forall_mem_cons.2 ⟨zVH,fun p hp=>by cases hp⟩)
def zPI:TL×TL:=((.ag q2 (.cl (.int .i64 0) .nil)),(.sl 1 1 (.cl (.int .i64 0) .nil) (.cl (.int .i64 0) .nil)))
set_option maxRecDepth 1000000 in
def zTS:SD Tryz.prog tab5 700 230 laidB zPI=some (.bool true):=by kernel_rfl
def zVx:List (TL×TL):=[zPI]
def tab6:Ws:=tab5.know 230 (B4 laidB zVx)
def ok6:tab6.Ok Tryz.prog:=ok5.know Tryz.checked.mixed (n:=700) yK (List.forall_mem_cons.2 ⟨zTS,fun p hp=>by cases hp⟩)
def zPJ:TL×TL:=((.ag q2 (.cl (.int .i64 0) (.cl (.int .i64 0) .nil))),(.cl (.slice none 0 0) (.cl (.int .i64 0) .nil)))
set_option maxRecDepth 1000000 in
def zUl:SD Tryz.prog tab6 700 274 laidB zPJ=some (.bool true):=by kernel_rfl
def zVo:List (TL×TL):=[zPJ]
def tab7:Ws:=tab6.know 274 (B4 laidB zVo)
def ok7:tab7.Ok Tryz.prog:=ok6.know Tryz.checked.mixed (n:=700) yK (List.forall_mem_cons.2 ⟨zUl,fun p hp=>by cases hp⟩)
def zQA:TL×TL:=((.ag q2 (.cl (.int .i64 0) .nil)),(.sl 1 1 (.cl (.int .i64 0) .nil) (.cl (.int .i64 0) .nil)))
set_option maxRecDepth 1000000 in
def zUU:SD Tryz.prog tab7 700 315 laidB zQA=some (.bool true):=by kernel_rfl
def zVe:List (TL×TL):=[zQA]
def tab8:Ws:=tab7.know 315 (B4 laidB zVe)
def ok8:tab8.Ok Tryz.prog:=ok7.know Tryz.checked.mixed (n:=700) yK (List.forall_mem_cons.2 ⟨zUU,fun p hp=>by cases hp⟩)
def zPh:TL×TL:=((.ag q2 (.cl (.int .i64 0) .nil)),(.sl 1 1 (.cl (.int .i64 (-1)) .nil) (.cl (.int .i64 0) .nil)))
set_option maxRecDepth 1000000 in
def zUL:SD Tryz.prog tab8 700 267 laidB zPh=some (.bool true):=by kernel_rfl
def zVn:List (TL×TL):=[zPh]
def tab9:Ws:=tab8.know 267 (B4 laidB zVn)
def ok9:tab9.Ok Tryz.prog:=ok8.know Tryz.checked.mixed (n:=700) yK (List.forall_mem_cons.2 ⟨zUL,fun p hp=>by cases hp⟩)
def zPF:TL×TL:=((.ag q2 (.cl (.int .i64 0) .nil)),(.cl (.nilIface) .nil))
set_option maxRecDepth 1000000 in
def zUZ:SD Tryz.prog tab9 700 169 laidB zPF=some (.bool true):=by kernel_rfl
def zVm:List (TL×TL):=[zPF]
def tab10:Ws:=tab9.know 169 (B4 laidB zVm)
def ok10:tab10.Ok Tryz.prog:=ok9.know Tryz.checked.mixed (n:=700) yK (List.forall_mem_cons.2 ⟨zUZ,fun p hp=>by cases hp⟩)
def zQi:TL×TL:=((.ag q2 .nil),(.cl (.int .i64 0) .nil))
set_option maxRecDepth 1000000 in
def zTM:SD Tryz.prog tab10 700 114 laidB zQi=some (.bool true):=by kernel_rfl
def zVd:List (TL×TL):=[zQi]
def tab11:Ws:=tab10.know 114 (B4 laidB zVd)
def ok11:tab11.Ok Tryz.prog:=ok10.know Tryz.checked.mixed (n:=700) yK (List.forall_mem_cons.2 ⟨zTM,fun p hp=>by cases hp⟩)
def zTH:TL×TL:=((.ag q2 .nil),(.sl 3 1 (.cl (.int .i64 0) (.cl (.int .i64 0) (.cl (.int .i64 1) .nil))) (.cl (.int .i64 0) .nil)))
set_option maxRecDepth 1000000 in
def zVI:SD Tryz.prog tab11 700 54 laidB zTH=some (.bool true):=by kernel_rfl
def l54:List (TL×TL):=[zTH]
def tab12:Ws:=tab11.know 54 (B4 laidB l54)
def ok12:tab12.Ok Tryz.prog:=ok11.know Tryz.checked.mixed (n:=700) yK (List.forall_mem_cons.2 ⟨zVI,fun p hp=>by cases hp⟩)
def zRH:TL×TL:=((.sl 4 4 q1 (.cl (.int .i64 1) .nil)),(.sl 1 1 (.cl (.int .i64 1) .nil) (.cl (.int .i64 0) .nil)))
set_option maxRecDepth 1000000 in
def zTu:SD Tryz.prog tab12 700 132 laidB zRH=some (.bool true):=by kernel_rfl
def zVg:List (TL×TL):=[zRH]
def tab13:Ws:=tab12.know 132 (B4 laidB zVg)
def ok13:tab13.Ok Tryz.prog:=ok12.know Tryz.checked.mixed (n:=700) yK (List.forall_mem_cons.2 ⟨zTu,fun p hp=>by cases hp⟩)
def zS7:TL×TL:=((.sl 4 4 q1 (.cl (.int .i64 1) .nil)),(.sl 1 1 (.cl (.int .i64 1) .nil) (.cl (.int .i64 0) .nil)))
set_option maxRecDepth 1000000 in
def zVS:SD Tryz.prog tab13 700 71 laidB zS7=some (.bool true):=by kernel_rfl
def l71:List (TL×TL):=[zS7]
def tab14:Ws:=tab13.know 71 (B4 laidB l71)
def ok14:tab14.Ok Tryz.prog:=ok13.know Tryz.checked.mixed (n:=700) yK (List.forall_mem_cons.2 ⟨zVS,fun p hp=>by cases hp⟩)
def zTA:TL×TL:=((.cl (.string ⟨⟨[116,121,112,101,32,105,110,116,10,116,121,112,101,32,112,116,114,32,116,48,10,116,121,112,101,32,112,116,114,32,116,49,10,116,121,112,101,32,102,110,32,116,48,10,102,117,110,99,32,116,51,10,98,108,111,99,107,10,114,48,32,116,50,32,61,32,110,101,119,10,114,49,32,116,49,32,61,32,108,111,97,100,32,114,48,10,114,50,32,116,48,32,61,32,105,110,116,32,49,10,114,101,116,117,114,110,32,114,50,10]⟩⟩) .nil),(.sl 1 10 (.sl 1 2 (.cl (.string ⟨⟨[116,121,112,101]⟩⟩) (.cl (.string ⟨⟨[105,110,116]⟩⟩) .nil)) (.sl 1 3 (.cl (.string ⟨⟨[116,121,112,101]⟩⟩) (.cl (.string ⟨⟨[112,116,114]⟩⟩) (.cl (.string ⟨⟨[116,48]⟩⟩) .nil))) (.sl 1 3 (.cl (.string ⟨⟨[116,121,112,101]⟩⟩) (.cl (.string ⟨⟨[112,116,114]⟩⟩) (.cl (.string ⟨⟨[116,49]⟩⟩) .nil))) (.sl 1 3 (.cl (.string ⟨⟨[116,121,112,101]⟩⟩) (.cl (.string ⟨⟨[102,110]⟩⟩) (.cl (.string ⟨⟨[116,48]⟩⟩) .nil))) (.sl 1 2 (.cl (.string ⟨⟨[102,117,110,99]⟩⟩) (.cl (.string ⟨⟨[116,51]⟩⟩) .nil)) (.sl 1 1 (.cl (.string ⟨⟨[98,108,111,99,107]⟩⟩) .nil) (.sl 1 4 (.cl (.string ⟨⟨[114,48]⟩⟩) (.cl (.string ⟨⟨[116,50]⟩⟩) (.cl (.string ⟨⟨[61]⟩⟩) (.cl (.string ⟨⟨[110,101,119]⟩⟩) .nil)))) (.sl 1 5 (.cl (.string ⟨⟨[114,49]⟩⟩) (.cl (.string ⟨⟨[116,49]⟩⟩) (.cl (.string ⟨⟨[61]⟩⟩) (.cl (.string ⟨⟨[108,111,97,100]⟩⟩) (.cl (.string ⟨⟨[114,48]⟩⟩) .nil))))) (.sl 1 5 (.cl (.string ⟨⟨[114,50]⟩⟩) (.cl (.string ⟨⟨[116,48]⟩⟩) (.cl (.string ⟨⟨[61]⟩⟩) (.cl (.string ⟨⟨[105,110,116]⟩⟩) (.cl (.string ⟨⟨[49]⟩⟩) .nil))))) (.sl 1 2 (.cl (.string ⟨⟨[114,101,116,117,114,110]⟩⟩) (.cl (.string ⟨⟨[114,50]⟩⟩) .nil)) .nil)))))))))) (.cl (.int .i64 0) .nil)))
set_option maxRecDepth 1000000 in
def zVG:SD Tryz.prog tab14 700 48 laidB zTA=some (.bool true):=by kernel_rfl
def l48:List (TL×TL):=[zTA]
def tab15:Ws:=tab14.know 48 (B4 laidB l48)
def ok15:tab15.Ok Tryz.prog:=ok14.know Tryz.checked.mixed (n:=700) yK (List.forall_mem_cons.2 ⟨zVG,fun p hp=>by cases hp⟩)
def zS9:TL×TL:=((.cl (.string ⟨⟨[116,121,112,101,32,105,110,116,10,116,121,112,101,32,112,116,114,32,116,48,10,116,121,112,101,32,112,116,114,32,116,49,10,116,121,112,101,32,102,110,32,116,48,10,102,117,110,99,32,116,51,10,98,108,111,99,107,10,114,48,32,116,50,32,61,32,110,101,119,10,114,49,32,116,49,32,61,32,108,111,97,100,32,114,48,10,114,50,32,116,48,32,61,32,105,110,116,32,49,10,114,101,116,117,114,110,32,114,50,10]⟩⟩) .nil),(.ag q2 (.cl (.int .i64 0) .nil)))
set_option maxRecDepth 1000000 in
def zVR:SD Tryz.prog tab15 700 18 laidB zS9=some (.bool true):=by kernel_rfl
def l18:List (TL×TL):=[zS9]
def tab16:Ws:=tab15.know 18 (B4 laidB l18)
def ok16:tab16.Ok Tryz.prog:=ok15.know Tryz.checked.mixed (n:=700) yK (List.forall_mem_cons.2 ⟨zVR,fun p hp=>by cases hp⟩)
def zTC:TL×TL:=((.ag q2 .nil),(.sl 5 3 (.cl (.int .u8 1) (.cl (.int .i64 0) (.cl (.int .i64 0) (.cl (.int .i64 2) (.cl (.slice none 0 0) (.cl (.int .u8 1) (.cl (.int .i64 4) (.cl (.int .i64 0) (.cl (.int .i64 0) (.cl (.slice none 0 0) (.cl (.int .u8 4) (.cl (.int .i64 1) (.cl (.int .i64 0) (.cl (.int .i64 0) (.cl (.slice none 0 0) .nil))))))))))))))) (.cl (.int .i64 0) .nil)))
set_option maxRecDepth 1000000 in
def zUy:SD Tryz.prog tab16 700 21 laidB zTC=some (.bool true):=by kernel_rfl
def l21:List (TL×TL):=[zTC]
def tab17:Ws:=tab16.know 21 (B4 laidB l21)
def zVh:tab17.Ok Tryz.prog:=ok16.know Tryz.checked.mixed (n:=700) yK (List.forall_mem_cons.2 ⟨zUy,fun p hp=>by cases hp⟩)
set_option maxRecDepth 1000000 in
def zOH:(zK7 Tryz.prog tab17 700).call 20 [] (Z3 Tryz.prog.globals.size laidB) (fun v _=>some v)=some (.bool true):=by kernel_rfl
def zPb:((BE Tryz.prog tab17 700).call 20 [] (Z3 Tryz.prog.globals.size laidB)).map (·.1)=some (.bool true):=zQa zOH
set_option maxRecDepth 1000000 in
def tb_ok:tb.Ok Tryz.prog where
 code:=fun _ _ h=>h
 stub:=fun f s hs=>by
  have hs:(if f=20 then some (zBw laidB (.bool true))else none)=some s:=hs;split at hs
  ·rename_i e;subst e;cases hs;exact zKN Tryz.checked.mixed zVh rfl (fun x hx=>by
    have h1:=QX.1 yK x hx;rw[QI]at h1;exact⟨QP h1.1,h1.2⟩) zPb
  ·cases hs
 grow:=fun f s hs args h v h' hk=>by
  have hs:(if f=20 then some (zBw laidB (.bool true))else none)=some s:=hs;split at hs
  ·cases hs;exact zKp args h v h' hk
  ·cases hs
end
end Go.Proofs.YtndffgfnndoifaaGreatDoor
