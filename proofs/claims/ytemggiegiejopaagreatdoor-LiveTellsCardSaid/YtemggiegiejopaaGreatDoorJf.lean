/- What functions of the program come to in the abstract machine, and plain laws about it; no statement of the seat is proved in this text. -/
import Derived.Test.YtemggiegiejopaaGreatDoorJb
import Derived.Test.YtemggiegiejopaaGreatDoorAmU
import Derived.Test.YtemggiegiejopaaGreatDoorJa
import Derived.Test.YtemggiegiejopaaGreatDoorAmV
set_option linter.unusedVariables false
set_option linter.unusedSimpArgs false
set_option maxHeartbeats 1000000
set_option maxRecDepth 100000
namespace Go.Proofs.YtemggiegiejopaaGreatDoor
noncomputable section
open Go.Am
theorem wf_u8 {n:Int} (h:(Lit.int .u8 n).wf=true):0≤n∧n≤255:=by
 simp[Lit.wf,IntKind.wrap,IntKind.signed,IntKind.bits]at h;have h1:IntKind.min .u8=0:=by decide
 have h2:IntKind.max .u8=255:=by decide
 omega
theorem len2 {l:List Value} (h:l.length=2):∃ a b,l=[a,b]:=by
 match l,h with
 |[a,b],_=>exact⟨a,b,rfl⟩
theorem len4 {l:List Value} (h:l.length=4):∃ a b c d,l=[a,b,c,d]:=by
 match l,h with
 |[a,b,c,d],_=>exact⟨a,b,c,d,rfl⟩
theorem len5 {l:List Value} (h:l.length=5):∃ a b c d e,l=[a,b,c,d,e]:=by
 match l,h with
 |[a,b,c,d,e],_=>exact⟨a,b,c,d,e,rfl⟩
theorem len7 {l:List Value} (h:l.length=7):∃ a b c d e f g,l=[a,b,c,d,e,f,g]:=by
 match l,h with
 |[a,b,c,d,e,f,g],_=>exact⟨a,b,c,d,e,f,g,rfl⟩
section
variable {H:Type} {h:AHeap}
theorem rd_type (cs:List Value) (d:DataW H) (r:Rd Tryz.prog h 72 cs d) (hw:wOk Tryz.prog 72 d):∃ a,RTy h cs a:=by
 obtain⟨hl,hr⟩:=Zw r Tryz.underlying72 hw;have hc:Tryz.prog.cellsOf 72=4:=by kernel_rfl
 rw[hc]at hl;obtain⟨x0,x1,x2,x3,rfl⟩:∃ x0 x1 x2 x3,cs=[x0,x1,x2,x3]:=by
  exact len4 hl
 obtain⟨d0,r0,w0⟩:=hr 0 _ rfl;have c0:Tryz.prog.cellsOf 5=1:=by kernel_rfl
 replace r0:Rd Tryz.prog h 5 (([x0,x1,x2,x3].drop 0).take (Tryz.prog.cellsOf 5)) d0:=r0;replace w0:wOk Tryz.prog 5 d0:=w0;rw[c0]at r0;replace r0:Rd Tryz.prog h 5 [x0] d0:=r0;obtain⟨d1,r1,w1⟩:=hr 1 _ rfl;have c1:Tryz.prog.cellsOf 3=1:=by kernel_rfl
 replace r1:Rd Tryz.prog h 3 (([x0,x1,x2,x3].drop 1).take (Tryz.prog.cellsOf 3)) d1:=r1;replace w1:wOk Tryz.prog 3 d1:=w1;rw[c1]at r1;replace r1:Rd Tryz.prog h 3 [x1] d1:=r1;obtain⟨d2,r2,w2⟩:=hr 2 _ rfl;have c2:Tryz.prog.cellsOf 3=1:=by kernel_rfl
 replace r2:Rd Tryz.prog h 3 (([x0,x1,x2,x3].drop 2).take (Tryz.prog.cellsOf 3)) d2:=r2;replace w2:wOk Tryz.prog 3 d2:=w2;rw[c2]at r2;replace r2:Rd Tryz.prog h 3 [x2] d2:=r2;obtain⟨d3,r3,w3⟩:=hr 3 _ rfl;have c3:Tryz.prog.cellsOf 28=1:=by kernel_rfl
 replace r3:Rd Tryz.prog h 28 (([x0,x1,x2,x3].drop 3).take (Tryz.prog.cellsOf 28)) d3:=r3;replace w3:wOk Tryz.prog 28 d3:=w3;rw[c3]at r3;replace r3:Rd Tryz.prog h 28 [x3] d3:=r3;obtain⟨k,e0,f0⟩:=ZN r0 Tryz.underlying5;cases e0;obtain⟨e,e1,f1⟩:=ZN r1 Tryz.underlying3;cases e1;obtain⟨m,e2,f2⟩:=ZN r2 Tryz.underlying3;cases e2;obtain⟨va,l,e3,s3,b3,_⟩:=zDc r3 Tryz.underlying28 Tryz.underlying3 (by kernel_rfl) (by decide+kernel) w3;cases e3;exact⟨⟨k,e,m,l⟩,_,rfl,s3,by simp only;omega⟩
theorem rd_ins (cs:List Value) (d:DataW H) (r:Rd Tryz.prog h 49 cs d) (hw:wOk Tryz.prog 49 d):∃ a,RIns h cs a:=by
 obtain⟨hl,hr⟩:=Zw r Tryz.underlying49 hw;have hc:Tryz.prog.cellsOf 49=7:=by kernel_rfl
 rw[hc]at hl;obtain⟨x0,x1,x2,x3,x4,x5,x6,rfl⟩:∃ x0 x1 x2 x3 x4 x5 x6,cs=[x0,x1,x2,x3,x4,x5,x6]:=by
  exact len7 hl
 obtain⟨d0,r0,w0⟩:=hr 0 _ rfl;have c0:Tryz.prog.cellsOf 5=1:=by kernel_rfl
 replace r0:Rd Tryz.prog h 5 (([x0,x1,x2,x3,x4,x5,x6].drop 0).take (Tryz.prog.cellsOf 5)) d0:=r0;replace w0:wOk Tryz.prog 5 d0:=w0;rw[c0]at r0;replace r0:Rd Tryz.prog h 5 [x0] d0:=r0;obtain⟨d1,r1,w1⟩:=hr 1 _ rfl;have c1:Tryz.prog.cellsOf 3=1:=by kernel_rfl
 replace r1:Rd Tryz.prog h 3 (([x0,x1,x2,x3,x4,x5,x6].drop 1).take (Tryz.prog.cellsOf 3)) d1:=r1;replace w1:wOk Tryz.prog 3 d1:=w1;rw[c1]at r1;replace r1:Rd Tryz.prog h 3 [x1] d1:=r1;obtain⟨d2,r2,w2⟩:=hr 2 _ rfl;have c2:Tryz.prog.cellsOf 3=1:=by kernel_rfl
 replace r2:Rd Tryz.prog h 3 (([x0,x1,x2,x3,x4,x5,x6].drop 2).take (Tryz.prog.cellsOf 3)) d2:=r2;replace w2:wOk Tryz.prog 3 d2:=w2;rw[c2]at r2;replace r2:Rd Tryz.prog h 3 [x2] d2:=r2;obtain⟨d3,r3,w3⟩:=hr 3 _ rfl;have c3:Tryz.prog.cellsOf 3=1:=by kernel_rfl
 replace r3:Rd Tryz.prog h 3 (([x0,x1,x2,x3,x4,x5,x6].drop 3).take (Tryz.prog.cellsOf 3)) d3:=r3;replace w3:wOk Tryz.prog 3 d3:=w3;rw[c3]at r3;replace r3:Rd Tryz.prog h 3 [x3] d3:=r3;obtain⟨d4,r4,w4⟩:=hr 4 _ rfl;have c4:Tryz.prog.cellsOf 2=1:=by kernel_rfl
 replace r4:Rd Tryz.prog h 2 (([x0,x1,x2,x3,x4,x5,x6].drop 4).take (Tryz.prog.cellsOf 2)) d4:=r4;replace w4:wOk Tryz.prog 2 d4:=w4;rw[c4]at r4;replace r4:Rd Tryz.prog h 2 [x4] d4:=r4;obtain⟨d5,r5,w5⟩:=hr 5 _ rfl;have c5:Tryz.prog.cellsOf 28=1:=by kernel_rfl
 replace r5:Rd Tryz.prog h 28 (([x0,x1,x2,x3,x4,x5,x6].drop 5).take (Tryz.prog.cellsOf 28)) d5:=r5;replace w5:wOk Tryz.prog 28 d5:=w5;rw[c5]at r5;replace r5:Rd Tryz.prog h 28 [x5] d5:=r5;obtain⟨d6,r6,w6⟩:=hr 6 _ rfl;have c6:Tryz.prog.cellsOf 28=1:=by kernel_rfl
 replace r6:Rd Tryz.prog h 28 (([x0,x1,x2,x3,x4,x5,x6].drop 6).take (Tryz.prog.cellsOf 28)) d6:=r6;replace w6:wOk Tryz.prog 28 d6:=w6;rw[c6]at r6;replace r6:Rd Tryz.prog h 28 [x6] d6:=r6;obtain⟨op,e0,f0⟩:=ZN r0 Tryz.underlying5;cases e0;obtain⟨ty,e1,f1⟩:=ZN r1 Tryz.underlying3;cases e1;obtain⟨a,e2,f2⟩:=ZN r2 Tryz.underlying3;cases e2;obtain⟨b,e3,f3⟩:=ZN r3 Tryz.underlying3;cases e3;obtain⟨n,e4,f4⟩:=ZN r4 Tryz.underlying2;cases e4;obtain⟨va,la,e5,s5,b5,_⟩:=zDc r5 Tryz.underlying28 Tryz.underlying3 (by kernel_rfl) (by decide+kernel) w5;cases e5;obtain⟨vf,lf,e6,s6,b6,_⟩:=zDc r6 Tryz.underlying28 Tryz.underlying3 (by kernel_rfl) (by decide+kernel) w6;cases e6;exact⟨⟨op,ty,a,b,n,la,lf⟩,_,_,rfl,s5,s6,b5,b6,wf_u8 f0⟩
theorem rd_end (cs:List Value) (d:DataW H) (r:Rd Tryz.prog h 45 cs d) (hw:wOk Tryz.prog 45 d):∃ x:LEnd,cs=[.int .u8 x.kind,I x.a,I x.to,I x.els]:=by
 obtain⟨hl,hr⟩:=Zw r Tryz.underlying45 hw;have hc:Tryz.prog.cellsOf 45=4:=by kernel_rfl
 rw[hc]at hl;obtain⟨x0,x1,x2,x3,rfl⟩:∃ x0 x1 x2 x3,cs=[x0,x1,x2,x3]:=by
  exact len4 hl
 obtain⟨d0,r0,w0⟩:=hr 0 _ rfl;have c0:Tryz.prog.cellsOf 5=1:=by kernel_rfl
 replace r0:Rd Tryz.prog h 5 (([x0,x1,x2,x3].drop 0).take (Tryz.prog.cellsOf 5)) d0:=r0;replace w0:wOk Tryz.prog 5 d0:=w0;rw[c0]at r0;replace r0:Rd Tryz.prog h 5 [x0] d0:=r0;obtain⟨d1,r1,w1⟩:=hr 1 _ rfl;have c1:Tryz.prog.cellsOf 3=1:=by kernel_rfl
 replace r1:Rd Tryz.prog h 3 (([x0,x1,x2,x3].drop 1).take (Tryz.prog.cellsOf 3)) d1:=r1;replace w1:wOk Tryz.prog 3 d1:=w1;rw[c1]at r1;replace r1:Rd Tryz.prog h 3 [x1] d1:=r1;obtain⟨d2,r2,w2⟩:=hr 2 _ rfl;have c2:Tryz.prog.cellsOf 3=1:=by kernel_rfl
 replace r2:Rd Tryz.prog h 3 (([x0,x1,x2,x3].drop 2).take (Tryz.prog.cellsOf 3)) d2:=r2;replace w2:wOk Tryz.prog 3 d2:=w2;rw[c2]at r2;replace r2:Rd Tryz.prog h 3 [x2] d2:=r2;obtain⟨d3,r3,w3⟩:=hr 3 _ rfl;have c3:Tryz.prog.cellsOf 3=1:=by kernel_rfl
 replace r3:Rd Tryz.prog h 3 (([x0,x1,x2,x3].drop 3).take (Tryz.prog.cellsOf 3)) d3:=r3;replace w3:wOk Tryz.prog 3 d3:=w3;rw[c3]at r3;replace r3:Rd Tryz.prog h 3 [x3] d3:=r3;obtain⟨k,e0,f0⟩:=ZN r0 Tryz.underlying5;cases e0;obtain⟨a,e1,f1⟩:=ZN r1 Tryz.underlying3;cases e1;obtain⟨t,e2,f2⟩:=ZN r2 Tryz.underlying3;cases e2;obtain⟨e,e3,f3⟩:=ZN r3 Tryz.underlying3;cases e3;exact⟨⟨k,a,t,e⟩,rfl⟩
theorem rd_block (cs:List Value) (d:DataW H) (r:Rd Tryz.prog h 47 cs d) (hw:wOk Tryz.prog 47 d):∃ a,RBlk h cs a:=by
 obtain⟨hl,hr⟩:=Zw r Tryz.underlying47 hw;have hc:Tryz.prog.cellsOf 47=5:=by kernel_rfl
 rw[hc]at hl;obtain⟨x0,x1,x2,x3,x4,rfl⟩:∃ x0 x1 x2 x3 x4,cs=[x0,x1,x2,x3,x4]:=by
  exact len5 hl
 obtain⟨d0,r0,w0⟩:=hr 0 _ rfl;have c0:Tryz.prog.cellsOf 43=1:=by kernel_rfl
 replace r0:Rd Tryz.prog h 43 (([x0,x1,x2,x3,x4].drop 0).take (Tryz.prog.cellsOf 43)) d0:=r0;replace w0:wOk Tryz.prog 43 d0:=w0;rw[c0]at r0;replace r0:Rd Tryz.prog h 43 [x0] d0:=r0;obtain⟨d1,r1,w1⟩:=hr 1 _ rfl;have c1:Tryz.prog.cellsOf 45=4:=by kernel_rfl
 replace r1:Rd Tryz.prog h 45 (([x0,x1,x2,x3,x4].drop 1).take (Tryz.prog.cellsOf 45)) d1:=r1;replace w1:wOk Tryz.prog 45 d1:=w1;rw[c1]at r1;replace r1:Rd Tryz.prog h 45 [x1,x2,x3,x4] d1:=r1;obtain⟨vi,li,e0,s0,b0⟩:=zBn r0 Tryz.underlying43 (c:=7) (by kernel_rfl) (by decide+kernel) w0 rd_ins;cases e0;obtain⟨en,e1⟩:=rd_end _ _ r1 w1;cases e1;exact⟨⟨li,en⟩,_,rfl,s0,b0⟩
theorem rd_func (cs:List Value) (d:DataW H) (r:Rd Tryz.prog h 42 cs d) (hw:wOk Tryz.prog 42 d):∃ a,RFn h cs a:=by
 obtain⟨hl,hr⟩:=Zw r Tryz.underlying42 hw;have hc:Tryz.prog.cellsOf 42=2:=by kernel_rfl
 rw[hc]at hl;obtain⟨x0,x1,rfl⟩:∃ x0 x1,cs=[x0,x1]:=by
  exact len2 hl
 obtain⟨d0,r0,w0⟩:=hr 0 _ rfl;have c0:Tryz.prog.cellsOf 3=1:=by kernel_rfl
 replace r0:Rd Tryz.prog h 3 (([x0,x1].drop 0).take (Tryz.prog.cellsOf 3)) d0:=r0;replace w0:wOk Tryz.prog 3 d0:=w0;rw[c0]at r0;replace r0:Rd Tryz.prog h 3 [x0] d0:=r0;obtain⟨d1,r1,w1⟩:=hr 1 _ rfl;have c1:Tryz.prog.cellsOf 40=1:=by kernel_rfl
 replace r1:Rd Tryz.prog h 40 (([x0,x1].drop 1).take (Tryz.prog.cellsOf 40)) d1:=r1;replace w1:wOk Tryz.prog 40 d1:=w1;rw[c1]at r1;replace r1:Rd Tryz.prog h 40 [x1] d1:=r1;obtain⟨sg,e0,f0⟩:=ZN r0 Tryz.underlying3;cases e0;obtain⟨vb,lb,e1,s1,b1⟩:=zBn r1 Tryz.underlying40 (c:=5) (by kernel_rfl) (by decide+kernel) w1 rd_block;cases e1;exact⟨⟨sg,lb⟩,_,rfl,s1,b1⟩
theorem rd_prog (cs:List Value) (d:DataW H) (r:Rd Tryz.prog h 25 cs d) (hw:wOk Tryz.prog 25 d):∃ vt vf T F,cs=[vt,vf]∧SlT h vt T∧SlF h vf F∧(T.length:Int)≤1152921504606846976∧(F.length:Int)≤1152921504606846976:=by
 obtain⟨hl,hr⟩:=Zw r Tryz.underlying25 hw;have hc:Tryz.prog.cellsOf 25=2:=by kernel_rfl
 rw[hc]at hl;obtain⟨x0,x1,rfl⟩:∃ x0 x1,cs=[x0,x1]:=by
  exact len2 hl
 obtain⟨d0,r0,w0⟩:=hr 0 _ rfl;have c0:Tryz.prog.cellsOf 22=1:=by kernel_rfl
 replace r0:Rd Tryz.prog h 22 (([x0,x1].drop 0).take (Tryz.prog.cellsOf 22)) d0:=r0;replace w0:wOk Tryz.prog 22 d0:=w0;rw[c0]at r0;replace r0:Rd Tryz.prog h 22 [x0] d0:=r0;obtain⟨d1,r1,w1⟩:=hr 1 _ rfl;have c1:Tryz.prog.cellsOf 23=1:=by kernel_rfl
 replace r1:Rd Tryz.prog h 23 (([x0,x1].drop 1).take (Tryz.prog.cellsOf 23)) d1:=r1;replace w1:wOk Tryz.prog 23 d1:=w1;rw[c1]at r1;replace r1:Rd Tryz.prog h 23 [x1] d1:=r1;obtain⟨vt,lt,e0,s0,b0⟩:=zBn r0 Tryz.underlying22 (c:=4) (by kernel_rfl) (by decide+kernel) w0 rd_type;cases e0;obtain⟨vf,lf,e1,s1,b1⟩:=zBn r1 Tryz.underlying23 (c:=2) (by kernel_rfl) (by decide+kernel) w1 rd_func;cases e1;exact⟨_,_,lt,lf,rfl,s0,s1,b0,b1⟩
end
def RW (h:AHeap) (cs:List Value) (w:LWd):Prop:=cs=[I w.pos,W w.bits]∧w.bits<18446744073709551616∧ -9223372036854775808≤w.pos∧w.pos≤9223372036854775807
abbrev SlW (h:AHeap) (v:Value) (s:List LWd):Prop:=SlR 2 RW h v s
theorem SlW.ext {h h' v s} (k:SlW h v s) (e:Ext h h'):SlW h' v s:=SlR.ext (h:=h) (h':=h') (R:=RW) (fun cs a r=>r) k e
theorem SlW.bd {h v s} (k:SlW h v s):BdW s:=fun w hw=>by
 obtain⟨i,hi,e⟩:=List.mem_iff_getElem.1 hw;obtain⟨cs,⟨_,h2,_⟩,_⟩:=k.at hi;rw[←e];exact h2
def body70:ACode:=(.seq (oR [oZ 2]) (.seq (oR [oM 3 0,oC .geq 4 3 0,oM 5 4,oG 5 (oM 6 0),oG 5 (oC .lss 7 6 1048576),oP 8 5 7,oM 2 8]) .ret))
theorem tab70:tb.code 70=some ⟨9,[(2,none)],body70⟩:=by kernel_rfl
theorem zIg (h:AHeap) (n:Int):WC Tryz.prog tb 70 [I n] h fun r h'=>r= .bool (decide (0≤n)&&decide (n<1048576))∧h=h':=by
 refine WC.of (zE 70) tab70 ?_;simp only[zK,Nat.zero_add,Nat.reduceAdd];refine go ?_;refine go ?_;repeat' (first|(refine WX.br (fun hb=> ?_) (fun hb=> ?_)<;>(try simp only[DB]at hb)<;>refine go ?_)|(refine WO.sp (fun hb=> ?_) (fun hb=> ?_)<;>(try simp only[DB]at hb)<;>refine go ?_))<;>refine rt ?_<;>exact⟨by simp[one, *]<;>omega,rfl⟩
def body65:ACode:=(.seq (oR [oK 4 (.int .u64 0)]) (.seq (oR [oM 5 0,oM 6 1,oB .or 7 5 6,oM 4 7]) .ret))
theorem tab65:tb.code 65=some ⟨8,[(4,none)],body65⟩:=by kernel_rfl
theorem or1_ok (h:AHeap) (a b:Nat) (ha:a<18446744073709551616) (hb:b<18446744073709551616):WC Tryz.prog tb 65 [W a,W b] h fun r h'=>r=W (a|||b)∧h=h':=by
 refine WC.of (zE 65) tab65 ?_;simp only[zK,Nat.zero_add,Nat.reduceAdd];refine go ?_;refine WO.bin zV zV (u_or ha hb).1 ?_;refine go ?_;refine rt ?_;exact⟨rfl,rfl⟩
def body72:ACode:=(.seq (oR [oK 4 (.int .u64 0)]) (.seq (oR [oM 5 0,oM 6 1,oB .andNot 7 5 6,oM 4 7]) .ret))
theorem tab72:tb.code 72=some ⟨8,[(4,none)],body72⟩:=by kernel_rfl
theorem zJL (h:AHeap) (a b:Nat) (ha:a<18446744073709551616) (hb:b<18446744073709551616):WC Tryz.prog tb 72 [W a,W b] h fun r h'=>r=W (zCC a b)∧h=h':=by
 refine WC.of (zE 72) tab72 ?_;simp only[zK,Nat.zero_add,Nat.reduceAdd];refine go ?_;refine WO.bin zV zV (u_notN ha hb).1 ?_;refine go ?_;refine rt ?_;exact⟨rfl,rfl⟩
section
variable {P:Program} {tab:Tab} {t:Trie Value} {h:AHeap} {ds:List Deferred} {rd:Option Nat} {l:List AOper} {Q:AFr→AHeap→Prop}
theorem WO.ldG {d g off:Nat} {x:Operand} {cells:List Value} {v:Value} (hg:yA h g=some cells) (hr:cells[off]?=some v) (hx:Ope t x (.pointer (some ⟨g,off,none⟩))) (k:WO P tab l ⟨t.set d v,ds,rd⟩ h Q):
  WO P tab (⟨some d,none,.load false 1 x⟩::l) ⟨t,ds,rd⟩ h Q:=by
 have hx:ev t x= .pointer (some ⟨g,off,none⟩):=hx;have hlt:off<cells.length:=(List.getElem?_eq_some_iff.1 hr).1;have hc:cut cells off 1=some [v]:=by
  rw[Zi (by omega),List.drop_eq_getElem_cons hlt,List.take_succ_cons,List.take_zero];have:=(List.getElem?_eq_some_iff.1 hr).2;rw[this]
 refine WO.op v h rfl ?_ k;simp only[aop,hx,hg,Option.isNone_none,cond_true,Option.bind_some,hc,zJ,cond_false,Option.map_some]
theorem WO.unA {d:Nat} {op:UnOp} {x:Operand} {vx v:Value} (hx:Ope t x vx) (hv:unV op vx=some v) (k:WO P tab l ⟨t.set d v,ds,rd⟩ h Q):WO P tab (⟨some d,none,.un op x⟩::l) ⟨t,ds,rd⟩ h Q:=by
 have hx:ev t x=vx:=hx;exact WO.op v h rfl (by simp only[aop,hx,hv,Option.map_some]) k
end
def TzT (h:AHeap):Prop:=yA h 0=some tzV∧0<h.n
theorem TzT.ext {h h'} (t:TzT h) (e:Ext h h'):TzT h':=⟨e.row t.2 t.1,Nat.lt_of_lt_of_le t.2 e.n⟩
def body44:ACode:=(.seq (oR [oN 2 0]) (.seq (.seq (oR [oM 3 0,⟨some 4,none,(.bin .eql (.tmp 3) (.const (.int .u64 0)))⟩]) (.cond (.tmp 4) (.seq (oR [oN 2 64]) .ret) .skip)) (.seq (oR [oM 5 0,oM 6 0,⟨some 7,none,(.un .neg (.tmp 6))⟩,oB .and 8 5 7,⟨some 9,none,(.bin .mul (.tmp 8) (.const (.int .u64 285870213051353865)))⟩,⟨some 10,none,(.bin .shr (.tmp 9) (.const (.int .u64 58)))⟩,⟨some 11,none,(.idxArr 64 1 (.global 0) (.tmp 10))⟩,oL 12 11,⟨some 13,none,(.conv .i64 (.tmp 12))⟩,oM 2 13]) .ret)))
theorem tab44:tb.code 44=some ⟨14,[(2,none)],body44⟩:=by kernel_rfl
theorem trail_ok (h:AHeap) (n k:Nat) (T:TzT h) (hn:n<18446744073709551616) (hz:n≠0) (L:Low n k):WC Tryz.prog tb 44 [W n] h fun r h'=>r=I k∧h=h':=by
 refine WC.of (zE 44) tab44 ?_;simp only[zK,Nat.zero_add,Nat.reduceAdd];have hz1:¬(n:Int)=0:=by omega
 have a1:=u_neg hz hn;have a2:z9 .and (W n) (W (18446744073709551616 - n))=some (W (2 ^ k)):=by rw[u_and hn (by omega),L.one]
 obtain⟨m,j,a3,a4,t1,t2⟩:=tz_steps L.lt;have hv:=tzV_at t1 t2;have hk:=L.lt;refine go ?_;refine WO.unA zV a1 ?_;refine go ?_;refine WO.bin zV zV a2 ?_;refine go ?_;refine WO.bin zV rfl a3 ?_;refine go ?_;refine WO.bin zV rfl a4 ?_;refine go ?_;refine WO.ldG (v:= .int .u8 (k:Int)) T.1 (off:=0+j * 1) (by rw[Nat.zero_add,Nat.mul_one];exact hv) zV ?_;refine go ?_;refine rt ?_;exact⟨rfl,rfl⟩
theorem zEZ {s:List LWd} {i:Nat} (h:i<s.length):s.drop i=s.getD i default::s.drop (i+1):=by
 rw[List.drop_eq_getElem_cons h,List.getD_eq_getElem?_getD,List.getElem?_eq_getElem h];rfl
theorem zCc {h:AHeap} {v:Value} {s:List LWd} {i:Nat} (k:SlW h v s) (hi:i<s.length):∃ cs,RW h cs (s.getD i default)∧Piece h v (i * 2) cs∧IsSl v:=by
 obtain⟨cs,a,_,c⟩:=k.at hi;exact⟨cs,by rw[List.getD_eq_getElem?_getD,List.getElem?_eq_getElem hi];exact a,c,k.some hi⟩
def errW (b:Bool):Int:=if b then 0 else 8
theorem zBC {last:Int} {w:LWd} {l:List LWd} (h:w.pos≤last∨16384≤w.pos∨(w.bits:Int)=0):z0 last (w::l)=false:=by
 unfold z0;rcases h with h|h|h
 ·rw[decide_eq_false (show ¬last<w.pos by omega)];rfl
 ·rw[decide_eq_false (show ¬w.pos<16384 by omega),Bool.and_false];rfl
 ·rw[decide_eq_false (show ¬w.bits≠0 by omega),Bool.and_false];rfl
theorem zGO {last:Int} {w:LWd} {l:List LWd} (h1:last<w.pos) (h2:w.pos<16384) (h3:w.bits≠0):z0 last (w::l)=z0 w.pos l:=by
 rw[z0,decide_eq_true h1,decide_eq_true h2,decide_eq_true h3];rfl
def body26_0:ACode:=(.seq (oR [oB .lss 9 8 7]) (.seq (oT 9 0) (.seq (.block 1 (.seq (oR [oI 2 10 6 8,oA 2 11 10,⟨some 5,none,(.alloc [(.int .i64 0),(.int .u64 0)])⟩,oS 2 5 11]) (.seq (.seq (oR [oF 0 12 5,oL 13 12,oM 14 3,oB .leq 15 13 14,oM 16 15,oH 16 (oF 0 17 5),oH 16 (oL 18 17),oH 16 (oC .geq 19 18 16384),oO 20 16 19,oM 21 20,oH 21 (oF 1 22 5),oH 21 (oL 23 22),⟨some 24,some (21,false),(.bin .eql (.tmp 23) (.const (.int .u64 0)))⟩,oO 25 21 24]) (.cond (.tmp 25) (.seq (oR [oN 2 8]) .ret) .skip)) (oR [oF 0 26 5,oL 27 26,oM 3 27])))) (oR [oC .add 28 8 1,oM 8 28]))))
def body26:ACode:=(.seq (oR [oN 2 0]) (.seq (oR [oN 3 (-1)]) (.seq (.seq (oR [oM 6 0,oQ 7 6,oN 8 0]) (.block 0 (.loop body26_0))) (.seq (oR [oN 2 0]) .ret))))
theorem tab26:tb.code 26=some ⟨29,[(2,none)],body26⟩:=by kernel_rfl
theorem zCM (h:AHeap) (v:Value) (s:List LWd) (k:SlW h v s) (hl:(s.length:Int)≤1000000000):
  WC Tryz.prog tb 26 [v] h fun r h'=>r=I (errW (z0 (-1) s))∧Ext h h':=by
 refine WC.of (zE 26) tab26 ?_;simp only[zK,Nat.zero_add,Nat.reduceAdd];refine go ?_;refine WX.loopA [9,10,11,5,12,13,14,15,16,17,18,19,20,21,22,23,24,25,2,26,27,3,28,8] (by kernel_rfl) (fun i=>s.length - i) (fun i t h1=>Ext h h1∧zC t 8=I i∧i≤s.length∧∃ last:Int,zC t 3=I last∧Hid (z0 (-1) s=z0 last (s.drop i))) 0 ?_ ?_
 ·exact⟨Ext.refl _,sl_,Nat.zero_le _,-1,sl_,⟨rfl⟩⟩
 rintro i t h1 hsame ⟨e1,s8,hi,last,s3,hc⟩;have k1:=SlW.ext k e1;refine go ?_;refine WX.br (fun hb=> ?_) (fun hb=> ?_)<;>simp only[DB]at hb
 ·have hi':i<s.length:=by omega
  obtain⟨cs,⟨rfl,w1,w2,w3⟩,pc,hs⟩:=zCc k1 hi';have hd:=hc.out;rw[zEZ hi']at hd;generalize s.getD i default=w at *;have hd:=Hid.mk hd;refine go ?_;refine WO.al ?_;intro p h2 e2 o2;refine go ?_;refine WO.stC0 (cs:=[I w.pos,W w.bits]) o2 e2 ?_;intro h3 e3 o3 u3;refine go ?_;refine go ?_;repeat' (first|(refine WX.br (fun hb=> ?_) (fun hb=> ?_)<;>(try simp only[DB]at hb)<;>refine go ?_)|(refine WO.sp (fun hb=> ?_) (fun hb=> ?_)<;>(try simp only[DB]at hb)<;>refine go ?_))
  ·refine rt ?_;exact⟨by rw[hd.out,zBC (.inl hb)];rfl,e1.trans e3⟩
  ·refine rt ?_;exact⟨by rw[hd.out,zBC (.inr (.inl hb))];rfl,e1.trans e3⟩
  ·refine rt ?_;exact⟨by rw[hd.out,zBC (.inr (.inr hb))];rfl,e1.trans e3⟩
  ·refine zA (i+1) (by omega) ⟨e1.trans e3,sln,by omega,w.pos,sl_,⟨?_⟩⟩;rw[hd.out];exact zGO (by omega) (by omega) (by omega)
 ·refine go ?_;refine rt ?_;have:=hc.out;rw[show i=s.length by omega,List.drop_length]at this;exact⟨by rw[this];rfl,e1⟩
theorem b_quo {n:Int} (h0:0≤n) (h1:n<9223372036854775808):z9 .quo (I n) (I 64)=some (I (n / 64)):=by
 simp only[z9,I,if_true];rw[if_neg (by decide),Int.tdiv_eq_ediv_of_nonneg h0,zCN (by omega) (by omega)]
theorem b_rem {n:Int} (h0:0≤n):z9 .rem (I n) (I 64)=some (I (n % 64)):=by
 simp only[z9,I,if_true];rw[if_neg (by decide),Int.tmod_eq_emod_of_nonneg h0]
theorem zDl (w:LWd) (s:List LWd):(zp (w::s)).length=(Yt w.bits).length+(zp s).length:=by
 unfold zp;simp
theorem bitsL_le (b:Nat):(Yt b).length≤64:=by
 have:=List.length_filter_le b.testBit (List.range 64);rw[List.length_range]at this;exact this
abbrev OwnW (b:Nat) (h:AHeap) (v:Value) (s:List LWd):Prop:=OwnR 2 RW b h v s
theorem RW.dep {h:AHeap} {w:LWd} (h1:w.bits<18446744073709551616) (h2: -9223372036854775808≤w.pos) (h3:w.pos≤9223372036854775807) (D:Nat→Prop):Dep RW h [I w.pos,W w.bits] w D:=
 fun _ _ _=>⟨rfl,h1,h2,h3⟩
def DoOk (fv:Value) (f:Nat→Nat→Nat):Prop:=∀ (h:AHeap) (a b:Nat),a<18446744073709551616→b<18446744073709551616→WV Tryz.prog tb fv [W a,W b] h fun r h'=>r=W (f a b)∧h=h'
def body76:ACode:=(.seq (oR [oX 1 0,oN 2 0]) (.seq (oR [oF 0 3 1,oL 4 3,oM 2 4]) .ret))
theorem tab76:tb.code 76=some ⟨5,[(2,none)],body76⟩:=by kernel_rfl
theorem Zo (h:AHeap) (w:LWd):WC Tryz.prog tb 76 [.agg #[I w.pos,W w.bits]] h fun r h'=>r=I w.pos∧Ext h h':=by
 refine WC.of (zE 76) tab76 ?_;simp only[zK,Nat.zero_add,Nat.reduceAdd];refine go ?_;refine WO.bx ?_;intro p h1 e1 o1;refine go ?_;refine rt ?_;exact⟨rfl,e1⟩
def putL (p:Int) (v:Nat) (out:List LWd):List LWd:=if v=0 then out else out++[⟨p,v⟩]
theorem Yv (p:Int) (v:Nat) (out s:List LWd):putL p v out++s=out++zAG p v s:=by
 unfold putL zAG;split<;>simp
structure PutS (hB h:AHeap) (b:Nat) (p5 p6 fv:Value) (out:List LWd):Prop where
 e:Ext hB h
 o5:OwnC hB h p5 [fv]
 bb:hB.n≤b∧b≤h.n
 p5b:∀ g,p5= .pointer (some ⟨g,0,none⟩)→g<b
 p6b:∀ g,p6= .pointer (some ⟨g,0,none⟩)→g<b
 ne:p5≠p6
 v:∃ v,OwnC hB h p6 [v]∧OwnW b h v out
theorem zBP {hB h h':AHeap} {p:Value} {cells:List Value} {b vn vk:Nat} {va:Option Addr} (o:OwnC hB h p cells) (hb:∀ g,p= .pointer (some ⟨g,0,none⟩)→g<b) (hv:∀ g,va=some ⟨g,0,none⟩→b≤g)
  (keep:∀ k,k<h.n→(∀ n k',Value.slice va vn vk≠ .slice (some ⟨k,0,none⟩) n k')→h'.get k=h.get k) (hn:h.n≤h'.n):OwnC hB h' p cells:=by
 obtain⟨g,g1,g2,rfl,g4⟩:=o;refine⟨g,g1,Nat.lt_of_lt_of_le g2 hn,rfl,(keep g g2 fun n k' e=> ?_).trans g4⟩;cases e;have h1:=hb g rfl;have h2:=hv g rfl;omega
theorem zDt {hB h h':AHeap} {p q:Value} {cells:List Value} (o:OwnC hB h p cells) (u:UpdC q h h') (hne:p≠q):OwnC hB h' p cells:=by
 obtain⟨g,g1,g2,rfl,g4⟩:=o;exact⟨g,g1,Nat.lt_of_lt_of_le g2 u.1,rfl,(u.2 g g2 fun e=>hne e.symm).trans g4⟩
theorem YD {α:Type} {c b:Nat} {R:AHeap→List Value→α→Prop} {h:AHeap} {v:Value} {xs:List α} (ow:OwnR c R b h v xs):∃ a n k,v= .slice a n k∧∀ g,a=some ⟨g,0,none⟩→b≤g∧g<h.n:=by
 rcases ow with ⟨rfl,_⟩|⟨g,_,_,g1,g2,rfl,_⟩
 ·exact⟨_,_,_,rfl,fun g e=>by cases e⟩
 ·exact⟨_,_,_,rfl,fun g' e=>by cases e;exact⟨g1,g2⟩⟩
def body77:ACode:=(.seq (oR [oX 5 0,oX 6 1]) (.seq (oR [oL 9 3,oF 1 10 5,oL 11 10,oF 1 12 6,oL 13 12,⟨some 14,none,(.call (.tmp 9) [(.tmp 11),(.tmp 13)])⟩,oM 8 14]) (.seq (oR [oM 15 8,⟨some 16,none,(.bin .neq (.tmp 15) (.const (.int .u64 0)))⟩]) (.cond (.tmp 16) (oR [oL 17 4,oM 18 2,oM 19 8,⟨some 20,none,(.build [(.int .i64 0),(.int .u64 0)] [(0,1,(.tmp 18)),(1,1,(.tmp 19))])⟩,⟨some 21,none,(.buildSlice 1 2 [(.int .i64 0),(.int .u64 0)] [(0,2,(.tmp 20))])⟩,oY 2 22 17 21,oS 1 4 22]) .skip))))
theorem tab77:tb.code 77=some ⟨23,[],body77⟩:=by kernel_rfl
theorem zAf (hB h:AHeap) (b:Nat) (p5 p6 fv:Value) (f:Nat→Nat→Nat) (hf:DoOk fv f) (out:List LWd) (x y:LWd) (at':Int) (S:PutS hB h b p5 p6 fv out) (hx:x.bits<18446744073709551616) (hy:y.bits<18446744073709551616) (hl:out.length≤100000)
  (hz:f x.bits y.bits<18446744073709551616) (ha: -9223372036854775808≤at'∧at'≤9223372036854775807) (hm:h.mark≤h.n):
  WC Tryz.prog tb 77 [.agg #[I x.pos,W x.bits],.agg #[I y.pos,W y.bits],I at',p5,p6] h fun r h'=>PutS hB h' b p5 p6 fv (putL at' (f x.bits y.bits) out)∧h.n≤h'.n∧(∀ k∈h'.wr,k∈h.wr∨hB.n≤k)∧
   (∀ p cells,OwnC hB h p cells→p≠p6→(∀ g,p= .pointer (some ⟨g,0,none⟩)→g<b)→OwnC hB h' p cells):=by
 obtain⟨e0,o5,⟨b1,b2⟩,h5,h6,hne,v,o6,ow⟩:=S;obtain⟨va,vn,vk,rfl,hvn⟩:=YD ow;refine WC.of (zE 77) tab77 ?_;simp only[zK,Nat.zero_add,Nat.reduceAdd];refine go ?_;refine WO.bx ?_;intro p3 h1 e1 o3;refine go ?_;refine WO.bx ?_;intro p4 h2 e2 o4;have o3:=o3.ext e2;have o5':=o5.ext (e1.trans e2);have o6':=o6.ext (e1.trans e2);have ow':=OwnR.ext ow (e1.trans e2);have e02:=e0.trans (e1.trans e2);have hn12:=(e1.trans e2).n;refine go ?_;refine WO.conV (hf h2 x.bits y.bits hx hy) ?_;rintro _ _ ⟨rfl,rfl⟩;have hw12:h2.wr=h.wr:=(e1.trans e2).wr hm;refine go ?_;refine WX.br (fun hc=> ?_) (fun hc=> ?_)<;>simp only[DB]at hc
 ·refine go ?_;refine WO.apRw (b:=b) (R:=RW) (h:=h2) ⟨at',f x.bits y.bits⟩ (fun _=>False) ow' e02 b1 (by omega) (by decide) hl (RW.dep hz ha.1 ha.2 _) (fun k hk=>hk.elim) (fun _ _ _ _ h=>h) ?_;intro v' h3 lit e3 ow3 n3 keep3 w3;obtain⟨va',vn',vk',rfl,hvn'⟩:=YD ow3;have hvb:∀ g,va=some ⟨g,0,none⟩→b≤g:=fun g e=>(hvn g e).1;have o6'':OwnC hB h3 p6 [.slice va vn vk]:=zBP o6' h6 hvb keep3 n3;refine go ?_;refine WO.stC0w (cs:=[.slice va' vn' vk']) o6'' e3 ?_;intro h4 e4 o4' u4 w4;refine go ?_;refine rtN ?_;refine⟨⟨e4,zDt (zBP o5' h5 hvb keep3 n3) u4 hne,⟨b1,by have:=u4.1;omega⟩,h5,h6,hne,_,o4',?_⟩,by have:=u4.1;omega,fun k hk=> ?_,fun p cells o hp hpb=>zDt (zBP (o.ext (e1.trans e2)) hpb hvb keep3 n3) u4 hp⟩
  ·unfold putL;rw[if_neg (by omega)];refine OwnR.upd ow3 (fun k k1 k2=>u4.2 k k2 fun e=> ?_) u4.1;have:=h6 k e;omega
  ·rcases w4 k hk with h|h
   ·rcases w3 k h with h|h
    ·rw[hw12]at h;exact .inl h
    ·exact .inr (by omega)
   ·exact .inr h
 ·refine go ?_;refine rtN ?_;refine⟨⟨e02,o5',⟨b1,by omega⟩,h5,h6,hne,_,o6',?_⟩,hn12,fun k hk=> ?_,fun p cells o _ _=>o.ext (e1.trans e2)⟩
  ·unfold putL;rw[if_pos (by omega)];exact ow'
  ·rw[hw12]at hk;exact .inl hk
theorem PutS.enter {hB h X:AHeap} {b:Nat} {p5 p6 fv:Value} {out:List LWd} (S:PutS hB h b p5 p6 fv out) (e:Ext (inC (zB 0 h)) X):PutS {hB with mark:=X.n,wr:=[]} (inC X) b p5 p6 fv out:=by
 obtain⟨e0,o5,⟨b1,b2⟩,h5,h6,hne,v,o6,ow⟩:=S;have o5:OwnC hB X p5 [fv]:=OwnC.ext (h:=inC (zB 0 h)) o5 e;have o6:OwnC hB X p6 [v]:=OwnC.ext (h:=inC (zB 0 h)) o6 e;have ow:OwnW b X v out:=OwnR.upd ow (fun k _ hk=>e.get k hk) e.n;have hn:h.n≤X.n:=e.n;refine⟨⟨Nat.le_trans e0.n hn,fun g hg=>(e.get g (Nat.lt_of_lt_of_le hg e0.n)).trans (e0.get g hg),fun w=>e.wf (e0.wf w),rfl,fun _=>rfl⟩,o5,⟨b1,Nat.le_trans b2 hn⟩,h5,h6,hne,v,o6,OwnR.upd ow (fun _ _ _=>rfl) (Nat.le_refl _)⟩
theorem PutS.leave {hB h h':AHeap} {b m:Nat} {p5 p6 fv:Value} {out:List LWd} (S:PutS {hB with mark:=m,wr:=[]} h' b p5 p6 fv out) (e:Ext hB h):PutS hB (outC h h') b p5 p6 fv out:=by
 obtain⟨e0,o5,⟨b1,b2⟩,h5,h6,hne,v,o6,ow⟩:=S;exact⟨⟨e0.n,e0.get,fun w=>e0.wf w,e.mark,fun hm=>e.wr hm⟩,o5,⟨b1,b2⟩,h5,h6,hne,v,o6,OwnR.upd ow (fun _ _ _=>rfl) (Nat.le_refl _)⟩
theorem zHt {f:Nat→Nat→Nat} {A B:List LWd} (hA:0<A.length) (h:B.length=0∨(A.getD 0 default).pos<(B.getD 0 default).pos):ze f A B=zAG (A.getD 0 default).pos (f (A.getD 0 default).bits 0) (ze f (A.drop 1) B):=by
 cases A with
 |nil=>simp at hA
 |cons x a=>
  cases B with
  |nil=>rw[ze];rfl
  |cons y b=>
   have h:x.pos<y.pos:=h.resolve_left (by simp);rw[ze,if_pos h];rfl
theorem zIA {f:Nat→Nat→Nat} {A B:List LWd} (hB:0<B.length) (h:A.length=0∨(B.getD 0 default).pos<(A.getD 0 default).pos):ze f A B=zAG (B.getD 0 default).pos (f 0 (B.getD 0 default).bits) (ze f A (B.drop 1)):=by
 cases B with
 |nil=>simp at hB
 |cons y b=>
  cases A with
  |nil=>rw[ze];rfl
  |cons x a=>
   have h:y.pos<x.pos:=h.resolve_left (by simp);rw[ze,if_neg (by omega),if_pos h];rfl
theorem merge_c {f:Nat→Nat→Nat} {A B:List LWd} (hA:0<A.length) (hB:0<B.length) (h:(A.getD 0 default).pos=(B.getD 0 default).pos):ze f A B=zAG (A.getD 0 default).pos (f (A.getD 0 default).bits (B.getD 0 default).bits) (ze f (A.drop 1) (B.drop 1)):=by
 cases A with
 |nil=>simp at hA
 |cons x a=>
  cases B with
  |nil=>simp at hB
  |cons y b=>
   have h:x.pos=y.pos:=h;rw[ze,if_neg (by omega),if_neg (by omega)];rfl
theorem zAd {p:Int} {v:Nat} {out:List LWd}:(putL p v out).length≤out.length+1:=by
 unfold putL;split<;>simp
theorem zHy {h h':AHeap} (e:Ext (inC (zB 0 h)) h'):Ext h (outC h (inC h')):=⟨e.n,e.get,fun w=>e.wf w,rfl,fun _=>rfl⟩
theorem zGb {h h' h2:AHeap} (e:Ext (inC (zB 0 h)) h') (e2:Ext (inC h') h2):Ext h (outC h (inC h2)):=⟨Nat.le_trans e.n e2.n,fun g hg=>(e2.get g (Nat.lt_of_lt_of_le hg e.n)).trans (e.get g hg),fun w=>e2.wf (e.wf w),rfl,fun _=>rfl⟩
theorem PutS.ext {hB h h':AHeap} {b:Nat} {p5 p6 fv:Value} {out:List LWd} (S:PutS hB h b p5 p6 fv out) (e:Ext h h'):PutS hB h' b p5 p6 fv out:=by
 obtain⟨e0,o5,⟨b1,b2⟩,h5,h6,hne,v,o6,ow⟩:=S;exact⟨e0.trans e,o5.ext e,⟨b1,Nat.le_trans b2 e.n⟩,h5,h6,hne,v,o6.ext e,OwnR.ext ow e⟩
theorem zHU (h:AHeap):outC h (inC (zB 0 h))=h:=rfl
def body75_0:ACode:=(.seq (.seq (oR [oM 9 0,oQ 10 9,oC .gtr 11 10 0,oM 12 11,oH 12 (oM 13 1),oH 12 (oQ 14 13),oH 12 (oC .gtr 15 14 0),oO 16 12 15]) (oT 16 0)) (.block 1 (.block 2 (.seq (.regionC [oU (oM 35 1),oU (oQ 36 35),oU (oC .eql 37 36 0),oU (oM 38 37),oU (oH 38 (oM 39 0)),oU (oH 38 (oQ 40 39)),oU (oH 38 (oC .gtr 41 40 0)),oU (oH 38 (oM 42 41)),oU (oG 42 (oM 43 2)),oU (oG 42 (oM 44 0)),oU (⟨some 45,some (42,true),(.idx 2 (.tmp 44) (.const (.int .i64 0)))⟩),oU (oG 42 (oA 2 46 45)),oU (⟨some 47,some (42,true),(.call (.tmp 43) [(.tmp 46)])⟩),oU (oG 42 (oM 48 2)),oU (oG 42 (oM 49 1)),oU (⟨some 50,some (42,true),(.idx 2 (.tmp 49) (.const (.int .i64 0)))⟩),(oG 42 (oA 2 51 50),[12]),oU (⟨some 52,some (42,true),(.call (.tmp 48) [(.tmp 51)])⟩),oU (oG 42 (oB .lss 53 47 52)),oU (oH 38 (oP 54 42 53)),oU (oO 55 38 54),oU (oM 34 55)]) (.cond (.tmp 34) (.seq (.regionC [oU (oM 56 3),oU (oM 57 0),oU (⟨some 58,none,(.idx 2 (.tmp 57) (.const (.int .i64 0)))⟩),oU (oA 2 59 58),oU (oA 2 60 8),oU (oM 61 2),oU (oM 62 0),oU (⟨some 63,none,(.idx 2 (.tmp 62) (.const (.int .i64 0)))⟩),oU (oA 2 64 63),(⟨some 65,none,(.call (.tmp 61) [(.tmp 64)])⟩,[3,4]),oU (⟨some 66,none,(.call (.tmp 56) [(.tmp 59),(.tmp 60),(.tmp 65)])⟩)]) (oR [oM 67 0,⟨some 68,none,(.slice 2 (.tmp 67) (some (.const (.int .i64 1))) none none)⟩,oM 0 68])) (.seq (.regionC [oU (oM 70 0),oU (oQ 71 70),oU (oC .eql 72 71 0),oU (oM 73 72),oU (oH 73 (oM 74 2)),oU (oH 73 (oM 75 1)),oU (⟨some 76,some (73,false),(.idx 2 (.tmp 75) (.const (.int .i64 0)))⟩),oU (oH 73 (oA 2 77 76)),oU (⟨some 78,some (73,false),(.call (.tmp 74) [(.tmp 77)])⟩),oU (oH 73 (oM 79 2)),oU (oH 73 (oM 80 0)),oU (⟨some 81,some (73,false),(.idx 2 (.tmp 80) (.const (.int .i64 0)))⟩),(oH 73 (oA 2 82 81),[8]),oU (⟨some 83,some (73,false),(.call (.tmp 79) [(.tmp 82)])⟩),oU (oH 73 (oB .lss 84 78 83)),oU (oO 85 73 84),oU (oM 69 85)]) (.cond (.tmp 69) (.seq (.regionC [oU (oM 86 3),oU (oA 2 87 8),oU (oM 88 1),oU (⟨some 89,none,(.idx 2 (.tmp 88) (.const (.int .i64 0)))⟩),oU (oA 2 90 89),oU (oM 91 2),oU (oM 92 1),oU (⟨some 93,none,(.idx 2 (.tmp 92) (.const (.int .i64 0)))⟩),oU (oA 2 94 93),(⟨some 95,none,(.call (.tmp 91) [(.tmp 94)])⟩,[1,4]),oU (⟨some 96,none,(.call (.tmp 86) [(.tmp 87),(.tmp 90),(.tmp 95)])⟩)]) (oR [oM 97 1,⟨some 98,none,(.slice 2 (.tmp 97) (some (.const (.int .i64 1))) none none)⟩,oM 1 98])) (.seq (.regionC [oU (oM 17 3),oU (oM 18 0),oU (⟨some 19,none,(.idx 2 (.tmp 18) (.const (.int .i64 0)))⟩),oU (oA 2 20 19),oU (oM 21 1),oU (⟨some 22,none,(.idx 2 (.tmp 21) (.const (.int .i64 0)))⟩),oU (oA 2 23 22),oU (oM 24 2),oU (oM 25 0),oU (⟨some 26,none,(.idx 2 (.tmp 25) (.const (.int .i64 0)))⟩),oU (oA 2 27 26),(⟨some 28,none,(.call (.tmp 24) [(.tmp 27)])⟩,[3,6]),oU (⟨some 29,none,(.call (.tmp 17) [(.tmp 20),(.tmp 23),(.tmp 28)])⟩)]) (.regionC [oU (oM 30 0),oU (⟨some 31,none,(.slice 2 (.tmp 30) (some (.const (.int .i64 1))) none none)⟩),oU (oM 32 1),oU (⟨some 33,none,(.slice 2 (.tmp 32) (some (.const (.int .i64 1))) none none)⟩),oU (oM 0 31),oU (oM 1 33)])))))))))
def body75:ACode:=(.seq (oR [⟨some 8,none,(.alloc [(.int .i64 0),(.int .u64 0)])⟩]) (.block 0 (.loop body75_0)))
theorem tab75:tb.code 75=some ⟨99,[],body75⟩:=by kernel_rfl
theorem merge_ok (hB h:AHeap) (va vb p5 p6 fv:Value) (f:Nat→Nat→Nat) (hf:DoOk fv f) (hfz:∀ x y,x<18446744073709551616→y<18446744073709551616→f x y<18446744073709551616) (A B:List LWd) (ka:SlW hB va A) (kb:SlW hB vb B) (la:A.length≤1000) (lb:B.length≤1000)
  (e:Ext hB h) (hm:hB.mark≤hB.n) (o5:OwnC hB h p5 [fv]) (o6:OwnC hB h p6 [.slice none 0 0]) (hne:p5≠p6):
  WC Tryz.prog tb 75 [va,vb,.func (.func 76) #[] #[],.func (.func 77) #[] #[p5,p6]] h fun r h'=>Ext hB h'∧∃ v b,hB.n≤b∧OwnC hB h' p6 [v]∧OwnW b h' v (ze f A B)∧∀ g,p6= .pointer (some ⟨g,0,none⟩)→g<b:=by
 refine WC.of (zE 75) tab75 ?_;simp only[zK,Nat.zero_add,Nat.reduceAdd];refine go ?_;refine WO.al ?_;intro p8 h0 e0 o8;refine go ?_;obtain⟨g8,g81,g82,rfl,g84⟩:=id o8;have o8:=o8.since e;have S0:PutS hB h0 h0.n p5 p6 fv []:=⟨e.trans e0,o5.ext e0,⟨(e.trans e0).n,Nat.le_refl _⟩,fun g eg=>by
  obtain⟨g',_,a,b,_⟩:=o5;rw[b]at eg;cases eg;have:=e0.n;omega,fun g eg=>by
  obtain⟨g',_,a,b,_⟩:=o6;rw[b]at eg;cases eg;have:=e0.n;omega,hne,_,o6.ext e0,OwnR.nil⟩
 have h86:Value.pointer (some ⟨g8,0,none⟩)≠p6:=fun eq=>by
  obtain⟨g',_,a,b,_⟩:=o6;rw[b]at eq;cases eq;omega
 have hb8:∀ g,Value.pointer (some ⟨g8,0,none⟩)= .pointer (some ⟨g,0,none⟩)→g<h0.n:=fun g eg=>by cases eg;exact g82
 generalize hbb:h0.n=bb at S0 hb8;generalize Value.pointer (some ⟨g8,0,none⟩)=p8 at *;clear e0 g81 g82 g84 o5 o6;refine WX.loopA [9,10,11,12,13,14,15,16,35,36,37,38,39,40,41,42,43,44,45,46,47,48,49,50,51,52,53,54,55,34,56,57,58,59,60,61,62,63,64,65,66,67,68,0,70,71,72,73,74,75,76,77,78,79,80,81,82,83,84,85,69,86,87,88,89,90,91,92,93,94,95,96,97,98,1,17,18,19,20,21,22,23,24,25,26,27,28,29,30,31,32,33,0,1] (by kernel_rfl) (fun p:List LWd×List LWd=>p.1.length+p.2.length) (fun p t h1=>∃ va' vb' out,zC t 0=va'∧zC t 1=vb'∧SlW hB va' p.1∧SlW hB vb' p.2∧PutS hB h1 bb p5 p6 fv out∧OwnC hB h1 p8 [I 0,W 0]∧Hid (ze f A B=out++ze f p.1 p.2)∧p.1.length≤1000∧p.2.length≤1000∧out.length+(p.1.length+p.2.length)≤2000) (A,B) ?_ ?_
 ·exact⟨va,vb,[],sl_,sl_,ka,kb,S0,o8,⟨rfl⟩,la,lb,by simp only[List.length_nil];omega⟩
 clear S0 o8 ka kb la lb;rintro⟨a,b⟩ t h1 hsame ⟨va',vb',out,s0,s1,ka,kb,S,o8,hI,la,lb,lo⟩;simp only at ka kb hI la lb lo;have e1:=S.e;have ka1:=SlW.ext ka e1;have kb1:=SlW.ext kb e1;have hm1:h1.mark≤h1.n:=by have:=e1.mark;have:=e1.n;omega
 have hmB:h1.mark≤hB.n:=by have:=e1.mark;omega
 by_cases hA:0<a.length;case neg=>
  by_cases hBl:0<b.length;case neg=>
   refine go ?_;refine rtN ?_;obtain⟨e1,o5,⟨b1,b2⟩,h5,h6,hne,v,o6,ow⟩:=S;have:ze f a b=[]:=by
    have ha:a=[]:=List.eq_nil_of_length_eq_zero (by omega);have hb:b=[]:=List.eq_nil_of_length_eq_zero (by omega);subst ha hb;rw[ze]
   rw[hI.out,this,List.append_nil];exact⟨e1,v,bb,b1,o6,ow,h6⟩
  have hmg:=zIA (f:=f) hBl (.inl (by omega:a.length=0));have kaX:SlW (inC (zB 0 h1)) va' a:=ka1;have kbX:SlW (inC (zB 0 h1)) vb' b:=kb1;have o8X:OwnC hB (inC (zB 0 h1)) p8 [I 0,W 0]:=o8;obtain⟨cb,⟨rfl,y1,y2,y3⟩,pcb,hsb⟩:=zh kb1 hBl;have pcbX:=(pcb _ (Ext.refl _)).2;have pcbX:Piece (inC (zB 0 h1)) vb' (0 * 2) [I (b.getD 0 default).pos,W (b.getD 0 default).bits]:=pcbX;obtain⟨qa,qn,qk,hqv,hqb⟩:=Zd (i:=0) kb1 hBl;generalize b.getD 0 default=y at *;have hI:=hI.out.trans (congrArg (out++·) hmg);have hI:=Hid.mk hI;clear hmg;refine go ?_;refine WX.regionU2 0 rfl rfl ?_;refine goU ?_;refine uK2_gT ?_;refine goU ?_;rw[zHU];refine WX.regionU2 0 rfl rfl ?_;refine goU ?_;refine uK2_gF ?_;refine goU ?_;rw[zHU];refine WX.regionU2 0 rfl rfl ?_;refine goU ?_;refine WO.conV (WV.func (Zo _ y)) ?_;rintro _ h2 ⟨rfl,e2⟩;refine WO.nil ?_;refine yP e2 zM ?_;have S2:=S.enter e2;refine goU ?_;refine WO.conV (WV.func (zAf _ (inC h2) bb p5 p6 fv f hf out ⟨0,0⟩ y y.pos S2 (by decide) y1 (by omega) (hfz _ _ (by decide) y1) ⟨y2,y3⟩ (Nat.le_refl _))) ?_;rintro _ h3 ⟨S3,n3,w3,f3⟩;refine WO.nil ?_;refine zEl (fun k hk=> ?_) n3 ?_
  ·rcases w3 k hk with h|h
   ·cases h
   ·have h:hB.n≤k:=h;omega
  have S4:=S3.leave e1;have o84:OwnC hB (outC h1 h3) p8 [I 0,W 0]:=f3 p8 _ (by have:=OwnC.ext (h:=inC (zB 0 h1)) o8 e2;exact this) h86 hb8;generalize outC h1 h3=h4 at S4 o84 ⊢;obtain⟨vb2,hsl,kb2⟩:=Yy (i:=1) kb hBl (by omega);refine goU ?_;refine WO.slLo (i:=1) (hy:=rfl) hsl ?_;refine go ?_;have hpl:=zAd (p:=y.pos) (v:=f 0 y.bits) (out:=out);have hdl:(b.drop 1).length=b.length - 1:=List.length_drop ..;refine zA (a,b.drop 1) (by simp only;omega) ⟨va',vb2,_,sl_,sl_,ka,kb2,S4,o84,⟨?_⟩,la,by simp only;omega,by simp only;omega⟩;rw[Yv];exact hI.out
 by_cases hBl:0<b.length;case neg=>
  have hmg:=zHt (f:=f) hA (.inl (by omega:b.length=0));have kaX:SlW (inC (zB 0 h1)) va' a:=ka1;have kbX:SlW (inC (zB 0 h1)) vb' b:=kb1;have o8X:OwnC hB (inC (zB 0 h1)) p8 [I 0,W 0]:=o8;obtain⟨ca,⟨rfl,y1,y2,y3⟩,pca,hsa⟩:=zh ka1 hA;have pcaX:=(pca _ (Ext.refl _)).2;have pcaX:Piece (inC (zB 0 h1)) va' (0 * 2) [I (a.getD 0 default).pos,W (a.getD 0 default).bits]:=pcaX;generalize a.getD 0 default=y at *;have hI:=hI.out.trans (congrArg (out++·) hmg);have hI:=Hid.mk hI;clear hmg;refine go ?_;refine WX.regionU2 0 rfl rfl ?_;refine goU ?_;refine uK2_gU ?_;refine goU ?_;rw[zHU];refine WX.regionU2 0 rfl rfl ?_;refine goU ?_;refine WO.conV (WV.func (Zo _ y)) ?_;rintro _ h2 ⟨rfl,e2⟩;refine WO.nil ?_;refine yP e2 zM ?_;have S2:=S.enter e2;refine goU ?_;refine WO.conV (WV.func (zAf _ (inC h2) bb p5 p6 fv f hf out y ⟨0,0⟩ y.pos S2 y1 (by decide) (by omega) (hfz _ _ y1 (by decide)) ⟨y2,y3⟩ (Nat.le_refl _))) ?_;rintro _ h3 ⟨S3,n3,w3,f3⟩;refine WO.nil ?_;refine zEl (fun k hk=> ?_) n3 ?_
  ·rcases w3 k hk with h|h
   ·cases h
   ·have h:hB.n≤k:=h;omega
  have S4:=S3.leave e1;have o84:OwnC hB (outC h1 h3) p8 [I 0,W 0]:=f3 p8 _ (by have:=OwnC.ext (h:=inC (zB 0 h1)) o8 e2;exact this) h86 hb8;generalize outC h1 h3=h4 at S4 o84 ⊢;obtain⟨va2,hsl,ka2⟩:=Yy (i:=1) ka hA (by omega);refine goU ?_;refine WO.slLo (i:=1) (hy:=rfl) hsl ?_;refine go ?_;have hpl:=zAd (p:=y.pos) (v:=f y.bits 0) (out:=out);have hdl:(a.drop 1).length=a.length - 1:=List.length_drop ..;refine zA (a.drop 1,b) (by simp only;omega) ⟨va2,vb',_,sl_,sl_,ka2,kb,S4,o84,⟨?_⟩,by simp only;omega,lb,by simp only;omega⟩;rw[Yv];exact hI.out
 have kaX:SlW (inC (zB 0 h1)) va' a:=ka1;have kbX:SlW (inC (zB 0 h1)) vb' b:=kb1;have o8X:OwnC hB (inC (zB 0 h1)) p8 [I 0,W 0]:=o8;obtain⟨ca,⟨rfl,x1,x2,x3⟩,pca,hsa⟩:=zh ka1 hA;have pcaX:=(pca _ (Ext.refl _)).2;have pcaX:Piece (inC (zB 0 h1)) va' (0 * 2) [I (a.getD 0 default).pos,W (a.getD 0 default).bits]:=pcaX;obtain⟨cb,⟨rfl,y1,y2,y3⟩,pcb,hsb⟩:=zh kb1 hBl;have pcbX:=(pcb _ (Ext.refl _)).2;have pcbX:Piece (inC (zB 0 h1)) vb' (0 * 2) [I (b.getD 0 default).pos,W (b.getD 0 default).bits]:=pcbX;obtain⟨qa,qn,qk,hqv,hqb⟩:=Zd (i:=0) kb1 hBl;obtain⟨ra,rn,rk,hrv,hrb⟩:=Zd (i:=0) ka1 hA;have hma:=fun h=>zHt (f:=f) hA (.inr h:b.length=0∨(a.getD 0 default).pos<(b.getD 0 default).pos);have hmb:=fun h=>zIA (f:=f) hBl (.inr h:a.length=0∨(b.getD 0 default).pos<(a.getD 0 default).pos);have hmc:=merge_c (f:=f) hA hBl;generalize a.getD 0 default=x at *;generalize b.getD 0 default=y at *;have hma:=Hid.mk hma;have hmb:=Hid.mk hmb;have hmc:=Hid.mk hmc;refine go ?_;refine WX.regionU2 0 rfl rfl ?_;refine goU ?_;refine WO.conV (WV.func (Zo _ x)) ?_;rintro _ h2 ⟨rfl,e2⟩;refine WO.nil ?_;refine yP e2 zM ?_;have e3:Ext h1 (outC h1 (inC h2)):=zHy e2;have kaY:SlW (inC h2) va' a:=by have:=SlW.ext ka1 e3;exact this
 have kbY:SlW (inC h2) vb' b:=by have:=SlW.ext kb1 e3;exact this
 have pcbY:Piece (inC h2) vb' (0 * 2) [I y.pos,W y.bits]:=by have:=(pcb _ e3).2;exact this
 refine goU ?_;refine zH4 ⟨qa,qn,qk,hqv,hqb⟩ ?_;refine goU ?_;refine WO.conV (WV.func (Zo _ y)) ?_;rintro _ h4 ⟨rfl,e4⟩;refine WO.nil ?_;refine yP e4 zM ?_;have e5:Ext h1 (outC h1 (inC h4)):=zGb e2 e4;by_cases hlt:x.pos<y.pos
 ·have hI:=Hid.mk (hI.out.trans (congrArg (out++·) (hma.out hlt)));clear hma hmb hmc;refine goU ?_;generalize outC h1 (inC h4)=h5 at e5 ⊢;have S:=S.ext e5;have o8:=o8.ext e5;have e15:=e1.trans e5;have hmB:h5.mark≤hB.n:=by have:=e15.mark;omega
  have kaX:SlW (inC (zB 0 h5)) va' a:=by have:=SlW.ext ka1 e5;exact this
  have o8X:OwnC hB (inC (zB 0 h5)) p8 [I 0,W 0]:=o8;have pcaX:Piece (inC (zB 0 h5)) va' (0 * 2) [I x.pos,W x.bits]:=by have:=(pca _ e5).2;exact this
  refine WX.regionU2 0 rfl rfl ?_;refine goU ?_;refine WO.conV (WV.func (Zo _ x)) ?_;rintro _ h6 ⟨rfl,e6⟩;refine WO.nil ?_;refine yP e6 zM ?_;have S2:=S.enter e6;refine goU ?_;refine WO.conV (WV.func (zAf _ (inC h6) bb p5 p6 fv f hf out x ⟨0,0⟩ x.pos S2 x1 (by decide) (by omega) (hfz _ _ x1 (by decide)) ⟨x2,x3⟩ (Nat.le_refl _))) ?_;rintro _ h3 ⟨S3,n3,w3,f3⟩;refine WO.nil ?_;refine zEl (fun k hk=> ?_) n3 ?_
  ·rcases w3 k hk with h|h
   ·cases h
   ·have h:hB.n≤k:=h;omega
  have S4:=S3.leave e15;have o84:OwnC hB (outC h5 h3) p8 [I 0,W 0]:=f3 p8 _ (by have:=OwnC.ext (h:=inC (zB 0 h5)) o8 e6;exact this) h86 hb8;generalize outC h5 h3=h7 at S4 o84 ⊢;obtain⟨va2,hsl,ka2⟩:=Yy (i:=1) ka hA (by omega);refine goU ?_;refine WO.slLo (i:=1) (hy:=rfl) hsl ?_;refine go ?_;have hpl:=zAd (p:=x.pos) (v:=f x.bits 0) (out:=out);have hdl:(a.drop 1).length=a.length - 1:=List.length_drop ..;refine zA (a.drop 1,b) (by simp only;omega) ⟨va2,vb',_,sl_,sl_,ka2,kb,S4,o84,⟨?_⟩,by simp only;omega,lb,by simp only;omega⟩;rw[Yv];exact hI.out
 refine goU ?_;generalize outC h1 (inC h4)=h5 at e5 ⊢;clear e3 kaY kbY pcbY e2 e4 kaX kbX o8X pcaX pcbX;have S:=S.ext e5;have o8:=o8.ext e5;have e15:=e1.trans e5;have hmB:h5.mark≤hB.n:=by have:=e15.mark;omega
 have ka5:=SlW.ext ka1 e5;have kb5:=SlW.ext kb1 e5;have kaX:SlW (inC (zB 0 h5)) va' a:=ka5;have kbX:SlW (inC (zB 0 h5)) vb' b:=kb5;have o8X:OwnC hB (inC (zB 0 h5)) p8 [I 0,W 0]:=o8;have pcaX:Piece (inC (zB 0 h5)) va' (0 * 2) [I x.pos,W x.bits]:=by have:=(pca _ e5).2;exact this
 have pcbX:Piece (inC (zB 0 h5)) vb' (0 * 2) [I y.pos,W y.bits]:=by have:=(pcb _ e5).2;exact this
 refine WX.regionU2 0 rfl rfl ?_;refine goU ?_;refine WO.conV (WV.func (Zo _ y)) ?_;rintro _ h2 ⟨rfl,e2⟩;refine WO.nil ?_;refine yP e2 zM ?_;have e3:Ext h5 (outC h5 (inC h2)):=zHy e2;have kaY:SlW (inC h2) va' a:=by have:=SlW.ext ka5 e3;exact this
 have pcaY:Piece (inC h2) va' (0 * 2) [I x.pos,W x.bits]:=by have:=(pca _ (e5.trans e3)).2;exact this
 have hrb5:ra.block<h5.n:=Nat.lt_of_lt_of_le hrb e5.n;have hqb5:qa.block<h5.n:=Nat.lt_of_lt_of_le hqb e5.n;refine goU ?_;refine zH4 ⟨ra,rn,rk,hrv,hrb5⟩ ?_;refine goU ?_;refine WO.conV (WV.func (Zo _ x)) ?_;rintro _ h4 ⟨rfl,e4⟩;refine WO.nil ?_;refine yP e4 zM ?_;have e6:Ext h5 (outC h5 (inC h4)):=zGb e2 e4;by_cases hgt:y.pos<x.pos
 ·have hI:=Hid.mk (hI.out.trans (congrArg (out++·) (hmb.out hgt)));clear hma hmb hmc;refine goU ?_;generalize outC h5 (inC h4)=h6 at e6 ⊢;have S:=S.ext e6;have o8:=o8.ext e6;have e16:=e15.trans e6;have hmB:h6.mark≤hB.n:=by have:=e16.mark;omega
  have kbX:SlW (inC (zB 0 h6)) vb' b:=by have:=SlW.ext kb5 e6;exact this
  have o8X:OwnC hB (inC (zB 0 h6)) p8 [I 0,W 0]:=o8;have pcbX:Piece (inC (zB 0 h6)) vb' (0 * 2) [I y.pos,W y.bits]:=by have:=(pcb _ (e5.trans e6)).2;exact this
  refine WX.regionU2 0 rfl rfl ?_;refine goU ?_;refine WO.conV (WV.func (Zo _ y)) ?_;rintro _ h7 ⟨rfl,e7⟩;refine WO.nil ?_;refine yP e7 zM ?_;have S2:=S.enter e7;refine goU ?_;refine WO.conV (WV.func (zAf _ (inC h7) bb p5 p6 fv f hf out ⟨0,0⟩ y y.pos S2 (by decide) y1 (by omega) (hfz _ _ (by decide) y1) ⟨y2,y3⟩ (Nat.le_refl _))) ?_;rintro _ h3 ⟨S3,n3,w3,f3⟩;refine WO.nil ?_;refine zEl (fun k hk=> ?_) n3 ?_
  ·rcases w3 k hk with h|h
   ·cases h
   ·have h:hB.n≤k:=h;omega
  have S4:=S3.leave e16;have o84:OwnC hB (outC h6 h3) p8 [I 0,W 0]:=f3 p8 _ (by have:=OwnC.ext (h:=inC (zB 0 h6)) o8 e7;exact this) h86 hb8;generalize outC h6 h3=h8 at S4 o84 ⊢;obtain⟨vb2,hsl,kb2⟩:=Yy (i:=1) kb hBl (by omega);refine goU ?_;refine WO.slLo (i:=1) (hy:=rfl) hsl ?_;refine go ?_;have hpl:=zAd (p:=y.pos) (v:=f 0 y.bits) (out:=out);have hdl:(b.drop 1).length=b.length - 1:=List.length_drop ..;refine zA (a,b.drop 1) (by simp only;omega) ⟨va',vb2,_,sl_,sl_,ka,kb2,S4,o84,⟨?_⟩,la,by simp only;omega,by simp only;omega⟩;rw[Yv];exact hI.out
 have hI:=Hid.mk (hI.out.trans (congrArg (out++·) (hmc.out (by omega))));clear hma hmb hmc;refine goU ?_;generalize outC h5 (inC h4)=h6 at e6 ⊢;clear kaX kbX o8X pcaX pcbX kaY pcaY;have S:=S.ext e6;have o8:=o8.ext e6;have e16:=e15.trans e6;have hmB:h6.mark≤hB.n:=by have:=e16.mark;omega
 have kaX:SlW (inC (zB 0 h6)) va' a:=by have:=SlW.ext ka5 e6;exact this
 have kbX:SlW (inC (zB 0 h6)) vb' b:=by have:=SlW.ext kb5 e6;exact this
 have o8X:OwnC hB (inC (zB 0 h6)) p8 [I 0,W 0]:=o8;have pcaX:Piece (inC (zB 0 h6)) va' (0 * 2) [I x.pos,W x.bits]:=by have:=(pca _ (e5.trans e6)).2;exact this
 have pcbX:Piece (inC (zB 0 h6)) vb' (0 * 2) [I y.pos,W y.bits]:=by have:=(pcb _ (e5.trans e6)).2;exact this
 refine WX.regionU2 0 rfl rfl ?_;refine goU ?_;refine WO.conV (WV.func (Zo _ x)) ?_;rintro _ h7 ⟨rfl,e7⟩;refine WO.nil ?_;refine yP e7 zM ?_;have S2:=S.enter e7;refine goU ?_;refine WO.conV (WV.func (zAf _ (inC h7) bb p5 p6 fv f hf out x y x.pos S2 x1 y1 (by omega) (hfz _ _ x1 y1) ⟨x2,x3⟩ (Nat.le_refl _))) ?_;rintro _ h3 ⟨S3,n3,w3,f3⟩;refine WO.nil ?_;refine zEl (fun k hk=> ?_) n3 ?_
 ·rcases w3 k hk with h|h
  ·cases h
  ·have h:hB.n≤k:=h;omega
 have S4:=S3.leave e16;have o84:OwnC hB (outC h6 h3) p8 [I 0,W 0]:=f3 p8 _ (by have:=OwnC.ext (h:=inC (zB 0 h6)) o8 e7;exact this) h86 hb8;generalize outC h6 h3=h8 at S4 o84 ⊢;obtain⟨va2,hsa2,ka2⟩:=Yy (i:=1) ka hA (by omega);obtain⟨vb2,hsb2,kb2⟩:=Yy (i:=1) kb hBl (by omega);refine goU ?_;refine WO.slLo (i:=1) (hy:=rfl) hsa2 ?_;refine go ?_;refine WO.slLo (i:=1) (hy:=rfl) hsb2 ?_;refine go ?_;have hpl:=zAd (p:=x.pos) (v:=f x.bits y.bits) (out:=out);have hda:(a.drop 1).length=a.length - 1:=List.length_drop ..;have hdb:(b.drop 1).length=b.length - 1:=List.length_drop ..;refine zA (a.drop 1,b.drop 1) (by simp only;omega) ⟨va2,vb2,_,sl_,sl_,ka2,kb2,S4,o84,⟨?_⟩,by simp only;omega,by simp only;omega,by simp only;omega⟩;rw[Yv];exact hI.out
def zCW (A B:List LWd):Int:=if z0 (-1) A&&z0 (-1) B then 0 else 8
def zEA (f:Nat→Nat→Nat) (A B:List LWd):List LWd:=if z0 (-1) A&&z0 (-1) B then ze f A B else []
def MineW (h h':AHeap) (v:Value) (s:List LWd):Prop:=∃ b,h.n≤b∧OwnW b h' v s
theorem MineW.sl {h h' v s} (m:MineW h h' v s):SlW h' v s:=let ⟨_,_,o⟩:=m;OwnR.sl o
theorem MineW.ext {h h1 h2 v s} (m:MineW h h1 v s) (e:Ext h1 h2):MineW h h2 v s:=let ⟨b,hb,o⟩:=m;⟨b,hb,OwnR.ext o e⟩
theorem MineW.nil {h h':AHeap}:MineW h h' (.slice none 0 0) []:=⟨h.n,Nat.le_refl _,OwnR.nil⟩
section
variable {P:Program} {tab:Tab} {t:Trie Value} {h:AHeap} {ds:List Deferred} {rd:Option Nat} {l:List AOper} {Q:AFr→AHeap→Prop}
theorem WO.max2 {d:Nat} {x y:Operand} {a b r:Int} (hr:r=if a<b then b else a) (k:WO P tab l ⟨t.set d (I r),ds,rd⟩ h Q) (hx:Ope t x (I a):=by exact zV) (hy:Ope t y (I b):=by exact zV):WO P tab (⟨some d,none,.maxmin true [x,y]⟩::l) ⟨t,ds,rd⟩ h Q:=by
 have hx:ev t x=I a:=hx;have hy:ev t y=I b:=hy;refine WO.op (I r) h rfl ?_ k;subst hr;simp only[aop,hx,hy,List.map_cons,List.map_nil];rfl
end
def body64:ACode:=(.seq (oR [oX 5 2,⟨some 6,none,(.alloc [(.slice none 0 0)])⟩,oN 7 0]) (.seq (.seq (oR [oM 9 0,o1 10 26 9,oM 11 1,o1 12 26 11,⟨some 13,none,(.maxmin true [(.tmp 10),(.tmp 12)])⟩,oM 8 13]) (.seq (oR [oM 14 8,oC .neq 15 14 0]) (.cond (.tmp 15) (.seq (oR [oM 16 8,⟨none,none,(.store 1 (.tmp 6) (.const (.slice none 0 0)))⟩,oM 7 16]) .ret) .skip))) (.seq (oR [oM 17 0,oM 18 1,⟨some 19,none,(.mkFunc (.func 77) [] [(.tmp 5),(.tmp 6)])⟩,⟨some 20,none,(.call (.func 75) [(.tmp 17),(.tmp 18),(.func 76),(.tmp 19)])⟩]) (.seq (oR [oL 21 6,oS 1 6 21,oN 7 0]) .ret))))
theorem tab64:tb.code 64=some ⟨22,[(6,some (false,1)),(7,none)],body64⟩:=by kernel_rfl
theorem zIE (h:AHeap) (va vb fv:Value) (f:Nat→Nat→Nat) (hf:DoOk fv f) (hfz:∀ x y,x<18446744073709551616→y<18446744073709551616→f x y<18446744073709551616) (hfc:fv.cells=#[fv]) (A B:List LWd) (ka:SlW h va A) (kb:SlW h vb B) (la:A.length≤1000) (lb:B.length≤1000) (hm:h.mark≤h.n):
  WC Tryz.prog tb 64 [va,vb,fv] h fun r h'=>(∃ v,r= .tuple #[v,I (zCW A B)]∧MineW h h' v (zEA f A B))∧Ext h h':=by
 refine WC.of (zE 64) tab64 ?_;simp only[zK,Nat.zero_add,Nat.reduceAdd];refine go ?_;refine WO.bx ?_;intro p5 h1 e1 o5;rw[hfc]at o5;have o5:OwnC h h1 p5 [fv]:=o5;refine go ?_;refine WO.al ?_;intro p6 h2 e2 o6;have o5':=o5.ext e2;have e12:=e1.trans e2;have hne:p5≠p6:=fun e=>by
  obtain⟨g,_,g2,a,_⟩:=o5;obtain⟨g',g1,_,b,_⟩:=o6;rw[a,b]at e;cases e;omega
 have ka2:=SlW.ext ka e12;refine go ?_;refine WO.con (zCM h2 va A ka2 (by omega)) ?_;rintro _ h3 ⟨rfl,e3⟩;have kb3:=SlW.ext kb (e12.trans e3);refine go ?_;refine WO.con (zCM h3 vb B kb3 (by omega)) ?_;rintro _ h4 ⟨rfl,e4⟩;have e14:=e12.trans (e3.trans e4);have o5:=o5'.ext (e3.trans e4);have o6:=o6.ext (e3.trans e4);have o6h:=o6.since e1;have hm4:h4.mark≤h4.n:=by have:=e14.mark;have:=e14.n;omega
 refine go ?_;refine WO.max2 (a:=errW (z0 (-1) A)) (b:=errW (z0 (-1) B)) (r:=zCW A B) (by unfold zCW errW;cases z0 (-1) A<;>cases z0 (-1) B<;>rfl) ?_;have hE:zCW A B=if (z0 (-1) A&&z0 (-1) B)=true then 0 else 8:=rfl;have hL:zEA f A B=if (z0 (-1) A&&z0 (-1) B)=true then ze f A B else []:=rfl;by_cases hc:(z0 (-1) A&&z0 (-1) B)=true
 ·rw[if_pos hc]at hE hL;rw[hE,hL];refine go ?_;refine WO.con (merge_ok h h4 va vb p5 p6 fv f hf hfz A B ka kb la lb e14 hm o5 o6h hne) ?_;rintro _ h5 ⟨e5,v,b,hb,o65,ow,h6b⟩;obtain⟨va',vn',vk',rfl,hvn⟩:=YD ow;refine go ?_;refine WO.stC0 (cs:=[.slice va' vn' vk']) o65 e5 ?_;intro h6 e6 o66 u6;refine go ?_;refine rt (vs:=[.slice va' vn' vk',I 0]) ?_ (Res.consB sl_ o66 rfl (Res.cons sl_ Res.nil));exact⟨⟨_,rfl,b,hb,OwnR.upd ow (fun k k1 k2=>u6.2 k k2 fun e=>by have:=h6b k e;omega) u6.1⟩,e6⟩
 ·rw[if_neg hc]at hE hL;rw[hE,hL];refine go ?_;refine WO.stC0 (cs:=[.slice none 0 0]) o6h e14 ?_;intro h6 e6 o66 u6;refine go ?_;refine rt (vs:=[.slice none 0 0,I 8]) ?_ (Res.consB sl_ o66 rfl (Res.cons sl_ Res.nil));exact⟨⟨_,rfl,MineW.nil⟩,e6⟩
theorem bit_or:Bitw (fun a b=>a|||b) (fun a b=>a||b):=⟨rfl,fun a b ha hb=>⟨(u_or ha hb).2,fun i=>Nat.testBit_or ..⟩⟩
theorem bit_not:Bitw zCC (fun a b=>a&& !b):=⟨rfl,fun a b ha hb=>(u_notN ha hb).2⟩
def body45:ACode:=(.seq (oR [oK 4 (.slice none 0 0),oN 5 0]) (.seq (oR [oM 6 0,oM 7 1,⟨some 8,none,(.call (.func 64) [(.tmp 6),(.tmp 7),(.func 65)])⟩,oE 9 8 0,oE 10 8 1,oM 4 9,oM 5 10]) .ret))
theorem tab45:tb.code 45=some ⟨11,[(4,none),(5,none)],body45⟩:=by kernel_rfl
theorem or_ok (h:AHeap) (va vb:Value) (A B:List LWd) (ka:SlW h va A) (kb:SlW h vb B) (la:A.length≤1000) (lb:B.length≤1000) (hm:h.mark≤h.n):
  WC Tryz.prog tb 45 [va,vb] h fun r h'=>(∃ v,r= .tuple #[v,I (zCW A B)]∧MineW h h' v (zEA (fun a b=>a|||b) A B))∧Ext h h':=by
 refine WC.of (zE 45) tab45 ?_;simp only[zK,Nat.zero_add,Nat.reduceAdd];refine go ?_;refine WO.con (zIE h va vb (.func (.func 65) #[] #[]) (fun a b=>a|||b) (fun h a b ha hb=>WV.func (or1_ok h a b ha hb)) (fun x y hx hy=>(bit_or.bit x y hx hy).1) rfl A B ka kb la lb hm) ?_;rintro _ h1 ⟨⟨v,rfl,m⟩,e1⟩;refine go ?_;refine rt ?_;exact⟨⟨v,rfl,m⟩,e1⟩
def body53:ACode:=(.seq (oR [oK 4 (.slice none 0 0),oN 5 0]) (.seq (oR [oM 6 0,oM 7 1,⟨some 8,none,(.call (.func 64) [(.tmp 6),(.tmp 7),(.func 72)])⟩,oE 9 8 0,oE 10 8 1,oM 4 9,oM 5 10]) .ret))
theorem tab53:tb.code 53=some ⟨11,[(4,none),(5,none)],body53⟩:=by kernel_rfl
theorem minus_ok (h:AHeap) (va vb:Value) (A B:List LWd) (ka:SlW h va A) (kb:SlW h vb B) (la:A.length≤1000) (lb:B.length≤1000) (hm:h.mark≤h.n):
  WC Tryz.prog tb 53 [va,vb] h fun r h'=>(∃ v,r= .tuple #[v,I (zCW A B)]∧MineW h h' v (zEA zCC A B))∧Ext h h':=by
 refine WC.of (zE 53) tab53 ?_;simp only[zK,Nat.zero_add,Nat.reduceAdd];refine go ?_;refine WO.con (zIE h va vb (.func (.func 72) #[] #[]) zCC (fun h a b ha hb=>WV.func (zJL h a b ha hb)) (fun x y hx hy=>(bit_not.bit x y hx hy).1) rfl A B ka kb la lb hm) ?_;rintro _ h1 ⟨⟨v,rfl,m⟩,e1⟩;refine go ?_;refine rt ?_;exact⟨⟨v,rfl,m⟩,e1⟩
theorem w_ext {a b:LWd} (h1:a.pos=b.pos) (h2:a.bits=b.bits):a=b:=by cases a;cases b;cases h1;cases h2;rfl
theorem lw_ext {A B:List LWd} (hl:A.length=B.length) (h:∀ i,i<A.length→A.getD i default=B.getD i default):A=B:=by
 refine List.ext_getElem hl fun i h1 h2=> ?_;have:=h i h1;rwa [List.getD_eq_getElem?_getD,List.getD_eq_getElem?_getD,List.getElem?_eq_getElem h1,List.getElem?_eq_getElem h2]at this
theorem eq_wd (x y:LWd):YF [I x.pos,W x.bits] [I y.pos,W y.bits]=decide (x=y):=by
 by_cases h:x=y
 ·subst h;simp[YF,zBy,I]
 ·rw[decide_eq_false h];cases hb:YF [I x.pos,W x.bits] [I y.pos,W y.bits]with
  |false=>rfl
  |true=>
   exfalso;simp[YF,zBy,I]at hb;exact h (w_ext hb.1 (by omega))
def body66_0:ACode:=(.seq (oR [oB .lss 14 13 12]) (.seq (oT 14 0) (.seq (.block 1 (.seq (oR [oM 15 13,oM 5 15]) (.seq (.regionC [oU (oM 16 0),oU (oM 17 5),oU (oI 2 18 16 17),oU (oA 2 19 18),oU (oM 20 1),oU (oM 21 5),oU (oI 2 22 20 21),oU (oA 2 23 22),oU (⟨some 24,none,(.binP .neq 92 (.tmp 19) (.tmp 23))⟩)]) (.cond (.tmp 24) (.seq (oR [oZ 4]) .ret) .skip)))) (oR [oC .add 25 13 1,oM 13 25]))))
def body66:ACode:=(.seq (oR [oZ 4]) (.seq (.seq (oR [oM 6 0,oQ 7 6,oM 8 1,oQ 9 8,oB .neq 10 7 9]) (.cond (.tmp 10) (.seq (oR [oZ 4]) .ret) .skip)) (.seq (.seq (oR [oM 11 0,oQ 12 11,oN 13 0]) (.block 0 (.loop body66_0))) (.seq (oR [oK 4 (.bool true)]) .ret))))
theorem tab66:tb.code 66=some ⟨26,[(4,none)],body66⟩:=by kernel_rfl
theorem equal_ok (h:AHeap) (va vb:Value) (A B:List LWd) (ka:SlW h va A) (kb:SlW h vb B) (la:(A.length:Int)≤1000000000):WC Tryz.prog tb 66 [va,vb] h fun r h'=>r= .bool (decide (A=B))∧h=h':=by
 refine WC.of (zE 66) tab66 ?_;simp only[zK,Nat.zero_add,Nat.reduceAdd];by_cases hl:A.length=B.length;case neg=>
  refine go ?_;refine rt ?_;exact⟨by rw[decide_eq_false (fun e=>hl (by rw[e]))];rfl,rfl⟩
 refine go ?_;refine WX.loopA [14,15,5,16,17,18,19,20,21,22,23,24,4,25,13] (by kernel_rfl) (fun i=>A.length - i) (fun i t h1=>h=h1∧zC t 13=I i∧i≤A.length∧Hid (∀ j,j<i→A.getD j default=B.getD j default)) 0 ?_ ?_
 ·exact⟨rfl,sl_,Nat.zero_le _,⟨fun j hj=>absurd hj (Nat.not_lt_zero _)⟩⟩
 rintro i t _ hsame ⟨rfl,s13,hi,hI⟩;refine go ?_;refine WX.br (fun hb=> ?_) (fun hb=> ?_)<;>simp only[DB]at hb
 ·obtain⟨ca,⟨rfl,x1,x2,x3⟩,pca,hsa⟩:=zCc ka (show i<A.length by omega);obtain⟨cb,⟨rfl,y1,y2,y3⟩,pcb,hsb⟩:=zCc kb (show i<B.length by omega);refine go ?_;refine WO.bp (ne_chk (xs:=#[I (A.getD i default).pos,W (A.getD i default).bits]) (ys:=#[I (B.getD i default).pos,W (B.getD i default).bits]) (b:=decide (A.getD i default=B.getD i default)) (by kernel_rfl) (eq_wd _ _)) ?_;refine go ?_;repeat' (first|(refine WX.br (fun hb=> ?_) (fun hb=> ?_)<;>(try simp only[DB]at hb)<;>refine go ?_)|(refine WO.sp (fun hb=> ?_) (fun hb=> ?_)<;>(try simp only[DB]at hb)<;>refine go ?_))
  ·refine rt ?_;refine⟨?_,rfl⟩;rw[decide_eq_false (fun e=>by subst e;exact hb rfl)];rfl
  ·refine zA (i+1) (by omega) ⟨rfl,sln,by omega,⟨fun j hj=> ?_⟩⟩;by_cases e:j=i
   ·subst e;exact hb
   ·exact hI.out j (by omega)
 ·refine go ?_;refine rt ?_;exact⟨by rw[decide_eq_true (lw_ext hl fun j hj=>hI.out j (by omega))];rfl,rfl⟩
def body47:ACode:=(.seq (oR [oZ 4]) (.seq (oR [oM 5 0,oM 6 1,o2 7 66 5 6,oM 4 7]) .ret))
theorem tab47:tb.code 47=some ⟨8,[(4,none)],body47⟩:=by kernel_rfl
theorem same_ok (h:AHeap) (va vb:Value) (A B:List LWd) (ka:SlW h va A) (kb:SlW h vb B) (la:(A.length:Int)≤1000000000):WC Tryz.prog tb 47 [va,vb] h fun r h'=>r= .bool (decide (A=B))∧h=h':=by
 refine WC.of (zE 47) tab47 ?_;simp only[zK,Nat.zero_add,Nat.reduceAdd];refine go ?_;refine WO.con (equal_ok h va vb A B ka kb la) ?_;rintro _ _ ⟨rfl,rfl⟩;refine go ?_;refine rt ?_;exact⟨rfl,rfl⟩
end
end Go.Proofs.YtemggiegiejopaaGreatDoor
