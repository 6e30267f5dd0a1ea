/- What functions of the program come to in the abstract machine, and plain laws about it; no statement of the seat is proved in this text. -/
import Derived.Test.YteekipjpghikkaaGreatDoorJa
import Derived.Test.YteekipjpghikkaaGreatDoorAmU
set_option linter.unusedVariables false
set_option linter.unusedSimpArgs false
set_option maxHeartbeats 4000000
namespace Go.Proofs.YteekipjpghikkaaGreatDoor
noncomputable section
open Go.Am
structure LIns where
 op:Int
 ty:Int
 a:Int
 b:Int
 n:Int
 args:List Int
 frm:List Int
structure LEnd where
 kind:Int
 a:Int
 to:Int
 els:Int
structure LBlk where
 ins:List LIns
 fin:LEnd
structure LFn where
 sig:Int
 blocks:List LBlk
instance:Inhabited LIns:=⟨⟨0,0,0,0,0,[],[]⟩⟩
instance:Inhabited LBlk:=⟨⟨[],⟨0,0,0,0⟩⟩⟩
instance:Inhabited LFn:=⟨⟨0,[]⟩⟩
def RIns (h:AHeap) (cs:List Value) (x:LIns):Prop:=∃ va vf,cs=[.int .u8 x.op,I x.ty,I x.a,I x.b,I x.n,va,vf]/\SlI h va x.args/\SlI h vf x.frm/\(x.args.length:Int)<=1152921504606846976/\(x.frm.length:Int)<=1152921504606846976/\0<=x.op/\x.op<=255
theorem RIns.ext {h h' cs x} (r:RIns h cs x) (e:Ext h h'):RIns h' cs x:=let ⟨va,vf,a,b,c,d⟩:=r;⟨va,vf,a,b.ext e,c.ext e,d⟩
def RBlk (h:AHeap) (cs:List Value) (x:LBlk):Prop:=∃ vi,cs=[vi,.int .u8 x.fin.kind,I x.fin.a,I x.fin.to,I x.fin.els]/\SlR 7 RIns h vi x.ins/\(x.ins.length:Int)<=1152921504606846976
theorem RBlk.ext {h h' cs x} (r:RBlk h cs x) (e:Ext h h'):RBlk h' cs x:=let ⟨va,a,b,c⟩:=r;⟨va,a,SlR.ext (fun _ _ r=>RIns.ext r e) b e,c⟩
def RFn (h:AHeap) (cs:List Value) (x:LFn):Prop:=∃ vb,cs=[I x.sig,vb]/\SlR 5 RBlk h vb x.blocks/\(x.blocks.length:Int)<=1152921504606846976
theorem RFn.ext {h h' cs x} (r:RFn h cs x) (e:Ext h h'):RFn h' cs x:=let ⟨va,a,b,c⟩:=r;⟨va,a,SlR.ext (fun _ _ r=>RBlk.ext r e) b e,c⟩
abbrev SlN (h:AHeap) (v:Value) (l:List LIns):Prop:=SlR 7 RIns h v l
abbrev SlB (h:AHeap) (v:Value) (l:List LBlk):Prop:=SlR 5 RBlk h v l
abbrev SlF (h:AHeap) (v:Value) (l:List LFn):Prop:=SlR 2 RFn h v l
theorem SlN.ext {h h' v T} (s:SlN h v T) (e:Ext h h'):SlN h' v T:=SlR.ext (fun _ _ r=>RIns.ext r e) s e
theorem SlB.ext {h h' v T} (s:SlB h v T) (e:Ext h h'):SlB h' v T:=SlR.ext (fun _ _ r=>RBlk.ext r e) s e
theorem SlF.ext {h h' v T} (s:SlF h v T) (e:Ext h h'):SlF h' v T:=SlR.ext (fun _ _ r=>RFn.ext r e) s e
theorem yN {α:Type} [Inhabited α] {c:Nat} {R:AHeap->List Value->α->Prop} {h:AHeap} {v:Value} {T:List α} {i:Nat} (s:SlR c R h v T) (hi:i<T.length):∃ cs,R h cs (T.getD i default)/\Piece h v (i * c) cs/\zMY v:=by
 obtain⟨cs,a,_,c⟩:=s.at hi;exact⟨cs,by simpa [List.getD,QB hi]using a,c,s.some hi⟩
theorem zIU (a n k):(Value.slice a n k).cells=#[.slice a n k]:=rfl
def Tbl (h:AHeap):Prop:=zk h 0=some Z5/\0<h.n
theorem Tbl.ext {h h'} (t:Tbl h) (e:Ext h h'):Tbl h':=⟨e.row t.2 t.1,QG t.2 e.n⟩
theorem zS6:(cut Z5 (0+0 * 6) 6).bind (zG true)=some (.agg (YG (hasT.getD 0 (false,false,false,false,false,false))).toArray):=by kernel_rfl
theorem zS2:(cut Z5 (0+1 * 6) 6).bind (zG true)=some (.agg (YG (hasT.getD 1 (false,false,false,false,false,false))).toArray):=by kernel_rfl
theorem zVX:(cut Z5 (0+2 * 6) 6).bind (zG true)=some (.agg (YG (hasT.getD 2 (false,false,false,false,false,false))).toArray):=by kernel_rfl
theorem zVe:(cut Z5 (0+3 * 6) 6).bind (zG true)=some (.agg (YG (hasT.getD 3 (false,false,false,false,false,false))).toArray):=by kernel_rfl
theorem zVW:(cut Z5 (0+4 * 6) 6).bind (zG true)=some (.agg (YG (hasT.getD 4 (false,false,false,false,false,false))).toArray):=by kernel_rfl
theorem zVl:(cut Z5 (0+5 * 6) 6).bind (zG true)=some (.agg (YG (hasT.getD 5 (false,false,false,false,false,false))).toArray):=by kernel_rfl
theorem zVi:(cut Z5 (0+6 * 6) 6).bind (zG true)=some (.agg (YG (hasT.getD 6 (false,false,false,false,false,false))).toArray):=by kernel_rfl
theorem zVf:(cut Z5 (0+7 * 6) 6).bind (zG true)=some (.agg (YG (hasT.getD 7 (false,false,false,false,false,false))).toArray):=by kernel_rfl
theorem zVY:(cut Z5 (0+8 * 6) 6).bind (zG true)=some (.agg (YG (hasT.getD 8 (false,false,false,false,false,false))).toArray):=by kernel_rfl
theorem zVj:(cut Z5 (0+9 * 6) 6).bind (zG true)=some (.agg (YG (hasT.getD 9 (false,false,false,false,false,false))).toArray):=by kernel_rfl
theorem zVR:(cut Z5 (0+10 * 6) 6).bind (zG true)=some (.agg (YG (hasT.getD 10 (false,false,false,false,false,false))).toArray):=by kernel_rfl
theorem zVB:(cut Z5 (0+11 * 6) 6).bind (zG true)=some (.agg (YG (hasT.getD 11 (false,false,false,false,false,false))).toArray):=by kernel_rfl
theorem zUz:(cut Z5 (0+12 * 6) 6).bind (zG true)=some (.agg (YG (hasT.getD 12 (false,false,false,false,false,false))).toArray):=by kernel_rfl
theorem zVP:(cut Z5 (0+13 * 6) 6).bind (zG true)=some (.agg (YG (hasT.getD 13 (false,false,false,false,false,false))).toArray):=by kernel_rfl
theorem zUu:(cut Z5 (0+14 * 6) 6).bind (zG true)=some (.agg (YG (hasT.getD 14 (false,false,false,false,false,false))).toArray):=by kernel_rfl
theorem zU3:(cut Z5 (0+15 * 6) 6).bind (zG true)=some (.agg (YG (hasT.getD 15 (false,false,false,false,false,false))).toArray):=by kernel_rfl
theorem zUy:(cut Z5 (0+16 * 6) 6).bind (zG true)=some (.agg (YG (hasT.getD 16 (false,false,false,false,false,false))).toArray):=by kernel_rfl
theorem zU4:(cut Z5 (0+17 * 6) 6).bind (zG true)=some (.agg (YG (hasT.getD 17 (false,false,false,false,false,false))).toArray):=by kernel_rfl
theorem zVN:(cut Z5 (0+18 * 6) 6).bind (zG true)=some (.agg (YG (hasT.getD 18 (false,false,false,false,false,false))).toArray):=by kernel_rfl
theorem zVI:(cut Z5 (0+19 * 6) 6).bind (zG true)=some (.agg (YG (hasT.getD 19 (false,false,false,false,false,false))).toArray):=by kernel_rfl
theorem zU6:(cut Z5 (0+20 * 6) 6).bind (zG true)=some (.agg (YG (hasT.getD 20 (false,false,false,false,false,false))).toArray):=by kernel_rfl
theorem zVA:(cut Z5 (0+21 * 6) 6).bind (zG true)=some (.agg (YG (hasT.getD 21 (false,false,false,false,false,false))).toArray):=by kernel_rfl
theorem zVM:(cut Z5 (0+22 * 6) 6).bind (zG true)=some (.agg (YG (hasT.getD 22 (false,false,false,false,false,false))).toArray):=by kernel_rfl
theorem zUS:∀ i,i<23->(cut Z5 (0+i * 6) 6).bind (zG true)=some (.agg (YG (hasT.getD i (false,false,false,false,false,false))).toArray):=by
 intro i hi;match i,hi with
 |0,_=>exact zS6
 |1,_=>exact zS2
 |2,_=>exact zVX
 |3,_=>exact zVe
 |4,_=>exact zVW
 |5,_=>exact zVl
 |6,_=>exact zVi
 |7,_=>exact zVf
 |8,_=>exact zVY
 |9,_=>exact zVj
 |10,_=>exact zVR
 |11,_=>exact zVB
 |12,_=>exact zUz
 |13,_=>exact zVP
 |14,_=>exact zUu
 |15,_=>exact zU3
 |16,_=>exact zUy
 |17,_=>exact zU4
 |18,_=>exact zVN
 |19,_=>exact zVI
 |20,_=>exact zU6
 |21,_=>exact zVA
 |22,_=>exact zVM
 |n+23,h=>exact absurd h (by omega)
def zW (n m:Int):Bool:=decide (0<=n)&&decide (n<m)
def zFY (l:List Int) (m:Int):Bool:=l.all fun n=>zW n m
structure LSz where
 types:Int
 funcs:Int
 regs:Int
 blocks:Int
def Y5 (x:LIns) (s:LSz):Bool:=
 if x.op=3\/x.op=18 then decide (0<=x.n)&&decide (x.n<s.funcs) else if x.op=14 then decide (0<=x.n)&&decide (x.n<8) else true
def zt (l:List LBlk):Int:=(l.map fun b=>(b.ins.length:Int)).sum
def zA6 (x:LEnd) (s:LSz):Bool:=
 if x.kind=1 then (decide (x.a=0)&&decide (x.els=0))&&zW x.to s.blocks
 else if x.kind=2 then zW x.a s.regs&&zW x.to s.blocks&&zW x.els s.blocks
 else if x.kind=3 then (decide (x.to=0)&&decide (x.els=0))&&zW x.a s.regs
 else false
def zSO (x:LIns) (s:LSz):Bool:=
 let q:=zo x.op
 ((((decide (q=(false,false,false,false,false,false))||(q.1&& !zW x.a s.regs))||(q.2.1&& !zW x.b s.regs))|| !zFY x.args s.regs)|| !Y5 x s)
def zKw (x:LIns):Bool:=
 let q:=zo x.op
 ((((!q.1&& !decide (x.a=0))||(!q.2.1&& !decide (x.b=0)))||(!q.2.2.1&& !decide (x.n=0)))||(!q.2.2.2.1&&decide (0<(x.args.length:Int))))||(!q.2.2.2.2.1&&decide (0<(x.frm.length:Int)))
def zKM (x:LIns) (s:LSz):Bool:=
 let q:=zo x.op
 (q.2.2.2.2.2&&zW x.ty s.types)||(!q.2.2.2.2.2&&decide (x.ty=0))
def zCr (x:LIns) (s:LSz):Bool:=
 !zSO x s&&(if (zo x.op).2.2.2.2.1 then !zKw x&&zKM x s&&zFY x.frm s.blocks&&decide (x.frm.length=x.args.length)&&decide (1<=x.frm.length)&&decide (x.frm.length<=16) else !zKw x&&zKM x s&&decide (x.args.length<=4))
def zCo (b:LBlk) (s:LSz):Bool:=(b.ins.any fun x=> !zCr x s)|| !zA6 b.fin s
def szL (T:List LType) (nf:Int) (f:LFn):LSz:=⟨T.length,nf,((T.getD f.sig.toNat default).parts.length:Int)+zt f.blocks,f.blocks.length⟩
def zB8 (T:List LType) (f:LFn):Bool:=
 (((!zW f.sig T.length|| !decide ((T.getD f.sig.toNat default).kind=3))|| !zW ((f.blocks.length:Int) - 1) 16)||decide (128<zt f.blocks))
def fnL (T:List LType) (nf:Int) (f:LFn):Bool:=if zB8 T f then false else !(f.blocks.any fun b=>zCo b (szL T nf f))
def Zq (T:List LType) (F:List LFn):Int:=
 if ZR T≠0 then ZR T else if (!zW ((F.length:Int) - 1) 8||F.any fun f=> !fnL T F.length f) then 60 else 0
def yl (T:List LType) (F:List LFn) (f:Int):Int×Int:=
 if Zq T F≠0 then (0,Zq T F) else if zW f F.length then (((T.getD (F.getD f.toNat default).sig.toNat default).parts.length:Int),0) else (0,2)
def Yb (T:List LType) (F:List LFn) (f:Int):Int×Int:=
 if (yl T F f).2≠0 then (0,(yl T F f).2) else ((yl T F f).1+zt (F.getD f.toNat default).blocks,0)
structure Small (T:List LType) (F:List LFn):Prop where
 types:T.length<=100
 parts:∀ x∈T,x.parts.length<=100
 funcs:F.length<=1000
 blocks:∀ f∈F,f.blocks.length<=1000
 ins:∀ f∈F,∀ b∈f.blocks,b.ins.length<=1000
set_option maxRecDepth 100000
def zUm:ACode:=(oV (oR [oZ 4]) (oV (oR [oM 5 0,oC .geq 6 5 0,oM 7 6,oG 7 (oM 8 0),oG 7 (oM 9 1),oG 7 (oB .lss 10 8 9),oP 11 7 10,oM 4 11]) .ret))
theorem yj (h:AHeap) (n m:Int):WC Tryz.prog tb 39 [I n,I m] h fun r h'=>r= .bool (zW n m)/\h=h':=by
 refine en 12 [(4,none)] zUm ?_;repeat' (first|(refine WX.br (fun hb=> ?_) (fun hb=> ?_)<;>(try simp only[DB]at hb)<;>refine go ?_)|(refine WO.sp (fun hb=> ?_) (fun hb=> ?_)<;>(try simp only[DB]at hb)<;>refine go ?_))
 all_goals (refine rt ?_;exact⟨by simp[one,zW, *]<;>omega,rfl⟩)
def zSg:ACode:=(oV (oR [oZ 3]) (oV (oR [oM 4 0,oL 5 1,o2 6 39 4 5,oW 7 6,oM 3 7]) .ret))
theorem zSH (h h0:AHeap) (p:Value) (n m:Int) (o:OwnC h0 h p [I m]):WC Tryz.prog tb 195 [I n,p] h fun r h'=>r= .bool (!zW n m)/\Ext h h':=by
 refine en 8 [(3,none)] zSg ?_;refine WO.con (yj h n m) ?_;rintro _ _ ⟨rfl,rfl⟩;refine gr ?_;exact⟨rfl,Ext.refl h⟩
def zQI:ACode:=(oV (oR [oX 3 1,oZ 4]) (oV (oR [oM 5 0,⟨some 6,none,(.mkFunc (.func 195) [] [(.tmp 3)])⟩,o2 7 109 5 6,oW 8 7,oM 4 8]) .ret))
theorem zNq (h:AHeap) (v:Value) (m:Int) (l:List Int) (s:SlI h v l) (hl:(l.length:Int)<=9223372036854775807):WC Tryz.prog tb 154 [v,I m] h fun r h'=>r= .bool (zFY l m)/\Ext h h':=by
 refine en 9 [(4,none)] zQI ?_;refine WO.bx ?_;intro p h1 e1 o1;have s1:=s.ext e1;refine go ?_;refine WO.con (zAO h1 v _ l (fun n=> !zW n m) s1 hl ?_) ?_
 ·intro x hx h2 e2;exact WV.func (zSH h2 h p x m (o1.ext e2))
 rintro _ h2 ⟨rfl,e2⟩;refine gr ?_;refine⟨?_,e1.trans e2⟩;show Value.bool _=_;rw[List.not_any_eq_all_not];simp[zFY]
def zQg:ACode:=(oV (oR [oX 2 0,oX 3 1,oZ 4]) (oV (oV (oR [oF 0 5 2,oL 6 5]) (o5 0 (oV (oV (oR [oD .eql 8 6 3,oM 7 8]) (oJ 7 .skip (oR [oD .eql 9 6 18,oM 7 9]))) (oJ 7 (oV (oR [oF 4 10 2,oL 11 10,oC .geq 12 11 0,oM 13 12,oG 13 (oF 4 14 2),oG 13 (oL 15 14),oG 13 (oF 1 16 3),oG 13 (oL 17 16),oG 13 (oB .lss 18 15 17),oP 19 13 18,oM 4 19]) .ret) (oV (oR [oD .eql 21 6 14,oM 20 21]) (oJ 20 (oV (oR [oF 4 22 2,oL 23 22,oC .geq 24 23 0,oM 25 24,oG 25 (oF 4 26 2),oG 25 (oL 27 26),oG 25 (oC .lss 28 27 8),oP 29 25 28,oM 4 29]) .ret) .skip)))))) (oV (oR [oK 4 (.bool true)]) .ret)))
theorem zLN (h:AHeap) (x:LIns) (va vf:Value) (s:LSz):
  WC Tryz.prog tb 155 [.agg #[.int .u8 x.op,I x.ty,I x.a,I x.b,I x.n,va,vf],.agg #[I s.types,I s.funcs,I s.regs,I s.blocks]] h fun r h'=>r= .bool (Y5 x s)/\Ext h h':=by
 refine en 30 [(4,none)] zQg ?_;refine WO.bx ?_;intro p2 h1 e1 o1;refine WO.bx ?_;intro p3 h2 e2 o2;have o1:=o1.ext e2;refine go ?_;repeat' (first|(refine WX.br (fun hb=> ?_) (fun hb=> ?_)<;>(try simp only[DB]at hb)<;>refine go ?_)|(refine WO.sp (fun hb=> ?_) (fun hb=> ?_)<;>(try simp only[DB]at hb)<;>refine go ?_))
 all_goals (refine rt ?_;exact⟨by simp[one,Y5, *]<;>omega,e1.trans e2⟩)
def zTY:ACode:=(oV (oR [⟨some 2,none,(.alloc [(.bool false),(.bool false),(.bool false),(.bool false),(.bool false),(.bool false)])⟩]) (oV (oV (oR [oM 3 0,⟨some 4,none,(.conv .i64 (.tmp 3))⟩,oC .lss 5 4 23]) (oJ 5 (oV (oR [oM 6 0,⟨some 7,none,(.idxArr 23 6 (.global 0) (.tmp 6))⟩,oA 6 8 7,oS 6 2 8]) .ret) .skip)) (oV (oR [⟨some 9,none,(.build [(.bool false),(.bool false),(.bool false),(.bool false),(.bool false),(.bool false)] [])⟩,oS 6 2 9]) .ret)))
theorem zPy (h:AHeap) (op:Int) (tb:Tbl h) (h0:0<=op) (h255:op<=255):
  WC Tryz.prog Go.Proofs.YteekipjpghikkaaGreatDoor.tb 43 [.int .u8 op] h fun r h'=>r= .agg (YG (zo op)).toArray/\Ext h h':=by
 refine en 10 [(2,some (true,6))] zTY ?_;refine WO.al ?_;intro p h1 e1 o1;have t1:=(tb.ext e1).1;refine go ?_;refine WX.br (fun hb=> ?_) (fun hb=> ?_)<;>simp only[DB]at hb
 ·have ht:=zUS op.toNat (by omega);obtain⟨i,rfl⟩:∃ i:Nat,op=i:=⟨op.toNat,by omega⟩;rw[GQ]at ht;refine go ?_;refine WO.stC0 o1 e1 ?_;intro h2 e2 o2 _;refine gr ?_;exact⟨rfl,e2⟩
 ·refine go ?_;refine WO.stC0 o1 e1 ?_;intro h2 e2 o2 _;refine gr ?_;refine⟨?_,e2⟩;unfold zo;have hl:hasT.length<=op.toNat:=by simp[hasT];omega
  rw[QE,Gy hl];rfl
def zPz:ACode:=(oV (oR [oB .lss 9 8 7]) (oV (oT 9 0) (oV (o5 1 (oV (oR [oI 5 10 6 8,oA 5 11 10,⟨some 4,none,(.alloc [(.slice none 0 0),(.int .u8 0),(.int .i64 0),(.int .i64 0),(.int .i64 0)])⟩,oS 5 4 11]) (oR [oM 12 2,oF 0 13 4,oL 14 13,oQ 15 14,oB .add 16 12 15,oM 2 16]))) (oR [oC .add 17 8 1,oM 8 17]))))
def zUr:ACode:=(oV (oR [oX 1 0,oN 2 0]) (oV (oV (oR [oF 1 5 1,oL 6 5,oQ 7 6,oN 8 0]) (o5 0 (.loop zPz))) (oV (oR [oM 18 2,oM 2 18]) .ret)))
theorem zD0 (h:AHeap) (sig:Int) (vb:Value) (l:List LBlk) (s:SlB h vb l) (hl:l.length<=1000) (hb:∀ b∈l,b.ins.length<=1000):
  WC Tryz.prog tb 40 [.agg #[I sig,vb]] h fun r h'=>r=I (zt l)/\Ext h h':=by
 refine en 19 [(2,none)] zUr ?_;refine WO.bx ?_;intro p h1 e1 o1;have s1:=s.ext e1;refine go ?_;refine WX.loopA [9,10,11,4,12,13,14,15,16,2,17,8] (by kernel_rfl) (fun i=>l.length - i) (fun i t h2=>Ext h1 h2/\zB t 8=I i/\i<=l.length/\zB t 2=I (zt (l.take i))/\0<=zt (l.take i)/\zt (l.take i)<=1000 * i) 0 ?_ ?_
 ·exact⟨Ext.refl _,sl_,QV _,sl_,by simp[zt],by simp[zt]⟩
 rintro i t h2 hsame ⟨e2,s8,hi,s2,hm,hn⟩;have s3:=s1.ext e2;refine go ?_;refine WX.br (fun hc=> ?_) (fun hc=> ?_)<;>simp only[DB]at hc
 ·have hi':i<l.length:=by omega
  obtain⟨cs,⟨vi,rfl,si,hsi⟩,pc,hs⟩:=yN s3 hi';obtain⟨_,_,_,rfl⟩:=zM si;have hbi:(l.getD i default).ins.length<=1000:=hb _ (by simp[List.getD,QB hi']);refine go ?_;refine WO.al ?_;intro p4 h3 e3 o3;refine WO.stC0 o3 e3 ?_;intro h4 e4 o4 _;have si:=SlN.ext si e4;refine go ?_;have e:zt (l.take (i+1))=zt (l.take i)+((l.getD i default).ins.length:Int):=by
   unfold zt;rw[GI,Gg,List.sum_append];simp[List.getD,QB hi']
  exact zA (i+1) (by omega) ⟨e2.trans e4,sln,by omega,by rw[e];exact sl_,by omega,by omega⟩
 ·refine gr ?_;have:i=l.length:=by omega
  subst this;exact⟨by simp[one],e1.trans e2⟩
set_option maxRecDepth 100000
def zSS:ACode:=(oV (oR [oX 2 0,oX 3 1,oZ 4]) (oV (oV (oR [oF 0 5 2,oL 6 5]) (o5 0 (oV (oR [oD .eql 8 6 1,oM 7 8]) (oJ 7 (oV (oR [oA 4 9 2,oF 0 10 2,oL 11 10,oF 2 12 2,oL 13 12,⟨some 14,none,(.build [(.int .u8 0),(.int .i64 0),(.int .i64 0),(.int .i64 0)] [(0,1,(.tmp 11)),(2,1,(.tmp 13))])⟩,⟨some 15,none,(.binP .eql 48 (.tmp 9) (.tmp 14))⟩,oM 16 15,oG 16 (oF 2 17 2),oG 16 (oL 18 17),oG 16 (oF 3 19 3),oG 16 (oL 20 19),oG 16 (o2 21 39 18 20),oP 22 16 21,oM 4 22]) .ret) (oV (oR [oD .eql 24 6 2,oM 23 24]) (oJ 23 (oV (oR [oF 1 25 2,oL 26 25,oF 2 27 3,oL 28 27,o2 29 39 26 28,oM 30 29,oG 30 (oF 2 31 2),oG 30 (oL 32 31),oG 30 (oF 3 33 3),oG 30 (oL 34 33),oG 30 (o2 35 39 32 34),oP 36 30 35,oM 37 36,oG 37 (oF 3 38 2),oG 37 (oL 39 38),oG 37 (oF 3 40 3),oG 37 (oL 41 40),oG 37 (o2 42 39 39 41),oP 43 37 42,oM 4 43]) .ret) (oV (oR [oD .eql 45 6 3,oM 44 45]) (oJ 44 (oV (oR [oA 4 46 2,oF 0 47 2,oL 48 47,oF 1 49 2,oL 50 49,⟨some 51,none,(.build [(.int .u8 0),(.int .i64 0),(.int .i64 0),(.int .i64 0)] [(0,1,(.tmp 48)),(1,1,(.tmp 50))])⟩,⟨some 52,none,(.binP .eql 48 (.tmp 46) (.tmp 51))⟩,oM 53 52,oG 53 (oF 1 54 2),oG 53 (oL 55 54),oG 53 (oF 2 56 3),oG 53 (oL 57 56),oG 53 (o2 58 39 55 57),oP 59 53 58,oM 4 59]) .ret) .skip)))))))) (oV (oR [oZ 4]) .ret)))
theorem zUc (h:AHeap) (x:LEnd) (s:LSz):
  WC Tryz.prog tb 105 [.agg #[.int .u8 x.kind,I x.a,I x.to,I x.els],.agg #[I s.types,I s.funcs,I s.regs,I s.blocks]] h fun r h'=>r= .bool (zA6 x s)/\Ext h h':=by
 refine en 60 [(4,none)] zSS ?_;refine WO.bx ?_;intro p2 h1 e1 o1;refine WO.bx ?_;intro p3 h2 e2 o2;have o1:=o1.ext e2;refine go ?_;refine WX.br (fun hb=> ?_) (fun hb=> ?_)<;>simp only[DB]at hb<;>refine go ?_
 ·refine WO.bp (zKE (xs:=#[.int .u8 x.kind,I x.a,I x.to,I x.els]) (ys:=#[.int .u8 x.kind,I 0,I x.to,I 0]) (b:=decide (x.a=0)&&decide (x.els=0)) (by kernel_rfl) (by simp[YZ,zDf,I];rw[GP];simp)) ?_;refine go ?_;refine WO.sp (fun hc=> ?_) (fun hc=> ?_)<;>refine go ?_
  ·refine WO.con (yj h2 x.to s.blocks) ?_;rintro _ _ ⟨rfl,rfl⟩;refine gr ?_;exact⟨by simp only[zA6,QI hb,hc,Qe];rfl,e1.trans e2⟩
  ·refine rt ?_;exact⟨by simp only[zA6,QI hb,hc,Qg];rfl,e1.trans e2⟩
 refine WX.br (fun hb2=> ?_) (fun hb2=> ?_)<;>simp only[DB]at hb2<;>refine go ?_
 ·refine WO.con (yj h2 x.a s.regs) ?_;rintro _ _ ⟨rfl,rfl⟩;refine go ?_;refine WO.sp (fun hc=> ?_) (fun hc=> ?_)<;>refine go ?_
  ·refine WO.con (yj h2 x.to s.blocks) ?_;rintro _ _ ⟨rfl,rfl⟩;refine go ?_;refine WO.sp (fun hd=> ?_) (fun hd=> ?_)<;>refine go ?_
   ·refine WO.con (yj h2 x.els s.blocks) ?_;rintro _ _ ⟨rfl,rfl⟩;refine gr ?_;exact⟨by simp only[zA6,QD hb,QI hb2,hc,hd,Qe];rfl,e1.trans e2⟩
   ·refine rt ?_;exact⟨by simp only[zA6,QD hb,QI hb2,hc,hd,Qe,Qg];rfl,e1.trans e2⟩
  ·refine rt ?_;exact⟨by simp only[zA6,QD hb,QI hb2,hc,Qe,Qg];rfl,e1.trans e2⟩
 refine WX.br (fun hb3=> ?_) (fun hb3=> ?_)<;>simp only[DB]at hb3<;>refine go ?_
 ·refine WO.bp (zKE (xs:=#[.int .u8 x.kind,I x.a,I x.to,I x.els]) (ys:=#[.int .u8 x.kind,I x.a,I 0,I 0]) (b:=decide (x.to=0)&&decide (x.els=0)) (by kernel_rfl) (by simp[YZ,zDf,I];rw[GP];simp)) ?_;refine go ?_;refine WO.sp (fun hc=> ?_) (fun hc=> ?_)<;>refine go ?_
  ·refine WO.con (yj h2 x.a s.regs) ?_;rintro _ _ ⟨rfl,rfl⟩;refine gr ?_;exact⟨by simp only[zA6,QD hb,QD hb2,QI hb3,hc,Qe];rfl,e1.trans e2⟩
  ·refine rt ?_;exact⟨by simp only[zA6,QD hb,QD hb2,QI hb3,hc,Qg];rfl,e1.trans e2⟩
 ·refine rt ?_;exact⟨by simp only[zA6,QD hb,QD hb2,QD hb3];rfl,e1.trans e2⟩
def zQd:ACode:=(oV (oR [oX 2 0,oX 3 1,oZ 4]) (oV (oR [oF 0 8 2,oL 9 8,o1 10 43 9,⟨some 5,none,(.alloc [(.bool false),(.bool false),(.bool false),(.bool false),(.bool false),(.bool false)])⟩,oS 6 5 10]) (oV (oV (oR (oA 6 11 5::⟨some 12,none,(.build [(.bool false),(.bool false),(.bool false),(.bool false),(.bool false),(.bool false)] [])⟩::⟨some 13,none,(.binP .eql 87 (.tmp 11) (.tmp 12))⟩::oM 14 13::oH 14 (oF 0 15 5)::oH 14 (oL 16 15)::oH 14 (oM 17 16)::oG 17 (oF 2 18 2)::oG 17 (oL 19 18)::oG 17 (oF 2 20 3)::oG 17 (oL 21 20)::oG 17 (o2 22 39 19 21)::oG 17 (oW 23 22)::oH 14 (oP 24 17 23)::oO 25 14 24::oM 26 25::oH 26 (oF 1 27 5)::oH 26 (oL 28 27)::oH 26 (oM 29 28)::oG 29 (oF 3 30 2)::oG 29 (oL 31 30)::oG 29 (oF 2 32 3)::oG 29 (oL 33 32)::oG 29 (o2 34 39 31 33)::oG 29 (oW 35 34)::oH 26 (oP 36 29 35)::oO 37 26 36::oM 38 37::oH 38 (oF 5 39 2)::oH 38 (oL 40 39)::oH 38 (oF 2 41 3)::oH 38 (oL 42 41)::oH 38 (o2 43 154 40 42)::oH 38 (oW 44 43)::oO 45 38 44::oM 46 45::oH 46 (oA 7 47 2)::oH 46 (oA 4 48 3)::oH 46 (o2 49 155 47 48)::oH 46 (oW 50 49)::oO 51 46 50::[])) (oJ 51 (oV (oR [oZ 4]) .ret) .skip)) (oV (oR (oF 0 52 5::oL 53 52::oW 54 53::oM 55 54::oG 55 (oF 2 56 2)::oG 55 (oL 57 56)::oG 55 (oC .neq 58 57 0)::oP 59 55 58::oM 60 59::oH 60 (oF 1 61 5)::oH 60 (oL 62 61)::oH 60 (oW 63 62)::oH 60 (oM 64 63)::oG 64 (oF 3 65 2)::oG 64 (oL 66 65)::oG 64 (oC .neq 67 66 0)::oH 60 (oP 68 64 67)::oO 69 60 68::oM 70 69::oH 70 (oF 2 71 5)::oH 70 (oL 72 71)::oH 70 (oW 73 72)::oH 70 (oM 74 73)::oG 74 (oF 4 75 2)::oG 74 (oL 76 75)::oG 74 (oC .neq 77 76 0)::oH 70 (oP 78 74 77)::oO 79 70 78::oM 80 79::oH 80 (oF 3 81 5)::oH 80 (oL 82 81)::oH 80 (oW 83 82)::oH 80 (oM 84 83)::oG 84 (oF 5 85 2)::oG 84 (oL 86 85)::oG 84 (oQ 87 86)::oG 84 (oC .gtr 88 87 0)::oH 80 (oP 89 84 88)::oO 90 80 89::oM 91 90::oH 91 (oF 4 92 5)::oH 91 (oL 93 92)::oH 91 (oW 94 93)::oH 91 (oM 95 94)::oG 95 (oF 6 96 2)::oG 95 (oL 97 96)::oG 95 (oQ 98 97)::oG 95 (oC .gtr 99 98 0)::oH 91 (oP 100 95 99)::oO 101 91 100::oM 6 101::[])) (oV (oR [oF 5 102 5,oL 103 102,oM 104 103,oG 104 (oF 1 105 2),oG 104 (oL 106 105),oG 104 (oF 0 107 3),oG 104 (oL 108 107),oG 104 (o2 109 39 106 108),oP 110 104 109,oM 111 110,oH 111 (oF 5 112 5),oH 111 (oL 113 112),oH 111 (oW 114 113),oH 111 (oM 115 114),oG 115 (oF 1 116 2),oG 115 (oL 117 116),oG 115 (oC .eql 118 117 0),oH 111 (oP 119 115 118),oO 120 111 119,oM 7 120]) (oV (oV (oR [oF 4 121 5,oL 122 121]) (oJ 122 (oV (oR (oM 123 6::oW 124 123::oM 125 124::oG 125 (oM 126 7)::oP 127 125 126::oM 128 127::oG 128 (oF 6 129 2)::oG 128 (oL 130 129)::oG 128 (oF 3 131 3)::oG 128 (oL 132 131)::oG 128 (o2 133 154 130 132)::oP 134 128 133::oM 135 134::oG 135 (oF 6 136 2)::oG 135 (oL 137 136)::oG 135 (oQ 138 137)::oG 135 (oF 5 139 2)::oG 135 (oL 140 139)::oG 135 (oQ 141 140)::oG 135 (oB .eql 142 138 141)::oP 143 135 142::oM 144 143::oG 144 (oF 6 145 2)::oG 144 (oL 146 145)::oG 144 (oQ 147 146)::oG 144 (oC .geq 148 147 1)::oP 149 144 148::oM 150 149::oG 150 (oF 6 151 2)::oG 150 (oL 152 151)::oG 150 (oQ 153 152)::oG 150 (oC .leq 154 153 16)::oP 155 150 154::oM 4 155::[])) .ret) .skip)) (oV (oR [oM 156 6,oW 157 156,oM 158 157,oG 158 (oM 159 7),oP 160 158 159,oM 161 160,oG 161 (oF 5 162 2),oG 161 (oL 163 162),oG 161 (oQ 164 163),oG 161 (oC .leq 165 164 4),oP 166 161 165,oM 4 166]) .ret)))))))
theorem zTG (h:AHeap) (x:LIns) (va vf:Value) (s:LSz) (T:Tbl h) (sa:SlI h va x.args) (sf:SlI h vf x.frm) (hla:(x.args.length:Int)<=9223372036854775807) (hlf:(x.frm.length:Int)<=9223372036854775807) (ho:0<=x.op/\x.op<=255):
  WC Tryz.prog tb 101 [.agg #[.int .u8 x.op,I x.ty,I x.a,I x.b,I x.n,va,vf],.agg #[I s.types,I s.funcs,I s.regs,I s.blocks]] h fun r h'=>r= .bool (zCr x s)/\Ext h h':=by
 refine en 167 [(4,none)] zQd ?_;refine WO.bx ?_;intro p2 h1 e1 o1;refine WO.bx ?_;intro p3 h2 e2 o2;have o1:=o1.ext e2;have T2:=(T.ext e1).ext e2;refine go ?_;refine WO.con (zPy h2 x.op T2 ho.1 ho.2) ?_;rintro _ h3 ⟨rfl,e3⟩;refine go ?_;refine WO.al ?_;intro p5 h4 e4 o5;refine WO.stC0 o5 e4 ?_;intro h5 e5 o5 _;have o1:=(o1.ext e3).ext e5;have o2:=(o2.ext e3).ext e5;have e15:=((e1.trans e2).trans e3).trans e5;have sa5:=sa.ext e15;have sf5:=sf.ext e15;have hins:zCr x s=zCr x s:=rfl;conv at hins=>rhs;unfold zCr zSO zKw zKM
 generalize hq:zo x.op=q at *;obtain⟨qa,qb,qn,qg,qf,qw⟩:=q;simp only at hins;refine go ?_;refine WO.bp (zKE (xs:=#[.bool qa,.bool qb,.bool qn,.bool qg,.bool qf,.bool qw]) (ys:=#[.bool false,.bool false,.bool false,.bool false,.bool false,.bool false]) (b:=decide ((qa,qb,qn,qg,qf,qw)=(false,false,false,false,false,false))) (by kernel_rfl) (by cases qa<;>cases qb<;>cases qn<;>cases qg<;>cases qf<;>cases qw<;>rfl)) ?_;replace o5:OwnC h3 h5 p5 [.bool qa,.bool qb,.bool qn,.bool qg,.bool qf,.bool qw]:=o5;obtain⟨c0,hc0⟩:∃ c:Bool,c=decide ((qa,qb,qn,qg,qf,qw)=(false,false,false,false,false,false)):=⟨_,rfl⟩;rw[<-hc0]at hins;rw[<-hc0];refine WO.mid 12 (fun t' h'=>h5=h'/\zB t' 25= .bool (c0||(qa&& !zW x.a s.regs))) ?_ ?_<;>simp only[Qn,GB,GM,Q6]
 ·refine go ?_;refine WO.sp (fun hc=> ?_) (fun hc=> ?_)<;>refine go ?_
  ·exact⟨rfl,rfl,rfl,by simp only[hc,Qe,Qg,Qm,Ql,Qp,Qq,Qr,Qw,QU,Qd];exact sl_⟩
  refine WO.sp (fun hd=> ?_) (fun hd=> ?_)<;>(try simp only[DB]at hd)<;>refine go ?_
  ·refine WO.con (yj h5 x.a s.regs) ?_;rintro _ _ ⟨rfl,rfl⟩;refine go ?_;exact⟨rfl,rfl,rfl,by simp only[hc,hd,Qe,Qg,Qm,Ql,Qp,Qq,Qr,Qw,QU,Qd];exact sl_⟩
  ·exact⟨rfl,rfl,rfl,by simp only[hc,hd,Qe,Qg,Qm,Ql,Qp,Qq,Qr,Qw,QU,Qd];exact sl_⟩
 rintro t1 _ hs1 ⟨rfl,s25⟩;obtain⟨c1,hc1⟩:∃ c:Bool,c=(c0||(qa&& !zW x.a s.regs)):=⟨_,rfl⟩;rw[<-hc1]at s25 hins;refine WO.mid 12 (fun t' h'=>h5=h'/\zB t' 37= .bool (c1||(qb&& !zW x.b s.regs))) ?_ ?_<;>simp only[Qn,GB,GM,Q6]
 ·refine go ?_;refine WO.sp (fun hc=> ?_) (fun hc=> ?_)<;>refine go ?_
  ·exact⟨rfl,rfl,rfl,by simp only[hc,Qe,Qg,Qm,Ql,Qp,Qq,Qr,Qw,QU,Qd];exact sl_⟩
  refine WO.sp (fun hd=> ?_) (fun hd=> ?_)<;>(try simp only[DB]at hd)<;>refine go ?_
  ·refine WO.con (yj h5 x.b s.regs) ?_;rintro _ _ ⟨rfl,rfl⟩;refine go ?_;exact⟨rfl,rfl,rfl,by simp only[hc,hd,Qe,Qg,Qm,Ql,Qp,Qq,Qr,Qw,QU,Qd];exact sl_⟩
  ·exact⟨rfl,rfl,rfl,by simp only[hc,hd,Qe,Qg,Qm,Ql,Qp,Qq,Qr,Qw,QU,Qd];exact sl_⟩
 rintro t2 _ hs2 ⟨rfl,s37⟩;obtain⟨c2,hc2⟩:∃ c:Bool,c=(c1||(qb&& !zW x.b s.regs)):=⟨_,rfl⟩;rw[<-hc2]at s37 hins;refine WO.mid 8 (fun t' h'=>Ext h5 h'/\zB t' 45= .bool (c2|| !zFY x.args s.regs)) ?_ ?_<;>simp only[Qn,GB,GM,Q6]
 ·refine go ?_;refine WO.sp (fun hc=> ?_) (fun hc=> ?_)<;>refine go ?_
  ·exact⟨rfl,rfl,Ext.refl _,by simp only[hc,Qe,Qg,Qm,Ql,Qp,Qq,Qr,Qw,QU,Qd];exact sl_⟩
  refine WO.con (zNq h5 va s.regs x.args sa5 hla) ?_;rintro _ h6 ⟨rfl,e6⟩;refine go ?_;exact⟨rfl,rfl,e6,by simp only[hc,Qe,Qg,Qm,Ql,Qp,Qq,Qr,Qw,QU,Qd];exact sl_⟩
 rintro t3 h6 hs3 ⟨e6,s45⟩;obtain⟨c3,hc3⟩:∃ c:Bool,c=(c2|| !zFY x.args s.regs):=⟨_,rfl⟩;rw[<-hc3]at s45 hins;have o1:=o1.ext e6;have o2:=o2.ext e6;have o5:=o5.ext e6;have sa6:=sa5.ext e6;have sf6:=sf5.ext e6;have e16:=e15.trans e6;refine WO.mid 6 (fun t' h'=>Ext h6 h'/\zB t' 51= .bool (c3|| !Y5 x s)) ?_ ?_<;>simp only[Qn,GB,GM,Q6]
 ·refine go ?_;refine WO.sp (fun hc=> ?_) (fun hc=> ?_)<;>refine go ?_
  ·exact⟨rfl,rfl,Ext.refl _,by simp only[hc,Qe,Qg,Qm,Ql,Qp,Qq,Qr,Qw,QU,Qd];exact sl_⟩
  refine WO.con (zLN h6 x va vf s) ?_;rintro _ h7 ⟨rfl,e7⟩;refine go ?_;exact⟨rfl,rfl,e7,by simp only[hc,Qe,Qg,Qm,Ql,Qp,Qq,Qr,Qw,QU,Qd];exact sl_⟩
 rintro t4 h7 hs4 ⟨e7,s51⟩;obtain⟨c4,hc4⟩:∃ c:Bool,c=(c3|| !Y5 x s):=⟨_,rfl⟩;rw[<-hc4]at s51 hins;have o1:=o1.ext e7;have o2:=o2.ext e7;have o5:=o5.ext e7;have sa7:=sa6.ext e7;have sf7:=sf6.ext e7;have e17:=e16.trans e7;refine go ?_;refine WX.br (fun hz=> ?_) (fun hz=> ?_)<;>rw[hz]at hins
 ·refine gr ?_;exact⟨by rw[hins];rfl,e17⟩
 refine goC ?_;refine goC ?_;refine WO.mid 8 (fun t' h'=>h7=h'/\zB t' 59= .bool (!qa&& !decide (x.a=0))) ?_ ?_<;>simp only[Qn,GB,GM,Q6]
 ·refine go ?_;refine WO.sp (fun hd=> ?_) (fun hd=> ?_)<;>(try simp only[DB]at hd)<;>refine go ?_
  ·exact⟨rfl,rfl,rfl,by simp only[hd,Qe,Qg,Qm,Ql,Qp,Qq,Qr,Qw,QU,Qd];exact sl_⟩
  ·exact⟨rfl,rfl,rfl,by simp only[hd,Qe,Qg,Qm,Ql,Qp,Qq,Qr,Qw,QU,Qd];exact sl_⟩
 rintro t5 _ hs5 ⟨rfl,s59⟩;obtain⟨d0,hd0⟩:∃ c:Bool,c=(!qa&& !decide (x.a=0)):=⟨_,rfl⟩;rw[<-hd0]at s59 hins;refine goC ?_;refine WO.mid 10 (fun t' h'=>h7=h'/\zB t' 69= .bool (d0||(!qb&& !decide (x.b=0)))) ?_ ?_<;>simp only[Qn,GB,GM,Q6]
 ·refine go ?_;refine WO.sp (fun hc=> ?_) (fun hc=> ?_)<;>refine go ?_
  ·exact⟨rfl,rfl,rfl,by simp only[hc,Qe,Qg,Qm,Ql,Qp,Qq,Qr,Qw,QU,Qd];exact sl_⟩
  refine WO.sp (fun hd=> ?_) (fun hd=> ?_)<;>(try simp only[DB]at hd)<;>refine go ?_
  ·exact⟨rfl,rfl,rfl,by simp only[hc,hd,Qe,Qg,Qm,Ql,Qp,Qq,Qr,Qw,QU,Qd];exact sl_⟩
  ·exact⟨rfl,rfl,rfl,by simp only[hc,hd,Qe,Qg,Qm,Ql,Qp,Qq,Qr,Qw,QU,Qd];exact sl_⟩
 rintro t6 _ hs6 ⟨rfl,s69⟩;obtain⟨d1,hd1⟩:∃ c:Bool,c=(d0||(!qb&& !decide (x.b=0))):=⟨_,rfl⟩;rw[<-hd1]at s69 hins;refine goC ?_;refine WO.mid 10 (fun t' h'=>h7=h'/\zB t' 79= .bool (d1||(!qn&& !decide (x.n=0)))) ?_ ?_<;>simp only[Qn,GB,GM,Q6]
 ·refine go ?_;refine WO.sp (fun hc=> ?_) (fun hc=> ?_)<;>refine go ?_
  ·exact⟨rfl,rfl,rfl,by simp only[hc,Qe,Qg,Qm,Ql,Qp,Qq,Qr,Qw,QU,Qd];exact sl_⟩
  refine WO.sp (fun hd=> ?_) (fun hd=> ?_)<;>(try simp only[DB]at hd)<;>refine go ?_
  ·exact⟨rfl,rfl,rfl,by simp only[hc,hd,Qe,Qg,Qm,Ql,Qp,Qq,Qr,Qw,QU,Qd];exact sl_⟩
  ·exact⟨rfl,rfl,rfl,by simp only[hc,hd,Qe,Qg,Qm,Ql,Qp,Qq,Qr,Qw,QU,Qd];exact sl_⟩
 rintro t7 _ hs7 ⟨rfl,s79⟩;obtain⟨d2,hd2⟩:∃ c:Bool,c=(d1||(!qn&& !decide (x.n=0))):=⟨_,rfl⟩;rw[<-hd2]at s79 hins;refine goC ?_;refine WO.mid 11 (fun t' h'=>h7=h'/\zB t' 90= .bool (d2||(!qg&&decide (0<(x.args.length:Int))))) ?_ ?_<;>simp only[Qn,GB,GM,Q6]
 ·refine go ?_;refine WO.sp (fun hc=> ?_) (fun hc=> ?_)<;>refine go ?_
  ·exact⟨rfl,rfl,rfl,by simp only[hc,Qe,Qg,Qm,Ql,Qp,Qq,Qr,Qw,QU,Qd];exact sl_⟩
  refine WO.sp (fun hd=> ?_) (fun hd=> ?_)<;>(try simp only[DB]at hd)<;>refine go ?_
  ·exact⟨rfl,rfl,rfl,by simp only[hc,hd,Qe,Qg,Qm,Ql,Qp,Qq,Qr,Qw,QU,Qd];exact sl_⟩
  ·exact⟨rfl,rfl,rfl,by simp only[hc,hd,Qe,Qg,Qm,Ql,Qp,Qq,Qr,Qw,QU,Qd];exact sl_⟩
 rintro t8 _ hs8 ⟨rfl,s90⟩;obtain⟨d3,hd3⟩:∃ c:Bool,c=(d2||(!qg&&decide (0<(x.args.length:Int)))):=⟨_,rfl⟩;rw[<-hd3]at s90 hins;refine goC ?_;refine WO.mid 12 (fun t' h'=>h7=h'/\zB t' 6= .bool (d3||(!qf&&decide (0<(x.frm.length:Int))))) ?_ ?_<;>simp only[Qn,GB,GM,Q6]
 ·refine go ?_;refine WO.sp (fun hc=> ?_) (fun hc=> ?_)<;>refine go ?_
  ·exact⟨rfl,rfl,rfl,by simp only[hc,Qe,Qg,Qm,Ql,Qp,Qq,Qr,Qw,QU,Qd];exact sl_⟩
  refine WO.sp (fun hd=> ?_) (fun hd=> ?_)<;>(try simp only[DB]at hd)<;>refine go ?_
  ·exact⟨rfl,rfl,rfl,by simp only[hc,hd,Qe,Qg,Qm,Ql,Qp,Qq,Qr,Qw,QU,Qd];exact sl_⟩
  ·exact⟨rfl,rfl,rfl,by simp only[hc,hd,Qe,Qg,Qm,Ql,Qp,Qq,Qr,Qw,QU,Qd];exact sl_⟩
 rintro t9 _ hs9 ⟨rfl,s6⟩;obtain⟨d4,hd4⟩:∃ c:Bool,c=(d3||(!qf&&decide (0<(x.frm.length:Int)))):=⟨_,rfl⟩;rw[<-hd4]at s6 hins;refine goC ?_;refine WO.mid 9 (fun t' h'=>h7=h'/\zB t' 110= .bool (qw&&zW x.ty s.types)) ?_ ?_<;>simp only[Qn,GB,GM,Q6]
 ·refine go ?_;refine WO.sp (fun hd=> ?_) (fun hd=> ?_)<;>(try simp only[DB]at hd)<;>refine go ?_
  ·refine WO.con (yj h7 x.ty s.types) ?_;rintro _ _ ⟨rfl,rfl⟩;refine go ?_;exact⟨rfl,rfl,rfl,by simp only[hd,Qe,Qg,Qm,Ql,Qp,Qq,Qr,Qw,QU,Qd];exact sl_⟩
  ·exact⟨rfl,rfl,rfl,by simp only[hd,Qe,Qg,Qm,Ql,Qp,Qq,Qr,Qw,QU,Qd];exact sl_⟩
 rintro t10 _ hs10 ⟨rfl,s110⟩;obtain⟨k0,hk0⟩:∃ c:Bool,c=(qw&&zW x.ty s.types):=⟨_,rfl⟩;rw[<-hk0]at s110 hins;refine goC ?_;refine WO.mid 11 (fun t' h'=>h7=h'/\zB t' 7= .bool (k0||(!qw&&decide (x.ty=0)))) ?_ ?_<;>simp only[Qn,GB,GM,Q6]
 ·refine go ?_;refine WO.sp (fun hc=> ?_) (fun hc=> ?_)<;>refine go ?_
  ·exact⟨rfl,rfl,rfl,by simp only[hc,Qe,Qg,Qm,Ql,Qp,Qq,Qr,Qw,QU,Qd];exact sl_⟩
  refine WO.sp (fun hd=> ?_) (fun hd=> ?_)<;>(try simp only[DB]at hd)<;>refine go ?_
  ·exact⟨rfl,rfl,rfl,by simp only[hc,hd,Qe,Qg,Qm,Ql,Qp,Qq,Qr,Qw,QU,Qd];exact sl_⟩
  ·exact⟨rfl,rfl,rfl,by simp only[hc,hd,Qe,Qg,Qm,Ql,Qp,Qq,Qr,Qw,QU,Qd];exact sl_⟩
 rintro t11 _ hs11 ⟨rfl,s7⟩;obtain⟨k1,hk1⟩:∃ c:Bool,c=(k0||(!qw&&decide (x.ty=0))):=⟨_,rfl⟩;rw[<-hk1]at s7 hins;refine go ?_;refine WX.br (fun hf=> ?_) (fun hf=> ?_)<;>rw[hf]at hins<;>refine go ?_
 ·refine WO.sp (fun hd=> ?_) (fun hd=> ?_)<;>(try simp only[DB]at hd)<;>refine go ?_
  ·refine WO.sp (fun he=> ?_) (fun he=> ?_)<;>refine go ?_
   ·refine WO.con (zNq h7 vf s.blocks x.frm sf7 hlf) ?_;rintro _ h8 ⟨rfl,e8⟩;have o1:=o1.ext e8;have sa8:=sa7.ext e8;have sf8:=sf7.ext e8;refine go ?_;refine WO.sp (fun hg=> ?_) (fun hg=> ?_)<;>refine go ?_
    ·refine WO.sp (fun hh=> ?_) (fun hh=> ?_)<;>simp only[DB]at hh<;>refine go ?_
     ·refine WO.sp (fun hi=> ?_) (fun hi=> ?_)<;>simp only[DB]at hi<;>refine go ?_
      ·refine rt ?_;refine⟨?_,e17.trans e8⟩;have hdec:decide ((x.frm.length:Int)<=16)=decide (x.frm.length<=16):=by rw[GP];simp only[Qb];omega
       rw[hdec,hins,hd,he,hg,QZ (show x.frm.length=x.args.length by omega),QZ (show 1<=x.frm.length by omega)];rfl
      ·refine rt ?_;refine⟨?_,e17.trans e8⟩;rw[hins,hd,he,hg,QZ (show x.frm.length=x.args.length by omega),QT (show ¬1<=x.frm.length by omega)];rfl
     ·refine rt ?_;refine⟨?_,e17.trans e8⟩;rw[hins,hd,he,hg,QT (show ¬x.frm.length=x.args.length by omega)];rfl
    ·refine rt ?_;refine⟨?_,e17.trans e8⟩;rw[hins,hd,he,hg];rfl
   ·refine rt ?_;refine⟨?_,e17⟩;rw[hins,hd,he];rfl
  ·refine rt ?_;refine⟨?_,e17⟩;rw[hins,hd];rfl
 ·refine WO.sp (fun hd=> ?_) (fun hd=> ?_)<;>(try simp only[DB]at hd)<;>refine go ?_
  ·refine WO.sp (fun he=> ?_) (fun he=> ?_)<;>refine go ?_
   ·refine rt ?_;refine⟨?_,e17⟩;have hdec:decide ((x.args.length:Int)<=4)=decide (x.args.length<=4):=by rw[GP];simp only[Qb];omega
    rw[hdec,hins,hd,he];rfl
   ·refine rt ?_;refine⟨?_,e17⟩;rw[hins,hd,he];rfl
  ·refine rt ?_;refine⟨?_,e17⟩;rw[hins,hd];rfl
set_option maxRecDepth 100000
theorem zH {α:Type} [Inhabited α] {l:List α} {i:Nat} (h:i<l.length):l.getD i default∈l:=by
 simp[List.getD,QB h]
theorem YH {α:Type} [Inhabited α] {l:List α} {x:α} (h:x∈l):∃ i,i<l.length/\l.getD i default=x:=by
 obtain⟨i,hi,e⟩:=List.getElem_of_mem h;exact⟨i,hi,by simp[List.getD,QB hi,e]⟩
def zL9:ACode:=(oV (oR [oB .lss 9 8 7]) (oV (oT 9 0) (oV (o5 1 (oV (oR [oM 10 8,oM 5 10]) (oV (oR [oM 11 1,oM 12 0,oM 13 5,oI 7 14 12 13,oA 7 15 14,⟨some 16,none,(.call (.tmp 11) [(.tmp 15)])⟩]) (oJ 16 (oV (oR [oM 17 5,oM 4 17]) .ret) .skip)))) (oR [oC .add 18 8 1,oM 8 18]))))
def zQG:ACode:=(oV (oR [oN 4 0]) (oV (oV (oR [oM 6 0,oQ 7 6,oN 8 0]) (o5 0 (.loop zL9))) (oV (oR [oN 4 (-1)]) .ret)))
theorem zOh (h:AHeap) (v fv:Value) (l:List LIns) (p:LIns->Bool) (s:SlN h v l) (hl:(l.length:Int)<=9223372036854775807) (hf:∀ x∈l,∀ h1,Ext h h1->∀ cs,RIns h1 cs x->WV Tryz.prog tb fv [.agg cs.toArray] h1 fun r h'=>r= .bool (p x)/\Ext h1 h'):
  WC Tryz.prog tb 157 [v,fv] h fun r h'=>(∃ n:Int,r=I n/\(decide (0<=n))=l.any p)/\Ext h h':=by
 refine en 19 [(4,none)] zQG ?_;refine WX.loopA [9,10,5,11,12,13,14,15,16,17,4,18,8] (by kernel_rfl) (fun i=>l.length - i) (fun i t h1=>Ext h h1/\zB t 8=I i/\i<=l.length/\∀ j,j<i->p (l.getD j default)=false) 0 ?_ ?_
 ·exact⟨Ext.refl h,sl_,QV _,fun j hj=>absurd hj (GG _)⟩
 rintro i t h1 hsame ⟨e1,s8,hi,hm⟩;have s1:=SlN.ext s e1;refine go ?_;refine WX.br (fun hb=> ?_) (fun hb=> ?_)<;>simp only[DB]at hb
 ·have hi':i<l.length:=by omega
  obtain⟨cs,hcs,pc,hs⟩:=yN s1 hi';have hff:=hf _ (zH hi') h1 e1 cs hcs;obtain⟨va,vf,rfl,hR⟩:=hcs;refine go ?_;refine WO.conV hff ?_;rintro _ h2 ⟨rfl,e2⟩;refine go ?_;refine WX.br (fun hb=> ?_) (fun hb=> ?_)
  ·refine gr ?_;refine⟨⟨i,rfl,?_⟩,e1.trans e2⟩;rw[JD.2 ⟨_,zH hi',hb⟩];simp
  ·refine go ?_;refine zA (i+1) (by omega) ⟨e1.trans e2,sln,by omega,fun j hj=> ?_⟩;by_cases e:j=i
   ·subst e;exact hb
   ·exact hm j (by omega)
 ·refine gr ?_;refine⟨⟨-1,rfl,?_⟩,e1⟩;rw[zBK fun x hx=>by obtain⟨j,hj,rfl⟩:=YH hx;exact hm j (by omega)];rfl
def zQS:ACode:=(oV (oR [oZ 4]) (oV (oR [oM 5 0,oM 6 1,o2 7 157 5 6,oC .geq 8 7 0,oM 4 8]) .ret))
theorem zO8 (h:AHeap) (v fv:Value) (l:List LIns) (p:LIns->Bool) (s:SlN h v l) (hl:(l.length:Int)<=9223372036854775807) (hf:∀ x∈l,∀ h1,Ext h h1->∀ cs,RIns h1 cs x->WV Tryz.prog tb fv [.agg cs.toArray] h1 fun r h'=>r= .bool (p x)/\Ext h1 h'):
  WC Tryz.prog tb 104 [v,fv] h fun r h'=>r= .bool (l.any p)/\Ext h h':=by
 refine en 9 [(4,none)] zQS ?_;refine WO.con (zOh h v fv l p s hl hf) ?_;rintro _ h1 ⟨⟨n,rfl,e⟩,e1⟩;refine gr ?_;exact⟨by rw[<-e];rfl,e1⟩
def zMC:ACode:=(oV (oR [oB .lss 9 8 7]) (oV (oT 9 0) (oV (o5 1 (oV (oR [oM 10 8,oM 5 10]) (oV (oR [oM 11 1,oM 12 0,oM 13 5,oI 5 14 12 13,oA 5 15 14,⟨some 16,none,(.call (.tmp 11) [(.tmp 15)])⟩]) (oJ 16 (oV (oR [oM 17 5,oM 4 17]) .ret) .skip)))) (oR [oC .add 18 8 1,oM 8 18]))))
def zQ5:ACode:=(oV (oR [oN 4 0]) (oV (oV (oR [oM 6 0,oQ 7 6,oN 8 0]) (o5 0 (.loop zMC))) (oV (oR [oN 4 (-1)]) .ret)))
theorem zNf (h:AHeap) (v fv:Value) (l:List LBlk) (p:LBlk->Bool) (s:SlB h v l) (hl:(l.length:Int)<=9223372036854775807) (hf:∀ x∈l,∀ h1,Ext h h1->∀ cs,RBlk h1 cs x->WV Tryz.prog tb fv [.agg cs.toArray] h1 fun r h'=>r= .bool (p x)/\Ext h1 h'):
  WC Tryz.prog tb 156 [v,fv] h fun r h'=>(∃ n:Int,r=I n/\(decide (0<=n))=l.any p)/\Ext h h':=by
 refine en 19 [(4,none)] zQ5 ?_;refine WX.loopA [9,10,5,11,12,13,14,15,16,17,4,18,8] (by kernel_rfl) (fun i=>l.length - i) (fun i t h1=>Ext h h1/\zB t 8=I i/\i<=l.length/\∀ j,j<i->p (l.getD j default)=false) 0 ?_ ?_
 ·exact⟨Ext.refl h,sl_,QV _,fun j hj=>absurd hj (GG _)⟩
 rintro i t h1 hsame ⟨e1,s8,hi,hm⟩;have s1:=SlB.ext s e1;refine go ?_;refine WX.br (fun hb=> ?_) (fun hb=> ?_)<;>simp only[DB]at hb
 ·have hi':i<l.length:=by omega
  obtain⟨cs,hcs,pc,hs⟩:=yN s1 hi';have hff:=hf _ (zH hi') h1 e1 cs hcs;obtain⟨va,rfl,hR⟩:=hcs;refine go ?_;refine WO.conV hff ?_;rintro _ h2 ⟨rfl,e2⟩;refine go ?_;refine WX.br (fun hb=> ?_) (fun hb=> ?_)
  ·refine gr ?_;refine⟨⟨i,rfl,?_⟩,e1.trans e2⟩;rw[JD.2 ⟨_,zH hi',hb⟩];simp
  ·refine go ?_;refine zA (i+1) (by omega) ⟨e1.trans e2,sln,by omega,fun j hj=> ?_⟩;by_cases e:j=i
   ·subst e;exact hb
   ·exact hm j (by omega)
 ·refine gr ?_;refine⟨⟨-1,rfl,?_⟩,e1⟩;rw[zBK fun x hx=>by obtain⟨j,hj,rfl⟩:=YH hx;exact hm j (by omega)];rfl
def zRs:ACode:=(oV (oR [oZ 4]) (oV (oR [oM 5 0,oM 6 1,o2 7 156 5 6,oC .geq 8 7 0,oM 4 8]) .ret))
theorem zPn (h:AHeap) (v fv:Value) (l:List LBlk) (p:LBlk->Bool) (s:SlB h v l) (hl:(l.length:Int)<=9223372036854775807) (hf:∀ x∈l,∀ h1,Ext h h1->∀ cs,RBlk h1 cs x->WV Tryz.prog tb fv [.agg cs.toArray] h1 fun r h'=>r= .bool (p x)/\Ext h1 h'):
  WC Tryz.prog tb 102 [v,fv] h fun r h'=>r= .bool (l.any p)/\Ext h h':=by
 refine en 9 [(4,none)] zRs ?_;refine WO.con (zNf h v fv l p s hl hf) ?_;rintro _ h1 ⟨⟨n,rfl,e⟩,e1⟩;refine gr ?_;exact⟨by rw[<-e];rfl,e1⟩
def zNV:ACode:=(oV (oR [oB .lss 9 8 7]) (oV (oT 9 0) (oV (o5 1 (oV (oR [oM 10 8,oM 5 10]) (oV (oR [oM 11 1,oM 12 0,oM 13 5,oI 2 14 12 13,oA 2 15 14,⟨some 16,none,(.call (.tmp 11) [(.tmp 15)])⟩]) (oJ 16 (oV (oR [oM 17 5,oM 4 17]) .ret) .skip)))) (oR [oC .add 18 8 1,oM 8 18]))))
def zTz:ACode:=(oV (oR [oN 4 0]) (oV (oV (oR [oM 6 0,oQ 7 6,oN 8 0]) (o5 0 (.loop zNV))) (oV (oR [oN 4 (-1)]) .ret)))
theorem zRB (h:AHeap) (v fv:Value) (l:List LFn) (p:LFn->Bool) (s:SlF h v l) (hl:(l.length:Int)<=9223372036854775807) (hf:∀ x∈l,∀ h1,Ext h h1->∀ cs,RFn h1 cs x->WV Tryz.prog tb fv [.agg cs.toArray] h1 fun r h'=>r= .bool (p x)/\Ext h1 h'):
  WC Tryz.prog tb 99 [v,fv] h fun r h'=>(∃ n:Int,r=I n/\(decide (0<=n))=l.any p)/\Ext h h':=by
 refine en 19 [(4,none)] zTz ?_;refine WX.loopA [9,10,5,11,12,13,14,15,16,17,4,18,8] (by kernel_rfl) (fun i=>l.length - i) (fun i t h1=>Ext h h1/\zB t 8=I i/\i<=l.length/\∀ j,j<i->p (l.getD j default)=false) 0 ?_ ?_
 ·exact⟨Ext.refl h,sl_,QV _,fun j hj=>absurd hj (GG _)⟩
 rintro i t h1 hsame ⟨e1,s8,hi,hm⟩;have s1:=SlF.ext s e1;refine go ?_;refine WX.br (fun hb=> ?_) (fun hb=> ?_)<;>simp only[DB]at hb
 ·have hi':i<l.length:=by omega
  obtain⟨cs,hcs,pc,hs⟩:=yN s1 hi';have hff:=hf _ (zH hi') h1 e1 cs hcs;obtain⟨va,rfl,hR⟩:=hcs;refine go ?_;refine WO.conV hff ?_;rintro _ h2 ⟨rfl,e2⟩;refine go ?_;refine WX.br (fun hb=> ?_) (fun hb=> ?_)
  ·refine gr ?_;refine⟨⟨i,rfl,?_⟩,e1.trans e2⟩;rw[JD.2 ⟨_,zH hi',hb⟩];simp
  ·refine go ?_;refine zA (i+1) (by omega) ⟨e1.trans e2,sln,by omega,fun j hj=> ?_⟩;by_cases e:j=i
   ·subst e;exact hb
   ·exact hm j (by omega)
 ·refine gr ?_;refine⟨⟨-1,rfl,?_⟩,e1⟩;rw[zBK fun x hx=>by obtain⟨j,hj,rfl⟩:=YH hx;exact hm j (by omega)];rfl
def zUe:ACode:=(oV (oR [oZ 4]) (oV (oR [oM 5 0,oM 6 1,o2 7 99 5 6,oC .geq 8 7 0,oM 4 8]) .ret))
theorem zST (h:AHeap) (v fv:Value) (l:List LFn) (p:LFn->Bool) (s:SlF h v l) (hl:(l.length:Int)<=9223372036854775807) (hf:∀ x∈l,∀ h1,Ext h h1->∀ cs,RFn h1 cs x->WV Tryz.prog tb fv [.agg cs.toArray] h1 fun r h'=>r= .bool (p x)/\Ext h1 h'):
  WC Tryz.prog tb 63 [v,fv] h fun r h'=>r= .bool (l.any p)/\Ext h h':=by
 refine en 9 [(4,none)] zUe ?_;refine WO.con (zRB h v fv l p s hl hf) ?_;rintro _ h1 ⟨⟨n,rfl,e⟩,e1⟩;refine gr ?_;exact⟨by rw[<-e];rfl,e1⟩
set_option maxRecDepth 100000
abbrev szV (s:LSz):List Value:=[I s.types,I s.funcs,I s.regs,I s.blocks]
def zRy:ACode:=(oV (oR [oX 2 0,oZ 3]) (oV (oR [oA 7 4 2,oA 4 5 1,o2 6 101 4 5,oW 7 6,oM 3 7]) .ret))
theorem zTb (h h0:AHeap) (p:Value) (x:LIns) (s:LSz) (cs:List Value) (T:Tbl h) (hR:RIns h cs x) (o:OwnC h0 h p (szV s)):
  WC Tryz.prog tb 100 [.agg cs.toArray,p] h fun r h'=>r= .bool (!zCr x s)/\Ext h h':=by
 obtain⟨va,vf,rfl,sa,sf,hla,hlf,ho⟩:=hR;refine en 8 [(3,none)] zRy ?_;refine WO.bx ?_;intro p2 h1 e1 o1;have o:=o.ext e1;refine go ?_;refine WO.con (zTG h1 x va vf s (T.ext e1) (sa.ext e1) (sf.ext e1) (by omega) (by omega) ho) ?_;rintro _ h2 ⟨rfl,e2⟩;refine gr ?_;exact⟨rfl,e1.trans e2⟩
def zRX:ACode:=(oV (oR [oX 3 0,oZ 4]) (oV (oR [oF 0 5 3,oL 6 5,oL 7 1,o2 8 104 6 7,oM 9 8,oH 9 (oF 1 10 3),oH 9 (oA 4 11 10),oH 9 (oA 4 12 2),oH 9 (o2 13 105 11 12),oH 9 (oW 14 13),oO 15 9 14,oM 4 15]) .ret))
theorem zT0 (h h0 h00:AHeap) (p1 p2:Value) (b:LBlk) (s:LSz) (cs:List Value) (T:Tbl h) (hR:RBlk h cs b) (o1:OwnC h0 h p1 [.func (.func 100) #[] #[p2]]) (o2:OwnC h00 h p2 (szV s)):
  WC Tryz.prog tb 103 [.agg cs.toArray,p1,p2] h fun r h'=>r= .bool (zCo b s)/\Ext h h':=by
 obtain⟨vi,rfl,si,hl⟩:=hR;refine en 16 [(4,none)] zRX ?_;refine WO.bx ?_;intro p3 h1 e1 o3;have o1:=o1.ext e1;have o2:=o2.ext e1;have T1:=T.ext e1;refine go ?_;refine WO.con (zO8 h1 vi _ b.ins (fun x=> !zCr x s) (SlN.ext si e1) (by omega) ?_) ?_
 ·intro x hx h2 e2 cs hcs;exact WV.func (zTb h2 h00 p2 x s cs (T1.ext e2) hcs (o2.ext e2))
 rintro _ h2 ⟨rfl,e2⟩;have o3:=o3.ext e2;have o2:=o2.ext e2;refine go ?_;refine WO.sp (fun hb=> ?_) (fun hb=> ?_)<;>refine go ?_
 ·refine rt ?_;exact⟨by simp only[zCo,hb,Qq];rfl,e1.trans e2⟩
 ·refine WO.con (zUc h2 b.fin s) ?_;rintro _ h3 ⟨rfl,e3⟩;refine gr ?_;exact⟨by simp only[zCo,hb,Qp];rfl,(e1.trans e2).trans e3⟩
theorem ZK (l:List LBlk):0<=zt l:=by
 unfold zt;induction l with
 |nil=>simp
 |cons b l ih=>simp only[Qh,List.sum_cons];omega
def zUD:ACode:=(oV (oR [oX 2 0,oX 3 1,oZ 4]) (oV (oV (oR [oF 0 7 3,oL 8 7,oF 0 9 2,oL 10 9,oQ 11 10,o2 12 39 8 11,oW 13 12,oM 14 13,oH 14 (oF 0 15 2),oH 14 (oL 16 15),oH 14 (oF 0 17 3),oH 14 (oL 18 17),oH 14 (oI 4 19 16 18),oH 14 (oF 0 20 19),oH 14 (oL 21 20),oH 14 (oD .neq 22 21 3),oO 23 14 22,oM 24 23,oH 24 (oF 1 25 3),oH 24 (oL 26 25),oH 24 (oQ 27 26),oH 24 (oC .sub 28 27 1),⟨some 29,some (24,false),(.call (.func 39) [(.tmp 28),(.const (.int .i64 16))])⟩,oH 24 (oW 30 29),oO 31 24 30,oM 32 31,oH 32 (oA 2 33 3),oH 32 (o1 34 40 33),oH 32 (oC .gtr 35 34 128),oO 36 32 35]) (oJ 36 (oV (oR [oZ 4]) .ret) .skip)) (oV (o6 [oF 0 37 2,oL 38 37,oQ 39 38,oF 1 40 2,oL 41 40,oQ 42 41,oF 0 43 2,oL 44 43,oF 0 45 3,oL 46 45,oI 4 47 44 46,oF 3 48 47,oL 49 48,oQ 50 49,oA 2 51 3,(o1 52 40 51,[1,4,7,9,12]),oB .add 53 50 52,oF 1 54 3,(oL 55 54,[15]),oQ 56 55,(⟨some 57,none,(.build [(.int .i64 0),(.int .i64 0),(.int .i64 0),(.int .i64 0)] [(0,1,(.tmp 39)),(1,1,(.tmp 42)),(2,1,(.tmp 53)),(3,1,(.tmp 56))])⟩,[]),(⟨some 5,none,(.alloc [(.int .i64 0),(.int .i64 0),(.int .i64 0),(.int .i64 0)])⟩,[]),oS 4 5 57]) (oV (oR [⟨some 58,none,(.mkFunc (.func 100) [] [(.tmp 5)])⟩,⟨some 6,none,(.alloc [.nilFunc])⟩,oS 1 6 58]) (oV (oR [oF 1 59 3,oL 60 59,⟨some 61,none,(.mkFunc (.func 103) [] [(.tmp 6),(.tmp 5)])⟩,o2 62 102 60 61,oW 63 62,oM 4 63]) .ret)))))
theorem zU5 (h:AHeap) (vt vf vb:Value) (T:List LType) (F:List LFn) (f:LFn) (tt:Tbl h) (hm:h.mark<=h.n) (st:SlT h vt T) (sf:SlF h vf F) (sb:SlB h vb f.blocks) (hT:T.length<=100) (hp:∀ x∈T,x.parts.length<=100) (hF:(F.length:Int)<=9223372036854775807) (hB:f.blocks.length<=1000) (hI:∀ b∈f.blocks,b.ins.length<=1000):
  WC Tryz.prog tb 65 [.agg #[vt,vf],.agg #[I f.sig,vb]] h fun r h'=>r= .bool (fnL T F.length f)/\Ext h h':=by
 refine en 64 [(4,none)] zUD ?_;refine WO.bx ?_;intro p2 h1 e1 o1;refine WO.bx ?_;intro p3 h2 e2 o2;have o1:=o1.ext e2;have e12:=e1.trans e2;have st2:=st.ext e12;have sf2:=SlF.ext sf e12;have sb2:=SlB.ext sb e12;have tt2:=tt.ext e12;have hm2:h2.mark<=h2.n:=by have:=e12.mark;have:=e12.n;omega
 have hbad:zB8 T f=zB8 T f:=rfl;conv at hbad=>rhs;unfold zB8
 refine go ?_;refine WO.con (yj h2 f.sig T.length) ?_;rintro _ _ ⟨rfl,rfl⟩;refine go ?_;refine WO.sp (fun hb=> ?_) (fun hb=> ?_)<;>simp only[DB]at hb<;>refine go ?_
 ·refine rt ?_;refine⟨?_,e12⟩;rw[fnL,QI (show zB8 T f=true by rw[hbad,hb];rfl)];rfl
 have hsig:0<=f.sig/\f.sig<(T.length:Int):=by
  unfold zW at hb;simpa using hb
 obtain⟨csT,⟨vp,rfl,sp,hsp⟩,pcT,hsT⟩:=YI (i:=f.sig.toNat) st2 (by omega);have hpx:(T.getD f.sig.toNat default).parts.length<=100:=hp _ (zH (by omega));refine go ?_;refine WO.sp (fun hc=> ?_) (fun hc=> ?_)<;>simp only[DB]at hc<;>refine go ?_
 ·refine rt ?_;refine⟨?_,e12⟩;rw[fnL,QI (show zB8 T f=true by rw[hbad,hb,QT hc];rfl)];rfl
 refine WO.con (yj h2 ((f.blocks.length:Int) - 1) 16) ?_;rintro _ _ ⟨rfl,rfl⟩;refine go ?_;refine WO.sp (fun hd=> ?_) (fun hd=> ?_)<;>simp only[DB]at hd<;>refine go ?_
 ·refine rt ?_;refine⟨?_,e12⟩;rw[fnL,QI (show zB8 T f=true by rw[hbad,hb,QZ hc,hd];rfl)];rfl
 refine WO.con (zD0 h2 f.sig vb f.blocks sb2 hB hI) ?_;rintro _ h3 ⟨rfl,e3⟩;have e13:=e12.trans e3;have o1:=o1.ext e3;have o2:=o2.ext e3;have st3:=st2.ext e3;have sf3:=SlF.ext sf2 e3;have sb3:=SlB.ext sb2 e3;have tt3:=tt2.ext e3;have hm3:h3.mark<=h3.n:=by have:=e3.mark;have:=e3.n;omega
 refine go ?_;refine WX.br (fun he=> ?_) (fun he=> ?_)<;>simp only[DB]at he<;>refine go ?_
 ·refine rt ?_;refine⟨?_,e13⟩;rw[fnL,QI (show zB8 T f=true by rw[hbad,hb,QZ hc,hd,QZ he];rfl)];rfl
 refine goC ?_;have hbadF:zB8 T f=false:=by rw[hbad,hb,QZ hc,hd,QT (by omega)];rfl
 obtain⟨a',n',k',rfl⟩:=zM st3;clear hbad hb hd pcT;refine WX.regionU2 1 rfl rfl ?_;have e4:=zq 1 h3;generalize hqq:zC 1 h3=h4 at *;have hn4:h4.n=h3.n+1:=by rw[<-hqq];rfl
 have o1r:OwnC h (inC h4) p2 [.slice a' n' k',vf]:=by have:=o1.ext e4;exact this
 have o2r:OwnC h1 (inC h4) p3 [I f.sig,vb]:=by have:=o2.ext e4;exact this
 have str:SlT (inC h4) (.slice a' n' k') T:=by have:=st3.ext e4;exact this
 have sfr:SlF (inC h4) vf F:=by have:=SlF.ext sf3 e4;exact this
 have sbr:SlB (inC h4) vb f.blocks:=by have:=SlB.ext sb3 e4;exact this
 obtain⟨csr,⟨vpr,rfl,spr,hspr⟩,pcr,hsr⟩:=YI (i:=f.sig.toNat) str (by omega);refine goU ?_;refine WO.con (zD0 (inC h4) f.sig vb f.blocks sbr hB hI) ?_;rintro _ h5 ⟨rfl,e5⟩;refine WO.nil ?_;refine zSp e5 rfl ?_;have o1s:OwnC h (inC h5) p2 [.slice a' n' k',vf]:=by have:=o1r.ext e5;exact this
 have o2s:OwnC h1 (inC h5) p3 [I f.sig,vb]:=by have:=o2r.ext e5;exact this
 have sbs:SlB (inC h5) vb f.blocks:=by have:=SlB.ext sbr e5;exact this
 have hmp:=ZK f.blocks;refine goU ?_;refine zKe o2 (by omega) ?_;refine goU ?_;have hn5:h3.n<h5.n:=by have:h4.n<=h5.n:=e5.n;omega
 refine WU2.al2 hm3 hn5 ?_;rw[<-hqq]at e5;have e6:=zIl (o:= .row [I 0,I 0,I 0,I 0] true 0) (o':= .row [I (T.length:Int),I (F.length:Int),I (((T.getD f.sig.toNat default).parts.length:Int)+zt f.blocks),I (f.blocks.length:Int)] true 0) (k:=0) e5;have o5:=zIi (cs:=[I (T.length:Int),I (F.length:Int),I (((T.getD f.sig.toNat default).parts.length:Int)+zt f.blocks),I (f.blocks.length:Int)]) (o:= .row [I 0,I 0,I 0,I 0] true 0) e5;unfold zB1;refine(?_:∀ h6,Ext h3 h6->OwnC h3 h6 (.pointer (some ⟨h3.n,0,none⟩)) (szV (szL T F.length f))->zFL _ _ _ _ _ _ h6) _ e6 o5;clear e6 o5;intro h6 e6 o5;generalize Value.pointer (some ⟨h3.n,0,none⟩)=p5 at *;have o2:=o2.ext e6;have sb6:=SlB.ext sb3 e6;have tt6:=tt3.ext e6;have e16:=e13.trans e6;refine go ?_;refine WO.al ?_;intro p6 h7 e7 o6;refine WO.stC0 o6 e7 ?_;intro h8 e8 o6 _;have o2:=o2.ext e8;have o5:=o5.ext e8;have sb8:=SlB.ext sb6 e8;have tt8:=tt6.ext e8;refine go ?_;refine WO.con (zPn h8 vb _ f.blocks (fun b=>zCo b (szL T F.length f)) sb8 (by omega) ?_) ?_
 ·intro b hb h9 e9 cs hcs;exact WV.func (zT0 h9 h6 h3 p6 p5 b (szL T F.length f) cs (tt8.ext e9) hcs (o6.ext e9) (o5.ext e9))
 rintro _ h9 ⟨rfl,e9⟩;refine gr ?_;exact⟨by rw[fnL,QD (by rw[hbadF];exact Bool.noConfusion)];rfl,(e16.trans e8).trans e9⟩
end
end Go.Proofs.YteekipjpghikkaaGreatDoor
