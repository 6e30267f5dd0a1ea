/- Walks of functions, plain laws; proves no statement. -/
import Derived.Test.YtmejfcakhpihlaaGreatDoorAmU
import Derived.Test.YtmejfcakhpihlaaGreatDoorRows
set_option linter.unusedVariables false
set_option linter.unusedSimpArgs false
set_option maxHeartbeats 4000000
namespace Go.Proofs.YtmejfcakhpihlaaGreatDoor
noncomputable section
open Go.Am
def hasT:List (Bool×Bool×Bool×Bool×Bool×Bool):=
 let f:=false;let t:=true
 [(f,f,f,f,f,f),(f,f,t,f,f,t),(f,f,f,f,f,t),(f,f,t,f,f,t),(t,t,f,f,f,t),(t,t,f,f,f,t),(t,t,f,f,f,t),(t,t,f,f,f,t),(t,t,f,f,f,t),(t,t,f,f,f,t),(t,t,f,f,f,t),(f,f,f,f,f,t),(f,f,f,f,f,t),(t,f,f,f,f,f),(t,f,t,f,f,t),(t,t,f,f,f,t),(t,f,f,f,f,t),(t,t,f,f,f,f),(f,f,t,t,f,t),(t,f,f,t,f,t),(f,f,f,f,f,t),(t,f,f,f,f,f),(f,f,f,t,t,t)]
def zW(op:Int):Bool×Bool×Bool×Bool×Bool×Bool:=hasT.getD op.toNat (false,false,false,false,false,false)
def YZ(x:Bool×Bool×Bool×Bool×Bool×Bool):List Value:=[.bool x.1,.bool x.2.1,.bool x.2.2.1,.bool x.2.2.2.1,.bool x.2.2.2.2.1,.bool x.2.2.2.2.2]
def ZT:List Value:=(hasT.map YZ).flatten
structure U5 where
 kind:Int
 elem:Int
 many:Int
 parts:List Int
instance:Inhabited U5:=⟨⟨0,0,0,[]⟩⟩
def RTy(h:U2)(cs:List Value)(x:U5):Prop:=∃ va,cs=[.int .u8 x.kind,I x.elem,I x.many,va]/\WM h va x.parts/\(x.parts.length:Int)<=9223372036854775807
theorem RTy.ext{h h' cs x}(r:RTy h cs x)(e:U8 h h'):RTy h' cs x:=let⟨va,a,b,c⟩:=r;⟨va,a,b.ext e,c⟩
abbrev Wv(h:U2)(v:Value)(T:List U5):Prop:=W4 4 RTy h v T
theorem Wv.ext{h h' v T}(s:Wv h v T)(e:U8 h h'):Wv h' v T:=W4.ext (fun _ _ r=>RTy.ext r e) s e
theorem zUQ{h:U2}{v:Value}{l:List Int}(s:WM h v l)(k:IntKind)(a b n:Int):zK [.int k n,I a,I b,v]=true:=by
 obtain⟨_,_,_,rfl⟩:=Wb.shape s;rfl
def YE(x:U5):Bool:=decide (1<=x.kind)&&decide (x.kind<=3)
def yd(m:Int)(l:List Int):Bool:=l.all fun n=>decide (0<=n)&&decide (n<m)
def yQ(x:U5):Bool:=
 (if x.kind=1\/x.kind=4 then decide (x.elem=0)else true)&&(if x.kind=1\/x.kind=2\/x.kind=3\/x.kind=4 then decide (x.many=0)else true)&&
  (if x.kind=1\/x.kind=2\/x.kind=5 then decide (x.parts.length=0)else true)
def Zf(T:List U5)(x:U5)(k:Nat)(sizes:List Int):Int×Bool:=
 if x.kind=1 then(1,yQ x)
 else if x.kind=2 then(1,yQ x&&yd T.length [x.elem])
 else if x.kind=3 then(1,yQ x&&decide (x.parts.length<=4)&&yd T.length (x.elem::x.parts)&&(x.elem::x.parts).all fun n=>YE (T.getD n.toNat default))
 else if x.kind=4 then(if yQ x&&yd k x.parts then((x.parts.map fun n=>sizes.getD n.toNat 0).sum,decide (0<x.parts.length)&&decide (x.parts.length<=8)&&decide ((x.parts.map fun n=>sizes.getD n.toNat 0).sum<=32))else(0,false))
 else if x.kind=5 then(if yQ x&&yd k [x.elem]&&decide (1<=x.many)&&decide (x.many<=16)then(x.many*sizes.getD x.elem.toNat 0,decide (x.many*sizes.getD x.elem.toNat 0<=32))else(0,false))
 else(1,false)
theorem zHu{T:List U5}{x:U5}{k:Nat}{s:List Int}(h:x.kind=3):Zf T x k s=(1,yQ x&&decide (x.parts.length<=4)&&yd T.length (x.elem::x.parts)&&(x.elem::x.parts).all fun n=>YE (T.getD n.toNat default)):=by
 unfold Zf;rw[QC (by omega),QC (by omega),QI h]
theorem zS9{T:List U5}{x:U5}{k:Nat}{s:List Int}(h:x.kind=4):Zf T x k s=(if yQ x&&yd k x.parts then((x.parts.map fun n=>s.getD n.toNat 0).sum,decide (0<x.parts.length)&&decide (x.parts.length<=8)&&decide ((x.parts.map fun n=>s.getD n.toNat 0).sum<=32))else(0,false)):=by
 unfold Zf;rw[QC (by omega),QC (by omega),QC (by omega),QI h]
theorem zOY{T:List U5}{x:U5}{k:Nat}{s:List Int}(h:x.kind=5):Zf T x k s=(if yQ x&&yd k [x.elem]&&decide (1<=x.many)&&decide (x.many<=16)then(x.many*s.getD x.elem.toNat 0,decide (x.many*s.getD x.elem.toNat 0<=32))else(0,false)):=by
 unfold Zf;rw[QC (by omega),QC (by omega),QC (by omega),QC (by omega),QI h]
def Z2(T:List U5):Nat->Option (List Int)
 |0=>some []
 |k+1=>match Z2 T k with
  |none=>none
  |some s=>if(Zf T (T.getD k default) k s).2 then some (s++[(Zf T (T.getD k default) k s).1])else none
def yq(T:List U5):Int:=if 16<T.length then 4 else match Z2 T T.length with
 |some _=>0
 |none=>30
def tb:Wi:=⟨zED Tryz.prog,fun f=>if f=15 then some (zBT [(0,ZT)] (.bool true))else none⟩
theorem zTe(f:Nat)(hf:Nat.beq f 15=false:=by rfl):tb.stub f=none:=QC (JD hf)
theorem zOF(h:U2)(ht:yF h 0=some ZT):WC Tryz.prog tb 15 [] h fun r h'=>r=.bool true/\h=h':=by
 refine WC.stub (s:=zBT [(0,ZT)] (.bool true)) (by show(if 15=15 then some (zBT [(0,ZT)] (.bool true))else none)=_;exact QI rfl) (v:= .bool true) (h':=h) ?_ ⟨rfl,rfl⟩;have hl:zAV h [(0,ZT)]=true:=by
  unfold yF at ht;unfold zAV;simp only[List.all_cons,List.all_nil,Qj];split at ht
  ·rename_i c o lo hg;cases ht;rw[hg];show zAj ZT ZT=true;kernel_rfl
  ·cases ht
 unfold zBT;rw[hl];rfl
theorem en{f:Nat}{args:List Value}{h:U2}{Q:Value->U2->Prop}(n:Nat)(rs:List (Nat×Option (Bool×Nat)))(b:U3){G':Prop}(k:G')(hs:tb.stub f=none:=by exact zTe _)(hc:tb.code f=some ⟨n,rs,b⟩:=by kernel_rfl)
  (r:Wrap G'->WX Tryz.prog tb b ⟨zDn args 0 .leaf,[],none⟩ h (zEm Tryz.prog tb rs Q):=by
  intro hgo;simp only[zDn,Q6,Nat.reduceAdd];refine go ?_;exact hgo.out):WC Tryz.prog tb f args h Q:=WC.of hs hc (r ⟨k⟩)
set_option maxRecDepth 100000
theorem zBk{α:Type}{p:α->Bool}{l:List α}(h:∀ x∈l,p x=false):l.any p=false:=by
 rw[G2];intro x hx;rw[h x hx];exact Bool.noConfusion
theorem zb{l:List Int}{i:Nat}(h:i<l.length):l.getD i 0∈l:=by
 simp[List.getD,QB h]
theorem zBG{l:List Int}{x:Int}(h:x∈l):∃ i,i<l.length/\l.getD i 0=x:=by
 obtain⟨i,hi,e⟩:=List.getElem_of_mem h;exact⟨i,hi,by simp[List.getD,QB hi,e]⟩
def zQJ:U3:=(oV (oR [oZ 3]) (oV (oR [oM 4 0,oC .lss 5 4 0,oM 6 5,oH 6 (oM 7 0),oH 6 (oL 8 1),oH 6 (oB .geq 9 7 8),oO 10 6 9,oM 3 10]) .ret))
theorem zLT(h:U2)(h0:U2)(p:Value)(n m:Int)(o:U6 h0 h p [I m]):
  WC Tryz.prog tb 213 [I n,p] h fun r h'=>r=.bool (decide (n<0\/m<=n))/\U8 h h':=by
 refine en 11 [(3,none)] zQJ ?_;repeat' (first|(refine VE (fun hb=> ?_) (fun hb=> ?_)<;>(try simp only[DB]at hb)<;>refine go ?_)|(refine VI (fun hb=> ?_) (fun hb=> ?_)<;>(try simp only[DB]at hb)<;>refine go ?_))
 all_goals (refine rt ?_;exact⟨by first|(simp[one];done)|(simp[one];omega),U8.refl h⟩)
def zMA:U3:=(oV (oR [oB .lss 9 8 7]) (oV (oT 9 0) (oV (o5 1 (oV (oR [oM 10 8,oM 5 10]) (oV (oR [oM 11 1,oM 12 0,oM 13 5,oI 1 14 12 13,oL 15 14,⟨some 16,none,(.call (.tmp 11) [(.tmp 15)])⟩]) (oJ 16 (oV (oR [oM 17 5,oM 4 17]) .ret) .skip)))) (oR [oC .add 18 8 1,oM 8 18]))))
def zRI:U3:=(oV (oR [oN 4 0]) (oV (oV (oR [oM 6 0,oQ 7 6,oN 8 0]) (o5 0 (.loop zMA))) (oV (oR [oN 4 (-1)]) .ret)))
theorem zNB(h:U2)(v fv:Value)(l:List Int)(p:Int->Bool)(s:WM h v l)(hl:(l.length:Int)<=9223372036854775807)(hf:∀ x∈l,∀ h1,U8 h h1->WV Tryz.prog tb fv [I x] h1 fun r h'=>r=.bool (p x)/\U8 h1 h'):
  WC Tryz.prog tb 180 [v,fv] h fun r h'=>(∃ n:Int,r=I n/\(decide (0<=n))=l.any p)/\U8 h h':=by
 refine en 19 [(4,none)] zRI ?_;refine VD [9,10,5,11,12,13,14,15,16,17,4,18,8] (by kernel_rfl) (fun i=>l.length-i) (fun i t h1=>U8 h h1/\zB t 8=I i/\i<=l.length/\∀ j,j<i->p (l.getD j 0)=false) 0 ?_ ?_
 ·exact⟨U8.refl h,WA,QT _,fun j hj=>absurd hj (GR _)⟩
 rintro i t h1 hsame ⟨e1,s8,hi,hm⟩;have s1:=s.ext e1;refine go ?_;refine VE (fun hb=> ?_) (fun hb=> ?_)<;>simp only[DB]at hb
 ·have hi':i<l.length:=by omega
  refine go ?_;refine VN (hf _ (zb hi') h1 e1) ?_;rintro _ h2 ⟨rfl,e2⟩;refine go ?_;refine VE (fun hb=> ?_) (fun hb=> ?_)
  ·refine gr ?_;refine⟨⟨i,rfl,?_⟩,e1.trans e2⟩;rw[JG.2 ⟨_,zb hi',hb⟩];simp
  ·refine go ?_;refine zA (i+1) (by omega) ⟨e1.trans e2,Wx,by omega,fun j hj=> ?_⟩;by_cases e:j=i
   ·subst e;exact hb
   ·exact hm j (by omega)
 ·refine gr ?_;refine⟨⟨-1,rfl,?_⟩,e1⟩;rw[zBk fun x hx=>by obtain⟨j,hj,rfl⟩:=zBG hx;exact hm j (by omega)];rfl
def zP2:U3:=(oV (oR [oZ 4]) (oV (oR [oM 5 0,oM 6 1,o2 7 180 5 6,oC .geq 8 7 0,oM 4 8]) .ret))
theorem zAe(h:U2)(v fv:Value)(l:List Int)(p:Int->Bool)(s:WM h v l)(hl:(l.length:Int)<=9223372036854775807)(hf:∀ x∈l,∀ h1,U8 h h1->WV Tryz.prog tb fv [I x] h1 fun r h'=>r=.bool (p x)/\U8 h1 h'):
  WC Tryz.prog tb 121 [v,fv] h fun r h'=>r=.bool (l.any p)/\U8 h h':=by
 refine en 9 [(4,none)] zP2 ?_;refine VA (zNB h v fv l p s hl hf) ?_;rintro _ h1 ⟨⟨n,rfl,e⟩,e1⟩;refine gr ?_;exact⟨by rw[<-e];rfl,e1⟩
def zRe:U3:=(oV (oR [oX 2 0,oZ 4]) (oV (oR [oM 5 1,⟨some 6,none,(.mkFunc (.func 213) [] [(.tmp 2)])⟩,o2 7 121 5 6,oW 8 7,oM 4 8]) .ret))
theorem zAZ(h:U2)(v:Value)(m:Int)(l:List Int)(s:WM h v l)(hl:(l.length:Int)<=9223372036854775807):
  WC Tryz.prog tb 167 [I m,v] h fun r h'=>r=.bool (yd m l)/\U8 h h':=by
 refine en 9 [(4,none)] zRe ?_;refine VH ?_;intro p h1 e1 o1;refine go ?_;refine VA (zAe h1 v _ l (fun n=>decide (n<0\/m<=n)) (s.ext e1) hl ?_) ?_
 ·intro x hx h2 e2;exact WV.func (zLT h2 h p x m (o1.ext e2))
 rintro _ h2 ⟨rfl,e2⟩;refine gr ?_;refine⟨?_,e1.trans e2⟩;show Value.bool _=_;congr 1;rw[GO];simp only[yd,GZ,G2,QX,QF,QV];exact⟨fun h x hx=>by have:=h x hx;omega,fun h x hx=>by have:=h x hx;omega⟩
def zLy:U3:=(oV (oR [oB .lss 8 7 6]) (oV (oT 8 0) (oV (o5 1 (oV (oR [oI 1 9 5 7,oL 10 9,oM 4 10]) (oR [oM 11 2,oM 12 4,oB .add 13 11 12,oM 2 13]))) (oR [oC .add 14 7 1,oM 7 14]))))
def zRF:U3:=(oV (oR [oN 2 0]) (oV (oV (oR [oM 5 0,oQ 6 5,oN 7 0]) (o5 0 (.loop zLy))) (oV (oR [oM 15 2,oM 2 15]) .ret)))
theorem zPL(h:U2)(v:Value)(l:List Int)(s:WM h v l)(hl:l.length<=1000)(hb:∀ x∈l,0<=x/\x<=1000):
  WC Tryz.prog tb 170 [v] h fun r h'=>r=I l.sum/\h=h':=by
 refine en 16 [(2,none)] zRF ?_;refine VD [8,9,10,4,11,12,13,2,14,7] (by kernel_rfl) (fun i=>l.length-i) (fun i t h1=>h=h1/\zB t 7=I i/\zB t 2=I (l.take i).sum/\i<=l.length/\0<=(l.take i).sum/\(l.take i).sum<=1000*i) 0 ?_ ?_
 ·exact⟨rfl,WA,WA,QT _,by simp,by simp⟩
 rintro i t _ hsame ⟨rfl,s7,s2,hi,hm,hn⟩;refine go ?_;refine VE (fun hc=> ?_) (fun hc=> ?_)<;>simp only[DB]at hc
 ·have hi':i<l.length:=by omega
  have hx:=hb _ (zb hi');refine go ?_;have e:(l.take (i+1)).sum=(l.take i).sum+l.getD i 0:=by
   rw[Q4,Gu];simp[List.getD,QB hi']
  refine zA (i+1) (by omega) ⟨rfl,Wx,by rw[e];exact WA,by omega,by omega,by omega⟩
 ·refine gr ?_;have:i=l.length:=by omega
  subst this;exact⟨by simp[one],rfl⟩
def zSB:U3:=(oV (oR [oX 1 0,oZ 2]) (oV (oR [oF 0 3 1,oL 4 3,oD .geq 5 4 1,oM 6 5,oG 6 (oF 0 7 1),oG 6 (oL 8 7),oG 6 (oD .leq 9 8 3),oP 10 6 9,oM 2 10]) .ret))
theorem zLw(h:U2)(x:U5)(va:Value):
  WC Tryz.prog tb 169 [.agg #[.int .u8 x.kind,I x.elem,I x.many,va]] h fun r h'=>r=.bool (YE x)/\U8 h h':=by
 refine en 11 [(2,none)] zSB ?_;refine VH ?_;intro p h1 e1 o1;refine go ?_;repeat' (first|(refine VE (fun hb=> ?_) (fun hb=> ?_)<;>(try simp only[DB]at hb)<;>refine go ?_)|(refine VI (fun hb=> ?_) (fun hb=> ?_)<;>(try simp only[DB]at hb)<;>refine go ?_))
 all_goals (refine rt ?_;exact⟨by simp[one,YE, *]<;>omega,e1⟩)
def zSG:U3:=(oV (oR [oX 1 0,oZ 2]) (oV (oR [oK 3 (.bool true),oK 4 (.bool true),oK 5 (.bool true)]) (oV (oV (oR [oF 0 6 1,oL 7 6]) (o5 0 (oV (o5 5 (oV (o5 4 (oV (o5 3 (oV (o5 2 (oV (o5 1 (oV (oV (oV (oR [oD .eql 9 7 1,oM 8 9]) (oJ 8 (.exit 1) .skip)) (oV (oV (oR [oD .eql 11 7 2,oM 10 11]) (oJ 10 (.exit 2) .skip)) (oV (oV (oR [oD .eql 13 7 4,oM 12 13]) (oJ 12 (.exit 3) .skip)) (oV (oV (oR [oD .eql 15 7 3,oM 14 15]) (oJ 14 (.exit 4) .skip)) (oV (oR [oD .eql 17 7 5,oM 16 17]) (oJ 16 (.exit 5) .skip)))))) (.exit 0))) (oR [oF 1 18 1,oL 19 18,oC .eql 20 19 0,oM 3 20]))) (oV (o6 [oF 2 21 1,oL 22 21,oC .eql 23 22 0,oF 3 24 1,oL 25 24,oQ 26 25,oC .eql 27 26 0,oM 4 23,oM 5 27]) (.exit 0)))) (oR [oF 1 28 1,oL 29 28,oC .eql 30 29 0,oM 3 30]))) (oV (oR [oF 2 31 1,oL 32 31,oC .eql 33 32 0,oM 4 33]) (.exit 0)))) (oV (oR [oF 3 34 1,oL 35 34,oQ 36 35,oC .eql 37 36 0,oM 5 37]) (.exit 0))))) (oV (oR [oM 38 3,oM 39 38,oG 39 (oM 40 4),oP 41 39 40,oM 42 41,oG 42 (oM 43 5),oP 44 42 43,oM 2 44]) .ret))))
theorem zOw(h:U2)(x:U5)(va:Value)(s:WM h va x.parts):
  WC Tryz.prog tb 166 [.agg #[.int .u8 x.kind,I x.elem,I x.many,va]] h fun r h'=>r=.bool (yQ x)/\U8 h h':=by
 refine en 45 [(2,none)] zSG ?_;refine VH ?_;intro p h1 e1 o1;have s1:=s.ext e1;refine go ?_;repeat' (first|(refine VE (fun hb=> ?_) (fun hb=> ?_)<;>(try simp only[DB]at hb)<;>refine go ?_)|(refine VI (fun hb=> ?_) (fun hb=> ?_)<;>(try simp only[DB]at hb)<;>refine go ?_))
 all_goals (refine rt ?_;refine⟨?_,e1⟩;simp[one,yQ, *])
theorem zF{α:Type}{c:Nat}{R:U2->List Value->α->Prop}{h:U2}{v:Value}{T:List α}(s:W4 c R h v T):∃ a n k,v=.slice a n k:=let⟨_,a,_⟩:=s;a.shape
theorem ZL{h:U2}{v:Value}{T:List U5}{i:Nat}(s:Wv h v T)(hi:i<T.length):∃ cs,RTy h cs (T.getD i default)/\Wt h v (i*4) cs/\zOy v:=by
 obtain⟨cs,a,_,c⟩:=s.at hi;exact⟨cs,by simpa [List.getD,QB hi]using a,c,s.some hi⟩
def zQ5:U3:=(oV (oR [oZ 3]) (oV (oR [oL 4 1,oM 5 0,oI 4 6 4 5,oA 4 7 6,o1 8 169 7,oW 9 8,oM 3 9]) .ret))
theorem zRM(h h0:U2)(p tv:Value)(T:List U5)(n:Int)(o:U6 h0 h p [tv])(s:Wv h tv T)(hn:0<=n/\n<T.length):
  WC Tryz.prog tb 168 [I n,p] h fun r h'=>r=.bool (!YE (T.getD n.toNat default))/\U8 h h':=by
 obtain⟨i,rfl⟩:∃ i:Nat,n=i:=⟨n.toNat,by omega⟩;obtain⟨cs,⟨va,rfl,sv,hv⟩,pc,hs⟩:=ZL (i:=i) s (by omega);refine en 10 [(3,none)] zQ5 ?_;refine VA (zLw h _ va) ?_;rintro _ h1 ⟨rfl,e1⟩;refine gr ?_;exact⟨rfl,e1⟩
def zL5:U3:=(oV (oR [oB .lss 78 77 76]) (oV (oT 78 1) (oV (o5 2 (oV (oR [oI 1 79 75 77,oL 80 79,oM 14 80]) (oR [oM 81 12,oM 82 2,oM 83 14,oI 1 84 82 83,oL 85 84,⟨some 86,none,(.buildSlice 1 1 [(.int .i64 0)] [(0,1,(.tmp 85))])⟩,oY 1 87 81 86,oM 12 87]))) (oR [oC .add 88 77 1,oM 77 88]))))
def zQ9:U3:=(oV (oR [oX 3 0,oN 6 0,oZ 7]) (oV (oR [oL 15 3,oM 16 1,oI 4 17 15 16,oA 4 18 17,⟨some 8,none,(.alloc [(.int .u8 0),(.int .i64 0),(.int .i64 0),(.slice none 0 0)])⟩,oS 4 8 18]) (oV (oR [oA 4 19 8,o1 20 166 19,oM 9 20,oN 10 1]) (oV (oV (oR [oF 0 21 8,oL 22 21]) (o5 0 (oV (oR [oD .eql 24 22 1,oM 23 24]) (oJ 23 .skip (oV (oR [oD .eql 26 22 2,oM 25 26]) (oJ 25 (oR [oM 27 9,oM 28 27,oG 28 (oL 29 3),oG 28 (oQ 30 29),oG 28 (oF 1 31 8),oG 28 (oL 32 31),⟨some 33,some (28,true),(.buildSlice 1 1 [(.int .i64 0)] [(0,1,(.tmp 32))])⟩,oG 28 (o2 34 167 30 33),oP 35 28 34,oM 9 35]) (oV (oR [oD .eql 37 22 3,oM 36 37]) (oJ 36 (oV (oR [oF 1 38 8,oL 39 38,⟨some 40,none,(.buildSlice 1 1 [(.int .i64 0)] [(0,1,(.tmp 39))])⟩,oF 3 41 8,oL 42 41,oY 1 43 40 42,oM 11 43]) (oR [oM 44 9,oM 45 44,oG 45 (oF 3 46 8),oG 45 (oL 47 46),oG 45 (oQ 48 47),oG 45 (oC .leq 49 48 4),oP 50 45 49,oM 51 50,oG 51 (oL 52 3),oG 51 (oQ 53 52),oG 51 (oM 54 11),oG 51 (o2 55 167 53 54),oP 56 51 55,oM 57 56,oG 57 (oM 58 11),⟨some 59,some (57,true),(.mkFunc (.func 168) [] [(.tmp 3)])⟩,oG 57 (o2 60 121 58 59),oG 57 (oW 61 60),oP 62 57 61,oM 9 62])) (oV (oR [oD .eql 64 22 4,oM 63 64]) (oJ 63 (oV (oV (oR [oM 65 9,oM 66 65,oG 66 (oM 67 1),oG 66 (oF 3 68 8),oG 66 (oL 69 68),oG 66 (o2 70 167 67 69),oP 71 66 70,oM 9 71]) (oV (oR [oM 72 9,oW 73 72]) (oJ 73 (oV (oR [oN 6 0,oZ 7]) .ret) .skip))) (oV (oR [oK 12 (.slice none 0 0)]) (oV (oV (oR [oF 3 74 8,oL 75 74,oQ 76 75,oN 77 0]) (o5 1 (.loop zL5))) (oR [oM 89 12,oQ 90 89,oC .gtr 91 90 0,oM 92 91,oG 92 (oM 93 12),oG 92 (oQ 94 93),oG 92 (oC .leq 95 94 8),oP 96 92 95,oM 97 12,o1 98 170 97,oM 9 96,oM 10 98])))) (oV (oR [oD .eql 100 22 5,oM 99 100]) (oJ 99 (oV (oV (oR [oM 101 9,oM 102 101,oG 102 (oM 103 1),oG 102 (oF 1 104 8),oG 102 (oL 105 104),⟨some 106,some (102,true),(.buildSlice 1 1 [(.int .i64 0)] [(0,1,(.tmp 105))])⟩,oG 102 (o2 107 167 103 106),oP 108 102 107,oM 109 108,oG 109 (oF 2 110 8),oG 109 (oL 111 110),oG 109 (oC .geq 112 111 1),oP 113 109 112,oM 114 113,oG 114 (oF 2 115 8),oG 114 (oL 116 115),oG 114 (oC .leq 117 116 16),oP 118 114 117,oM 9 118]) (oV (oR [oM 119 9,oW 120 119]) (oJ 120 (oV (oR [oN 6 0,oZ 7]) .ret) .skip))) (o6 [oF 2 121 8,oL 122 121,oM 123 2,oF 1 124 8,oL 125 124,oI 1 126 123 125,oL 127 126,oB .mul 128 122 127,oM 10 128])) (oR [oZ 9]))))))))))))) (oV (oR [oM 129 10,oM 130 9,oM 131 130,oG 131 (oM 132 10),oG 131 (oC .leq 133 132 32),oP 134 131 133,oM 6 129,oM 7 134]) .ret)))))
theorem zTT(h:U2)(tv sv:Value)(T:List U5)(k:Nat)(sizes:List Int)(st:Wv h tv T)(ss:WM h sv sizes)(hk:k<T.length)(hT:T.length<=100)(hp:∀ x∈T,x.parts.length<=100)(hsz:sizes.length=k)
  (hb0:∀ x∈sizes,0<=x/\x<=1000):
  WC Tryz.prog tb 109 [tv,I k,sv] h fun r h'=>r=.tuple #[I (Zf T (T.getD k default) k sizes).1,.bool (Zf T (T.getD k default) k sizes).2]/\U8 h h':=by
 have hxT:T.getD k default∈T:=by simp[List.getD,QB hk]
 have hpx:=hp _ hxT;generalize hx:T.getD k default=x at *;have hpx:x.parts.length<=100:=hpx;obtain⟨_,_,_,rfl⟩:=zF st;refine en 135 [(6,none),(7,none)] zQ9 ?_;refine VH ?_;intro p3 h1 e1 o3;have st1:=st.ext e1;obtain⟨cs,hR,pc,hs⟩:=ZL (i:=k) st1 hk;rw[hx]at hR;obtain⟨va,rfl,sv0,hv⟩:=hR;refine go ?_;refine WO.al ?_;intro p8 h2 e2 o8;refine go ?_;refine VG o8 e2 ?_ (h1:=zUQ (sv0.ext e2) _ _ _ _);intro h3 e3 o8 _;have o3:=o3.ext e3;have st3:=st1.ext e3;have ss3:=(ss.ext e1).ext e3;have sv3:=sv0.ext e3;refine go ?_;refine VA (zOw h3 x va sv3) ?_;rintro _ h4 ⟨rfl,e4⟩;have o3:=o3.ext e4;have o84:=o8.ext e4;have o8:=o84;have st4:=st3.ext e4;have ss4:=ss3.ext e4;have sv4:=sv3.ext e4;have e14:=(e1.trans e3).trans e4;clear st st1 st3 ss ss3 sv0 sv3 e1 e2 e3 e4 pc hs;refine go ?_;refine VE (fun hb=> ?_) (fun hb=> ?_)<;>simp only[DB]at hb<;>refine go ?_
 ·refine VI (fun hc=> ?_) (fun hc=> ?_)<;>refine go ?_<;>refine rt ?_<;>exact⟨by simp[one,Zf,hb,hc],e14⟩
 refine VE (fun hb2=> ?_) (fun hb2=> ?_)<;>simp only[DB]at hb2<;>refine go ?_
 ·refine VI (fun hc=> ?_) (fun hc=> ?_)<;>refine go ?_
  ·refine WO.bl [x.elem] ?_;intro v5 h5 e5 o5;have st5:=st4.ext e5;have o3:=o3.ext e5;refine go ?_;refine VA (zAZ h5 v5 _ [x.elem] o5.sl (by simp)) ?_;rintro _ h6 ⟨rfl,e6⟩;refine go ?_;refine VI (fun hd=> ?_) (fun hd=> ?_)<;>refine go ?_<;>refine rt ?_<;>exact⟨by simp[one,Zf,hb2,hc,hd],(e14.trans e5).trans e6⟩
  ·refine rt ?_;exact⟨by simp[one,Zf,hb2,hc],e14⟩
 refine VE (fun hb3=> ?_) (fun hb3=> ?_)<;>simp only[DB]at hb3<;>refine go ?_
 ·refine WO.bl [x.elem] ?_;intro v5 h5 e5 o5;have sv5:=sv4.ext e5;have o8:=o8.ext e5;refine go ?_;refine Vb (.inr o5) sv5 e5 (by simp;omega) ?_;intro v6 h6 e6 o6;have st6:=st4.ext e6;have o3:=o3.ext e6;have sv6:=sv4.ext e6;have o8:=U6.ext o84 e6;have e16:=e14.trans e6;refine go ?_;refine VI (fun hc=> ?_) (fun hc=> ?_)<;>refine go ?_
  ·refine VI (fun hd=> ?_) (fun hd=> ?_)<;>simp only[DB]at hd<;>refine go ?_
   ·have hd':x.parts.length<=4:=by omega
    refine VA (zAZ h6 v6 _ _ o6.sl (by simp;omega)) ?_;rintro _ h7 ⟨rfl,e7⟩;have o3:=o3.ext e7;have st7:=st6.ext e7;refine go ?_;refine VI (fun he=> ?_) (fun he=> ?_)<;>refine go ?_
    ·have hin:∀ n∈[x.elem]++x.parts,0<=n/\n<(T.length:Int):=by
      intro n hn;have:=QX.1 he n hn;simpa using this
     refine VA (zAe h7 v6 _ _ (fun n=> !YE (T.getD n.toNat default)) (o6.sl.ext e7) (by simp;omega) ?_) ?_
     ·intro n hn h8 e8;exact WV.func (zRM h8 h p3 _ T n (o3.ext e8) (st7.ext e8) (hin n hn))
     rintro _ h8 ⟨rfl,e8⟩;refine go ?_;have hnot:(!([x.elem]++x.parts).any fun n=> !YE (T.getD n.toNat default))=([x.elem]++x.parts).all fun n=>YE (T.getD n.toNat default):=by
      rw[List.not_any_eq_all_not];simp
     refine VI (fun hf=> ?_) (fun hf=> ?_)<;>refine go ?_<;>refine rt ?_<;>refine⟨?_,(e16.trans e7).trans e8⟩<;>rw[hnot]at hf<;>rw[List.singleton_append]at hf he<;>rw[zHu hb3,hc,he,hf,Qe hd']<;>rfl
    ·refine rt ?_;refine⟨?_,e16.trans e7⟩;rw[List.singleton_append]at he;rw[zHu hb3,hc,he,Qe hd'];rfl
   ·refine rt ?_;refine⟨?_,e16⟩;rw[zHu hb3,hc,Qb (show ¬x.parts.length<=4 by omega)];rfl
  ·refine rt ?_;refine⟨?_,e16⟩;rw[zHu hb3,hc];rfl
 refine VE (fun hb4=> ?_) (fun hb4=> ?_)<;>simp only[DB]at hb4<;>refine go ?_
 ·refine VI (fun hc=> ?_) (fun hc=> ?_)<;>refine go ?_
  ·refine VA (zAZ h4 va _ _ sv4 hv) ?_;rintro _ h5 ⟨rfl,e5⟩;have sv5:=sv4.ext e5;have ss5:=ss4.ext e5;have o8:=o8.ext e5;refine go ?_;refine VE (fun hd=> ?_) (fun hd=> ?_)<;>simp only[DB]at hd<;>refine go ?_
   ·refine rt ?_;exact⟨by simp[one,Zf,hb4,hc,hd],e14.trans e5⟩
   have hin:∀ n∈x.parts,0<=n/\n<(k:Int):=by
    intro n hn;have:=QX.1 hd n hn;simpa using this
   refine VD [78,79,80,14,81,82,83,84,85,86,87,12,88,77] (by kernel_rfl) (fun i=>x.parts.length-i) (fun i t h1=>U8 h5 h1/\zB t 77=I i/\i<=x.parts.length/\∃ v,zB t 12=v/\WJ h5 h1 v ((x.parts.take i).map fun n=>sizes.getD n.toNat 0)) 0 ?_ ?_
   ·exact⟨U8.refl _,WA,QT _,_,WA,.inl ⟨rfl,rfl⟩⟩
   ·rintro i t h6 hsame ⟨e6,s77,hi,v,s12,o12⟩;have sv6:=sv5.ext e6;have ss6:=ss5.ext e6;refine go ?_;refine VE (fun he=> ?_) (fun he=> ?_)<;>simp only[DB]at he
    ·have hi':i<x.parts.length:=by omega
     have hx2:=hin _ (zb hi');refine go ?_;refine WO.bl [sizes.getD (x.parts.getD i 0).toNat 0] ?_;intro v7 h7 e7 o7;refine go ?_;refine Vb (o12.ext e7) o7.sl (e6.trans e7) (by simp;omega) ?_;intro v8 h8 e8 o8;refine go ?_;refine zA (i+1) (by omega) ⟨e8,Wx,by omega,_,WA,?_⟩;have e:(x.parts.take (i+1)).map (fun n=>sizes.getD n.toNat 0)=(x.parts.take i).map (fun n=>sizes.getD n.toNat 0)++[sizes.getD (x.parts.getD i 0).toNat 0]:=by
      rw[Q4,GA];simp[List.getD,QB hi']
     rw[e];exact o8
    ·have:i=x.parts.length:=by omega
     subst this;rw[Q5]at o12;have hall:∀ y∈x.parts.map (fun n=>sizes.getD n.toNat 0),0<=y/\y<=1000:=by
      intro y hy;obtain⟨n,hn,rfl⟩:=Qt.1 hy;have:=hin n hn;exact hb0 _ (zb (by omega))
     have o12:=o12.sl;refine go ?_;have hml:(x.parts.map fun n=>sizes.getD n.toNat 0).length=x.parts.length:=Qp ..;have e36:=(e14.trans e5).trans e6;have hr:∀ {b1 b2:Bool},decide (0<x.parts.length)=b1->decide (x.parts.length<=8)=b2->Value.tuple #[I (Zf T x k sizes).1,.bool (Zf T x k sizes).2]=
       .tuple #[I (x.parts.map fun n=>sizes.getD n.toNat 0).sum,.bool (b1&&b2&&decide ((x.parts.map fun n=>sizes.getD n.toNat 0).sum<=32))]:=by
      intro b1 b2 h1 h2;rw[zS9 hb4,hc,hd,h1,h2];rfl
     clear hb0 hp hx hxT o3 o8 o84 st4 ss4 sv4 ss5 sv5 ss6 sv6 hsame;refine VI (fun hf=> ?_) (fun hf=> ?_)<;>simp only[DB,Qp]at hf<;>refine go ?_
     ·refine VA (zPL h6 v _ o12 (by simp;omega) hall) ?_;rintro _ _ ⟨rfl,rfl⟩;refine go ?_;refine VI (fun hg=> ?_) (fun hg=> ?_)<;>simp only[DB,Qp]at hg<;>refine go ?_
      ·refine rt ?_;refine⟨?_,e36⟩;rw[hr (Qe (by omega)) (Qe (by omega))];rfl
      ·refine rt ?_;refine⟨?_,e36⟩;rw[hr (Qe (by omega)) (Qb (by omega))];rfl
     ·refine VA (zPL h6 v _ o12 (by simp;omega) hall) ?_;rintro _ _ ⟨rfl,rfl⟩;refine gr ?_;refine⟨?_,e36⟩;rw[hr (Qb (by omega)) rfl];rfl
  ·refine rt ?_;exact⟨by simp[one,Zf,hb4,hc],e14⟩
 refine VE (fun hb5=> ?_) (fun hb5=> ?_)<;>simp only[DB]at hb5<;>refine go ?_
 ·refine VI (fun hc=> ?_) (fun hc=> ?_)<;>refine go ?_
  ·refine WO.bl [x.elem] ?_;intro v5 h5 e5 o5;have ss5:=ss4.ext e5;have o8:=o8.ext e5;refine go ?_;refine VA (zAZ h5 v5 _ [x.elem] o5.sl (by simp)) ?_;rintro _ h6 ⟨rfl,e6⟩;have ss6:=ss5.ext e6;have o8:=o8.ext e6;have e36:=(e14.trans e5).trans e6;have hr:∀ {b1 b2 b3:Bool},yd k [x.elem]=b1->decide (1<=x.many)=b2->decide (x.many<=16)=b3->Value.tuple #[I (Zf T x k sizes).1,.bool (Zf T x k sizes).2]=
     (if b1&&b2&&b3 then .tuple #[I (x.many*sizes.getD x.elem.toNat 0),.bool (decide (x.many*sizes.getD x.elem.toNat 0<=32))]else .tuple #[I 0,.bool false]):=by
    intro b1 b2 b3 h1 h2 h3;rw[zOY hb5,hc,h1,h2,h3];cases b1<;>cases b2<;>cases b3<;>rfl
   have hin:yd k [x.elem]=true->0<=x.elem/\x.elem<(k:Int):=by
    intro hd;have:=QX.1 hd x.elem (by simp);simpa using this
   have hs0:∀ n:Int,0<=n/\n<(k:Int)->0<=sizes.getD n.toNat 0/\sizes.getD n.toNat 0<=1000:=fun n hn=>hb0 _ (zb (by omega));clear hb0 hp hx hxT o3 o84 st4 ss4 sv4 ss5 o5;refine go ?_;refine VI (fun hd=> ?_) (fun hd=> ?_)<;>refine go ?_
   ·have hin:=hin hd;have hs:=hs0 _ hin;refine VI (fun he=> ?_) (fun he=> ?_)<;>simp only[DB]at he<;>refine go ?_
    ·refine VE (fun hf=> ?_) (fun hf=> ?_)<;>simp only[DB]at hf<;>refine go ?_
     ·refine rt ?_;refine⟨?_,e36⟩;rw[hr hd (Qe he) (Qb (by omega))];rfl
     ·have hm1:x.many*sizes.getD x.elem.toNat 0<=16*1000:=Int.mul_le_mul (by omega) hs.2 hs.1 (by omega);have hm0:0<=x.many*sizes.getD x.elem.toNat 0:=Int.mul_nonneg (by omega) hs.1;refine gr ?_;refine⟨?_,e36⟩;rw[hr hd (Qe he) (Qe (by omega))];rfl
    ·refine rt ?_;refine⟨?_,e36⟩;rw[hr hd (Qb (by omega)) rfl];cases(decide (x.many<=16))<;>rfl
   ·refine rt ?_;refine⟨?_,e36⟩;rw[hr hd rfl rfl];rfl
  ·refine rt ?_;refine⟨?_,e14⟩;rw[zOY hb5,hc];rfl
 ·refine rt ?_;exact⟨by simp[one,Zf,hb,hb2,hb3,hb4,hb5],e14⟩
set_option maxRecDepth 100000
theorem zOG{T:List U5}{x:U5}{k:Nat}{s:List Int}(hs:∀ y∈s,0<=y/\y<=1000)(hk:s.length=k)(h:(Zf T x k s).2=true):0<=(Zf T x k s).1/\(Zf T x k s).1<=1000:=by
 unfold Zf at h |-;by_cases h1:x.kind=1
 ·rw[QI h1];simp
 rw[QC h1]at h |-;by_cases h2:x.kind=2
 ·rw[QI h2];simp
 rw[QC h2]at h |-;by_cases h3:x.kind=3
 ·rw[QI h3];simp
 rw[QC h3]at h |-;by_cases h4:x.kind=4
 ·rw[QI h4]at h |-;cases hc:(yQ x&&yd k x.parts)with
  |false=>rw[hc]at h;simp at h
  |true=>
   rw[hc]at h;simp only[Q2]at h |-;simp only[QF,QV]at h hc;have hpos:∀ l:List Int,(∀ y∈l,0<=y)->0<=l.sum:=by
    intro l;induction l with
    |nil=>intro _;simp
    |cons a l ih=>intro hl;have:=ih fun y hy=>hl y (by simp[hy]);have:=hl a (by simp);simp;omega
   have:=hpos (x.parts.map fun n=>s.getD n.toNat 0) fun y hy=>by
    obtain⟨n,hn,rfl⟩:=Qt.1 hy;have:=QX.1 hc.2 n hn;simp at this;exact(hs _ (zb (by omega))).1
   omega
 rw[QC h4]at h |-;by_cases h5:x.kind=5
 ·rw[QI h5]at h |-;cases hc:(yQ x&&yd k [x.elem]&&decide (1<=x.many)&&decide (x.many<=16))with
  |false=>rw[hc]at h;simp at h
  |true=>
   rw[hc]at h;simp only[Q2]at h |-;simp only[QF,QV]at h hc;have hin:0<=x.elem/\x.elem<(k:Int):=by
    have:=QX.1 hc.1.1.2 x.elem (by simp);simpa using this
   have:=Int.mul_nonneg (a:=x.many) (b:=s.getD x.elem.toNat 0) (by omega) (hs _ (zb (by omega))).1;omega
 rw[QC h5];simp
theorem zFD{T:List U5}:∀ {k:Nat} {s:List Int},Z2 T k=some s->s.length=k/\∀ y∈s,0<=y/\y<=1000
 |0,s,h=>by cases h;simp
 |k+1,s,h=>by
  unfold Z2 at h;cases hk:Z2 T k with
  |none=>rw[hk]at h;cases h
  |some s0=>
   rw[hk]at h;obtain⟨h1,h2⟩:=zFD hk;simp only at h;split at h
   ·cases h;rename_i hm;refine⟨by simp[h1],fun y hy=> ?_⟩;rcases Qi.1 hy with hy|hy
    ·exact h2 y hy
    ·simp at hy;subst hy;exact zOG h2 h1 hm
   ·cases h
theorem zDT{T:List U5}:∀ {k m:Nat},Z2 T k=none->k<=m->Z2 T m=none
 |k,0,h,hm=>by have:k=0:=by omega
               subst this;exact h
 |k,m+1,h,hm=>by
  by_cases e:k=m+1
  ·subst e;exact h
  ·unfold Z2;rw[zDT h (by omega)]
def zPj:U3:=(oV (oR [oB .lss 13 12 11]) (oV (oT 13 0) (oV (o5 1 (oV (oR [oM 14 12,oM 4 14]) (oV (oR [oM 16 0,oM 17 4,oM 18 3,o3 19 109 16 17 18,oM 15 19,oE 20 15 0,oE 21 15 1,oM 5 20,oM 6 21]) (oV (oV (oR [oM 22 6,oW 23 22]) (oJ 23 (oV (oR [oN 2 30]) .ret) .skip)) (oR [oM 24 3,oM 25 5,⟨some 26,none,(.buildSlice 1 1 [(.int .i64 0)] [(0,1,(.tmp 25))])⟩,oY 1 27 24 26,oM 3 27]))))) (oR [oC .add 28 12 1,oM 12 28]))))
def zTq:U3:=(oV (oR [oN 2 0]) (oV (oV (oR [oM 7 0,oQ 8 7,oC .gtr 9 8 16]) (oJ 9 (oV (oR [oN 2 4]) .ret) .skip)) (oV (oR [oK 3 (.slice none 0 0)]) (oV (oV (oR [oM 10 0,oQ 11 10,oN 12 0]) (o5 0 (.loop zPj))) (oV (oR [oN 2 0]) .ret)))))
theorem zHm(h:U2)(tv:Value)(T:List U5)(st:Wv h tv T)(hT:T.length<=100)(hp:∀ x∈T,x.parts.length<=100):
  WC Tryz.prog tb 71 [tv] h fun r h'=>r=I (yq T)/\U8 h h':=by
 obtain⟨_,_,_,rfl⟩:=zF st;refine en 29 [(2,none)] zTq ?_;refine VE (fun hb=> ?_) (fun hb=> ?_)<;>simp only[DB]at hb<;>refine go ?_
 ·refine rt ?_;refine⟨?_,U8.refl h⟩;unfold yq;rw[QI (by omega)];rfl
 have hb':¬16<T.length:=by omega
 refine VD [13,14,4,16,17,18,19,15,20,21,5,6,22,23,2,24,25,26,27,3,28,12] (by kernel_rfl) (fun i=>T.length-i) (fun i t h1=>U8 h h1/\zB t 12=I i/\i<=T.length/\∃ v s,zB t 3=v/\Z2 T i=some s/\WJ h h1 v s) 0 ?_ ?_
 ·exact⟨U8.refl _,WA,QT _,_,[],WA,rfl,.inl ⟨rfl,rfl⟩⟩
 rintro i t h1 hsame ⟨e1,s12,hi,v,s,s3,hs,o⟩;have st1:=st.ext e1;obtain⟨hl,hr⟩:=zFD hs;refine go ?_;refine VE (fun hc=> ?_) (fun hc=> ?_)<;>simp only[DB]at hc<;>refine go ?_
 ·have hi':i<T.length:=by omega
  refine VA (zTT h1 _ v T i s st1 o.sl hi' hT hp hl hr) ?_;rintro _ h2 ⟨rfl,e2⟩;have o2:=o.ext e2;refine go ?_;have hst:Z2 T (i+1)=if(Zf T (T.getD i default) i s).2 then some (s++[(Zf T (T.getD i default) i s).1])else none:=by
   conv=>lhs;unfold Z2
   rw[hs]
  refine VE (fun hd=> ?_) (fun hd=> ?_)<;>simp only[DB]at hd<;>refine go ?_
  ·refine rt ?_;refine⟨?_,e1.trans e2⟩;rw[hd,QC (by simp)]at hst;unfold yq;rw[QC hb',zDT hst (by omega)];rfl
  ·refine WO.bl [(Zf T (T.getD i default) i s).1] ?_;intro v3 h3 e3 o3;refine go ?_;refine Vb (o2.ext e3) o3.sl ((e1.trans e2).trans e3) (by simp;omega) ?_;intro v4 h4 e4 o4;refine go ?_;rw[hd,QI rfl]at hst;exact zA (i+1) (by omega) ⟨e4,Wx,by omega,_,_,WA,hst,o4⟩
 ·refine rt ?_;refine⟨?_,e1⟩;have:i=T.length:=by omega
  subst this;unfold yq;rw[QC hb',hs];rfl
structure Wg where
 op:Int
 ty:Int
 a:Int
 b:Int
 n:Int
 args:List Int
 frm:List Int
structure Bl where
 kind:Int
 a:Int
 to:Int
 els:Int
structure WW where
 ins:List Wg
 fin:Bl
structure WP where
 sig:Int
 blocks:List WW
instance:Inhabited Wg:=⟨⟨0,0,0,0,0,[],[]⟩⟩
instance:Inhabited WW:=⟨⟨[],⟨0,0,0,0⟩⟩⟩
instance:Inhabited WP:=⟨⟨0,[]⟩⟩
def BM(h:U2)(cs:List Value)(x:Wg):Prop:=∃ va vf,cs=[.int .u8 x.op,I x.ty,I x.a,I x.b,I x.n,va,vf]/\WM h va x.args/\WM h vf x.frm/\(x.args.length:Int)<=1152921504606846976/\(x.frm.length:Int)<=1152921504606846976/\0<=x.op/\x.op<=255
theorem BM.ext{h h' cs x}(r:BM h cs x)(e:U8 h h'):BM h' cs x:=let⟨va,vf,a,b,c,d⟩:=r;⟨va,vf,a,b.ext e,c.ext e,d⟩
def Bh(h:U2)(cs:List Value)(x:WW):Prop:=∃ vi,cs=[vi,.int .u8 x.fin.kind,I x.fin.a,I x.fin.to,I x.fin.els]/\W4 7 BM h vi x.ins/\(x.ins.length:Int)<=1152921504606846976
theorem Bh.ext{h h' cs x}(r:Bh h cs x)(e:U8 h h'):Bh h' cs x:=let⟨va,a,b,c⟩:=r;⟨va,a,W4.ext (fun _ _ r=>BM.ext r e) b e,c⟩
def RFn(h:U2)(cs:List Value)(x:WP):Prop:=∃ vb,cs=[I x.sig,vb]/\W4 5 Bh h vb x.blocks/\(x.blocks.length:Int)<=1152921504606846976
theorem RFn.ext{h h' cs x}(r:RFn h cs x)(e:U8 h h'):RFn h' cs x:=let⟨va,a,b,c⟩:=r;⟨va,a,W4.ext (fun _ _ r=>Bh.ext r e) b e,c⟩
abbrev BW(h:U2)(v:Value)(l:List Wg):Prop:=W4 7 BM h v l
abbrev BF(h:U2)(v:Value)(l:List WW):Prop:=W4 5 Bh h v l
abbrev Wr(h:U2)(v:Value)(l:List WP):Prop:=W4 2 RFn h v l
theorem BW.ext{h h' v T}(s:BW h v T)(e:U8 h h'):BW h' v T:=W4.ext (fun _ _ r=>BM.ext r e) s e
theorem BF.ext{h h' v T}(s:BF h v T)(e:U8 h h'):BF h' v T:=W4.ext (fun _ _ r=>Bh.ext r e) s e
theorem Wr.ext{h h' v T}(s:Wr h v T)(e:U8 h h'):Wr h' v T:=W4.ext (fun _ _ r=>RFn.ext r e) s e
theorem yv{α:Type}[Inhabited α]{c:Nat}{R:U2->List Value->α->Prop}{h:U2}{v:Value}{T:List α}{i:Nat}(s:W4 c R h v T)(hi:i<T.length):∃ cs,R h cs (T.getD i default)/\Wt h v (i*c) cs/\zOy v:=by
 obtain⟨cs,a,_,c⟩:=s.at hi;exact⟨cs,by simpa [List.getD,QB hi]using a,c,s.some hi⟩
def Be(h:U2):Prop:=yF h 0=some ZT/\0<h.n
theorem Be.ext{h h'}(t:Be h)(e:U8 h h'):Be h':=⟨e.row t.2 t.1,QG t.2 e.n⟩
theorem zUP:(cut ZT (0+0*6) 6).bind (zH true)=some (.agg (YZ (hasT.getD 0 (false,false,false,false,false,false))).toArray):=by kernel_rfl
theorem zVu:(cut ZT (0+1*6) 6).bind (zH true)=some (.agg (YZ (hasT.getD 1 (false,false,false,false,false,false))).toArray):=by kernel_rfl
theorem zWE:(cut ZT (0+2*6) 6).bind (zH true)=some (.agg (YZ (hasT.getD 2 (false,false,false,false,false,false))).toArray):=by kernel_rfl
theorem zWF:(cut ZT (0+3*6) 6).bind (zH true)=some (.agg (YZ (hasT.getD 3 (false,false,false,false,false,false))).toArray):=by kernel_rfl
theorem zVt:(cut ZT (0+4*6) 6).bind (zH true)=some (.agg (YZ (hasT.getD 4 (false,false,false,false,false,false))).toArray):=by kernel_rfl
theorem zVw:(cut ZT (0+5*6) 6).bind (zH true)=some (.agg (YZ (hasT.getD 5 (false,false,false,false,false,false))).toArray):=by kernel_rfl
theorem zVy:(cut ZT (0+6*6) 6).bind (zH true)=some (.agg (YZ (hasT.getD 6 (false,false,false,false,false,false))).toArray):=by kernel_rfl
theorem zVx:(cut ZT (0+7*6) 6).bind (zH true)=some (.agg (YZ (hasT.getD 7 (false,false,false,false,false,false))).toArray):=by kernel_rfl
theorem zV0:(cut ZT (0+8*6) 6).bind (zH true)=some (.agg (YZ (hasT.getD 8 (false,false,false,false,false,false))).toArray):=by kernel_rfl
theorem zV6:(cut ZT (0+9*6) 6).bind (zH true)=some (.agg (YZ (hasT.getD 9 (false,false,false,false,false,false))).toArray):=by kernel_rfl
theorem zVP:(cut ZT (0+10*6) 6).bind (zH true)=some (.agg (YZ (hasT.getD 10 (false,false,false,false,false,false))).toArray):=by kernel_rfl
theorem zU7:(cut ZT (0+11*6) 6).bind (zH true)=some (.agg (YZ (hasT.getD 11 (false,false,false,false,false,false))).toArray):=by kernel_rfl
theorem zVn:(cut ZT (0+12*6) 6).bind (zH true)=some (.agg (YZ (hasT.getD 12 (false,false,false,false,false,false))).toArray):=by kernel_rfl
theorem zVZ:(cut ZT (0+13*6) 6).bind (zH true)=some (.agg (YZ (hasT.getD 13 (false,false,false,false,false,false))).toArray):=by kernel_rfl
theorem zVK:(cut ZT (0+14*6) 6).bind (zH true)=some (.agg (YZ (hasT.getD 14 (false,false,false,false,false,false))).toArray):=by kernel_rfl
theorem zVi:(cut ZT (0+15*6) 6).bind (zH true)=some (.agg (YZ (hasT.getD 15 (false,false,false,false,false,false))).toArray):=by kernel_rfl
theorem zU2:(cut ZT (0+16*6) 6).bind (zH true)=some (.agg (YZ (hasT.getD 16 (false,false,false,false,false,false))).toArray):=by kernel_rfl
theorem zVh:(cut ZT (0+17*6) 6).bind (zH true)=some (.agg (YZ (hasT.getD 17 (false,false,false,false,false,false))).toArray):=by kernel_rfl
theorem zU3:(cut ZT (0+18*6) 6).bind (zH true)=some (.agg (YZ (hasT.getD 18 (false,false,false,false,false,false))).toArray):=by kernel_rfl
theorem zVb:(cut ZT (0+19*6) 6).bind (zH true)=some (.agg (YZ (hasT.getD 19 (false,false,false,false,false,false))).toArray):=by kernel_rfl
theorem zVs:(cut ZT (0+20*6) 6).bind (zH true)=some (.agg (YZ (hasT.getD 20 (false,false,false,false,false,false))).toArray):=by kernel_rfl
theorem zU6:(cut ZT (0+21*6) 6).bind (zH true)=some (.agg (YZ (hasT.getD 21 (false,false,false,false,false,false))).toArray):=by kernel_rfl
theorem zVp:(cut ZT (0+22*6) 6).bind (zH true)=some (.agg (YZ (hasT.getD 22 (false,false,false,false,false,false))).toArray):=by kernel_rfl
theorem zTd:∀ i,i<23->(cut ZT (0+i*6) 6).bind (zH true)=some (.agg (YZ (hasT.getD i (false,false,false,false,false,false))).toArray):=by
 intro i hi;match i,hi with
 |0,_=>exact zUP
 |1,_=>exact zVu
 |2,_=>exact zWE
 |3,_=>exact zWF
 |4,_=>exact zVt
 |5,_=>exact zVw
 |6,_=>exact zVy
 |7,_=>exact zVx
 |8,_=>exact zV0
 |9,_=>exact zV6
 |10,_=>exact zVP
 |11,_=>exact zU7
 |12,_=>exact zVn
 |13,_=>exact zVZ
 |14,_=>exact zVK
 |15,_=>exact zVi
 |16,_=>exact zU2
 |17,_=>exact zVh
 |18,_=>exact zU3
 |19,_=>exact zVb
 |20,_=>exact zVs
 |21,_=>exact zU6
 |22,_=>exact zVp
 |n+23,h=>exact absurd h (by omega)
def zS(n m:Int):Bool:=decide (0<=n)&&decide (n<m)
def zFJ(l:List Int)(m:Int):Bool:=l.all fun n=>zS n m
structure Br where
 types:Int
 funcs:Int
 regs:Int
 blocks:Int
def zAJ(x:Wg)(s:Br):Bool:=
 if x.op=3\/x.op=18 then decide (0<=x.n)&&decide (x.n<s.funcs)else if x.op=14 then decide (0<=x.n)&&decide (x.n<8)else true
def zI(l:List WW):Int:=(l.map fun b=>(b.ins.length:Int)).sum
def zBN(x:Bl)(s:Br):Bool:=
 if x.kind=1 then(decide (x.a=0)&&decide (x.els=0))&&zS x.to s.blocks
 else if x.kind=2 then zS x.a s.regs&&zS x.to s.blocks&&zS x.els s.blocks
 else if x.kind=3 then(decide (x.to=0)&&decide (x.els=0))&&zS x.a s.regs
 else false
def zQp(x:Wg)(s:Br):Bool:=
 let q:=zW x.op
 ((((decide (q=(false,false,false,false,false,false))||(q.1&& !zS x.a s.regs))||(q.2.1&& !zS x.b s.regs))|| !zFJ x.args s.regs)|| !zAJ x s)
def zKw(x:Wg):Bool:=
 let q:=zW x.op
 ((((!q.1&& !decide (x.a=0))||(!q.2.1&& !decide (x.b=0)))||(!q.2.2.1&& !decide (x.n=0)))||(!q.2.2.2.1&&decide (0<(x.args.length:Int))))||(!q.2.2.2.2.1&&decide (0<(x.frm.length:Int)))
def zK2(x:Wg)(s:Br):Bool:=
 let q:=zW x.op
 (q.2.2.2.2.2&&zS x.ty s.types)||(!q.2.2.2.2.2&&decide (x.ty=0))
def zCb(x:Wg)(s:Br):Bool:=
 !zQp x s&&(if(zW x.op).2.2.2.2.1 then !zKw x&&zK2 x s&&zFJ x.frm s.blocks&&decide (x.frm.length=x.args.length)&&decide (1<=x.frm.length)&&decide (x.frm.length<=16)else !zKw x&&zK2 x s&&decide (x.args.length<=4))
def zCc(b:WW)(s:Br):Bool:=(b.ins.any fun x=> !zCb x s)|| !zBN b.fin s
def szL(T:List U5)(nf:Int)(f:WP):Br:=⟨T.length,nf,((T.getD f.sig.toNat default).parts.length:Int)+zI f.blocks,f.blocks.length⟩
def zBl(T:List U5)(f:WP):Bool:=
 (((!zS f.sig T.length|| !decide ((T.getD f.sig.toNat default).kind=3))|| !zS ((f.blocks.length:Int)-1) 16)||decide (128<zI f.blocks))
def BX(T:List U5)(nf:Int)(f:WP):Bool:=if zBl T f then false else !(f.blocks.any fun b=>zCc b (szL T nf f))
def Zq(T:List U5)(F:List WP):Int:=
 if yq T≠0 then yq T else if(!zS ((F.length:Int)-1) 8||F.any fun f=> !BX T F.length f)then 60 else 0
def zu(T:List U5)(F:List WP)(f:Int):Int×Int:=
 if Zq T F≠0 then(0,Zq T F)else if zS f F.length then(((T.getD (F.getD f.toNat default).sig.toNat default).parts.length:Int),0)else(0,2)
def Y7(T:List U5)(F:List WP)(f:Int):Int×Int:=
 if(zu T F f).2≠0 then(0,(zu T F f).2)else((zu T F f).1+zI (F.getD f.toNat default).blocks,0)
structure BG(T:List U5)(F:List WP):Prop where
 types:T.length<=100
 parts:∀ x∈T,x.parts.length<=100
 funcs:F.length<=1000
 blocks:∀ f∈F,f.blocks.length<=1000
 ins:∀ f∈F,∀ b∈f.blocks,b.ins.length<=1000
set_option maxRecDepth 100000
def zTk:U3:=(oV (oR [oZ 4]) (oV (oR [oM 5 0,oC .geq 6 5 0,oM 7 6,oG 7 (oM 8 0),oG 7 (oM 9 1),oG 7 (oB .lss 10 8 9),oP 11 7 10,oM 4 11]) .ret))
theorem y9(h:U2)(n m:Int):WC Tryz.prog tb 42 [I n,I m] h fun r h'=>r=.bool (zS n m)/\h=h':=by
 refine en 12 [(4,none)] zTk ?_;repeat' (first|(refine VE (fun hb=> ?_) (fun hb=> ?_)<;>(try simp only[DB]at hb)<;>refine go ?_)|(refine VI (fun hb=> ?_) (fun hb=> ?_)<;>(try simp only[DB]at hb)<;>refine go ?_))
 all_goals (refine rt ?_;exact⟨by simp[one,zS, *]<;>omega,rfl⟩)
def zRW:U3:=(oV (oR [oZ 3]) (oV (oR [oM 4 0,oL 5 1,o2 6 42 4 5,oW 7 6,oM 3 7]) .ret))
theorem zQx(h h0:U2)(p:Value)(n m:Int)(o:U6 h0 h p [I m]):WC Tryz.prog tb 214 [I n,p] h fun r h'=>r=.bool (!zS n m)/\U8 h h':=by
 refine en 8 [(3,none)] zRW ?_;refine VA (y9 h n m) ?_;rintro _ _ ⟨rfl,rfl⟩;refine gr ?_;exact⟨rfl,U8.refl h⟩
def zQW:U3:=(oV (oR [oX 3 1,oZ 4]) (oV (oR [oM 5 0,⟨some 6,none,(.mkFunc (.func 214) [] [(.tmp 3)])⟩,o2 7 121 5 6,oW 8 7,oM 4 8]) .ret))
theorem zPt(h:U2)(v:Value)(m:Int)(l:List Int)(s:WM h v l)(hl:(l.length:Int)<=9223372036854775807):WC Tryz.prog tb 171 [v,I m] h fun r h'=>r=.bool (zFJ l m)/\U8 h h':=by
 refine en 9 [(4,none)] zQW ?_;refine VH ?_;intro p h1 e1 o1;have s1:=s.ext e1;refine go ?_;refine VA (zAe h1 v _ l (fun n=> !zS n m) s1 hl ?_) ?_
 ·intro x hx h2 e2;exact WV.func (zQx h2 h p x m (o1.ext e2))
 rintro _ h2 ⟨rfl,e2⟩;refine gr ?_;refine⟨?_,e1.trans e2⟩;show Value.bool _=_;rw[List.not_any_eq_all_not];simp[zFJ]
def zQ6:U3:=(oV (oR [oX 2 0,oX 3 1,oZ 4]) (oV (oV (oR [oF 0 5 2,oL 6 5]) (o5 0 (oV (oV (oR [oD .eql 8 6 3,oM 7 8]) (oJ 7 .skip (oR [oD .eql 9 6 18,oM 7 9]))) (oJ 7 (oV (oR [oF 4 10 2,oL 11 10,oC .geq 12 11 0,oM 13 12,oG 13 (oF 4 14 2),oG 13 (oL 15 14),oG 13 (oF 1 16 3),oG 13 (oL 17 16),oG 13 (oB .lss 18 15 17),oP 19 13 18,oM 4 19]) .ret) (oV (oR [oD .eql 21 6 14,oM 20 21]) (oJ 20 (oV (oR [oF 4 22 2,oL 23 22,oC .geq 24 23 0,oM 25 24,oG 25 (oF 4 26 2),oG 25 (oL 27 26),oG 25 (oC .lss 28 27 8),oP 29 25 28,oM 4 29]) .ret) .skip)))))) (oV (oR [oK 4 (.bool true)]) .ret)))
theorem zM5(h:U2)(x:Wg)(va vf:Value)(s:Br):
  WC Tryz.prog tb 172 [.agg #[.int .u8 x.op,I x.ty,I x.a,I x.b,I x.n,va,vf],.agg #[I s.types,I s.funcs,I s.regs,I s.blocks]] h fun r h'=>r=.bool (zAJ x s)/\U8 h h':=by
 refine en 30 [(4,none)] zQ6 ?_;refine VH ?_;intro p2 h1 e1 o1;refine VH ?_;intro p3 h2 e2 o2;have o1:=o1.ext e2;refine go ?_;repeat' (first|(refine VE (fun hb=> ?_) (fun hb=> ?_)<;>(try simp only[DB]at hb)<;>refine go ?_)|(refine VI (fun hb=> ?_) (fun hb=> ?_)<;>(try simp only[DB]at hb)<;>refine go ?_))
 all_goals (refine rt ?_;exact⟨by simp[one,zAJ, *]<;>omega,e1.trans e2⟩)
def zSM:U3:=(oV (oR [⟨some 2,none,(.alloc [(.bool false),(.bool false),(.bool false),(.bool false),(.bool false),(.bool false)])⟩]) (oV (oV (oR [oM 3 0,⟨some 4,none,(.conv .i64 (.tmp 3))⟩,oC .lss 5 4 23]) (oJ 5 (oV (oR [oM 6 0,⟨some 7,none,(.idxArr 23 6 (.global 0) (.tmp 6))⟩,oA 6 8 7,oS 6 2 8]) .ret) .skip)) (oV (oR [⟨some 9,none,(.build [(.bool false),(.bool false),(.bool false),(.bool false),(.bool false),(.bool false)] [])⟩,oS 6 2 9]) .ret)))
theorem zPd(h:U2)(op:Int)(tb:Be h)(h0:0<=op)(h255:op<=255):
  WC Tryz.prog Go.Proofs.YtmejfcakhpihlaaGreatDoor.tb 136 [.int .u8 op] h fun r h'=>r=.agg (YZ (zW op)).toArray/\U8 h h':=by
 refine en 10 [(2,some (true,6))] zSM ?_;refine WO.al ?_;intro p h1 e1 o1;have t1:=(tb.ext e1).1;refine go ?_;refine VE (fun hb=> ?_) (fun hb=> ?_)<;>simp only[DB]at hb
 ·have ht:=zTd op.toNat (by omega);obtain⟨i,rfl⟩:∃ i:Nat,op=i:=⟨op.toNat,by omega⟩;rw[QU]at ht;refine go ?_;refine VG o1 e1 ?_;intro h2 e2 o2 _;refine gr ?_;exact⟨rfl,e2⟩
 ·refine go ?_;refine VG o1 e1 ?_;intro h2 e2 o2 _;refine gr ?_;refine⟨?_,e2⟩;unfold zW;have hl:hasT.length<=op.toNat:=by simp[hasT];omega
  rw[QK,G1 hl];rfl
def zOr:U3:=(oV (oR [oB .lss 9 8 7]) (oV (oT 9 0) (oV (o5 1 (oV (oR [oI 5 10 6 8,oA 5 11 10,⟨some 4,none,(.alloc [(.slice none 0 0),(.int .u8 0),(.int .i64 0),(.int .i64 0),(.int .i64 0)])⟩,oS 5 4 11]) (oR [oM 12 2,oF 0 13 4,oL 14 13,oQ 15 14,oB .add 16 12 15,oM 2 16]))) (oR [oC .add 17 8 1,oM 8 17]))))
def zUY:U3:=(oV (oR [oX 1 0,oN 2 0]) (oV (oV (oR [oF 1 5 1,oL 6 5,oQ 7 6,oN 8 0]) (o5 0 (.loop zOr))) (oV (oR [oM 18 2,oM 2 18]) .ret)))
theorem zD3(h:U2)(sig:Int)(vb:Value)(l:List WW)(s:BF h vb l)(hl:l.length<=1000)(hb:∀ b∈l,b.ins.length<=1000):
  WC Tryz.prog tb 41 [.agg #[I sig,vb]] h fun r h'=>r=I (zI l)/\U8 h h':=by
 refine en 19 [(2,none)] zUY ?_;refine VH ?_;intro p h1 e1 o1;have s1:=s.ext e1;refine go ?_;refine VD [9,10,11,4,12,13,14,15,16,2,17,8] (by kernel_rfl) (fun i=>l.length-i) (fun i t h2=>U8 h1 h2/\zB t 8=I i/\i<=l.length/\zB t 2=I (zI (l.take i))/\0<=zI (l.take i)/\zI (l.take i)<=1000*i) 0 ?_ ?_
 ·exact⟨U8.refl _,WA,QT _,WA,by simp[zI],by simp[zI]⟩
 rintro i t h2 hsame ⟨e2,s8,hi,s2,hm,hn⟩;have s3:=s1.ext e2;refine go ?_;refine VE (fun hc=> ?_) (fun hc=> ?_)<;>simp only[DB]at hc
 ·have hi':i<l.length:=by omega
  obtain⟨cs,⟨vi,rfl,si,hsi⟩,pc,hs⟩:=yv s3 hi';obtain⟨_,_,_,rfl⟩:=zF si;have hbi:(l.getD i default).ins.length<=1000:=hb _ (by simp[List.getD,QB hi']);refine go ?_;refine WO.al ?_;intro p4 h3 e3 o3;refine VG o3 e3 ?_;intro h4 e4 o4 _;have si:=BW.ext si e4;refine go ?_;have e:zI (l.take (i+1))=zI (l.take i)+((l.getD i default).ins.length:Int):=by
   unfold zI;rw[Q4,GA,Gu];simp[List.getD,QB hi']
  exact zA (i+1) (by omega) ⟨e2.trans e4,Wx,by omega,by rw[e];exact WA,by omega,by omega⟩
 ·refine gr ?_;have:i=l.length:=by omega
  subst this;exact⟨by simp[one],e1.trans e2⟩
end
end Go.Proofs.YtmejfcakhpihlaaGreatDoor
