/- Walks of functions, plain laws; proves no statement. -/
import Derived.Test.YtmilpkdhbdgjfaaGreatDoorAmU
import Derived.Test.YtmilpkdhbdgjfaaGreatDoorRows
set_option linter.all false
set_option maxHeartbeats 4000000
namespace Go.Proofs.YtmilpkdhbdgjfaaGreatDoor
open Go.Am
def hasT:List (Bool×Bool×Bool×Bool×Bool×Bool):=
 let f:=false;let t:=true
 [(f,f,f,f,f,f),(f,f,t,f,f,t),(f,f,f,f,f,t),(f,f,t,f,f,t),(t,t,f,f,f,t),(t,t,f,f,f,t),(t,t,f,f,f,t),(t,t,f,f,f,t),(t,t,f,f,f,t),(t,t,f,f,f,t),(t,t,f,f,f,t),(f,f,f,f,f,t),(f,f,f,f,f,t),(t,f,f,f,f,f),(t,f,t,f,f,t),(t,t,f,f,f,t),(t,f,f,f,f,t),(t,t,f,f,f,f),(f,f,t,t,f,t),(t,f,f,t,f,t),(f,f,f,f,f,t),(t,f,f,f,f,f),(f,f,f,t,t,t)]
def zt(op:Int):Bool×Bool×Bool×Bool×Bool×Bool:=hasT.getD op.toNat (false,false,false,false,false,false)
def YH(x:Bool×Bool×Bool×Bool×Bool×Bool):List Value:=[.bool x.1,.bool x.2.1,.bool x.2.2.1,.bool x.2.2.2.1,.bool x.2.2.2.2.1,.bool x.2.2.2.2.2]
def ZK:List Value:=(hasT.map YH).flatten
structure WJ where
 kind:Int
 elem:Int
 many:Int
 parts:List Int
instance:Inhabited WJ:=⟨⟨0,0,0,[]⟩⟩
def RTy(h:WF)(cs:List Value)(x:WJ):Prop:=∃ va,cs=[.int .u8 x.kind,I x.elem,I x.many,va]/\Wd h va x.parts/\(x.parts.length:Int)<=9223372036854775807
theorem RTy.ext{h h' cs x}(r:RTy h cs x)(e:WK h h'):RTy h' cs x:=let⟨va,a,b,c⟩:=r;⟨va,a,b.ext e,c⟩
abbrev Bc(h:WF)(v:Value)(T:List WJ):Prop:=Ww 4 RTy h v T
theorem Bc.ext{h h' v T}(s:Bc h v T)(e:WK h h'):Bc h' v T:=Ww.ext (fun _ _ r=>RTy.ext r e) s e
theorem zP5{h:WF}{v:Value}{l:List Int}(s:Wd h v l)(k:IntKind)(a b n:Int):zH [.int k n,I a,I b,v]=true:=by
 obtain⟨_,_,_,rfl⟩:=Wt.shape s;rfl
def Z7(x:WJ):Bool:=decide (1<=x.kind)&&decide (x.kind<=3)
def yu(m:Int)(l:List Int):Bool:=l.all fun n=>decide (0<=n)&&decide (n<m)
def yK(x:WJ):Bool:=
 (if x.kind=1\/x.kind=4 then decide (x.elem=0)else true)&&(if x.kind=1\/x.kind=2\/x.kind=3\/x.kind=4 then decide (x.many=0)else true)&&
  (if x.kind=1\/x.kind=2\/x.kind=5 then decide (x.parts.length=0)else true)
def ZX(T:List WJ)(x:WJ)(k:Nat)(sizes:List Int):Int×Bool:=
 if x.kind=1 then(1,yK x)
 else if x.kind=2 then(1,yK x&&yu T.length [x.elem])
 else if x.kind=3 then(1,yK x&&decide (x.parts.length<=4)&&yu T.length (x.elem::x.parts)&&(x.elem::x.parts).all fun n=>Z7 (T.getD n.toNat default))
 else if x.kind=4 then(if yK x&&yu k x.parts then((x.parts.map fun n=>sizes.getD n.toNat 0).sum,decide (0<x.parts.length)&&decide (x.parts.length<=8)&&decide ((x.parts.map fun n=>sizes.getD n.toNat 0).sum<=32))else(0,false))
 else if x.kind=5 then(if yK x&&yu k [x.elem]&&decide (1<=x.many)&&decide (x.many<=16)then(x.many*sizes.getD x.elem.toNat 0,decide (x.many*sizes.getD x.elem.toNat 0<=32))else(0,false))
 else(1,false)
theorem zGu{T:List WJ}{x:WJ}{k:Nat}{s:List Int}(h:x.kind=3):ZX T x k s=(1,yK x&&decide (x.parts.length<=4)&&yu T.length (x.elem::x.parts)&&(x.elem::x.parts).all fun n=>Z7 (T.getD n.toNat default)):=by
 unfold ZX;rw[QC (by omega),QC (by omega),QG h]
theorem zPM{T:List WJ}{x:WJ}{k:Nat}{s:List Int}(h:x.kind=4):ZX T x k s=(if yK x&&yu k x.parts then((x.parts.map fun n=>s.getD n.toNat 0).sum,decide (0<x.parts.length)&&decide (x.parts.length<=8)&&decide ((x.parts.map fun n=>s.getD n.toNat 0).sum<=32))else(0,false)):=by
 unfold ZX;rw[QC (by omega),QC (by omega),QC (by omega),QG h]
theorem zNl{T:List WJ}{x:WJ}{k:Nat}{s:List Int}(h:x.kind=5):ZX T x k s=(if yK x&&yu k [x.elem]&&decide (1<=x.many)&&decide (x.many<=16)then(x.many*s.getD x.elem.toNat 0,decide (x.many*s.getD x.elem.toNat 0<=32))else(0,false)):=by
 unfold ZX;rw[QC (by omega),QC (by omega),QC (by omega),QC (by omega),QG h]
def Zp(T:List WJ):Nat->Option (List Int)
 |0=>some []
 |k+1=>match Zp T k with
  |none=>none
  |some s=>if(ZX T (T.getD k default) k s).2 then some (s++[(ZX T (T.getD k default) k s).1])else none
def Za(T:List WJ):Int:=if 16<T.length then 4 else match Zp T T.length with
 |some _=>0
 |none=>30
noncomputable def tb:Wv:=⟨zEd Tryz.prog,fun f=>if f=17 then some (zAw [(0,ZK)] (.bool true))else none⟩
theorem zQH(f:Nat)(hf:Nat.beq f 17=false:=by rfl):tb.stub f=none:=QC (JE hf)
theorem zME(h:WF)(ht:zv h 0=some ZK):WC Tryz.prog tb 17 [] h fun r h'=>r=.bool true/\h=h':=by
 refine WC.stub (s:=zAw [(0,ZK)] (.bool true)) (by show(if 17=17 then some (zAw [(0,ZK)] (.bool true))else none)=_;exact QG rfl) (v:= .bool true) (h':=h) ?_ ⟨rfl,rfl⟩;have hl:zCp h [(0,ZK)]=true:=by
  unfold zv at ht;unfold zCp;simp only[List.all_cons,List.all_nil,Qg];split at ht
  ·rename_i c o lo hg;cases ht;rw[hg];show zAQ ZK ZK=true;kernel_rfl
  ·cases ht
 unfold zAw;rw[hl];rfl
theorem en{f:Nat}{args:List Value}{h:WF}{Q:Value->WF->Prop}{n:Nat}{rs:List (Nat×Option (Bool×Nat))}{b:WU}{G':Prop}(k:G')(hs:tb.stub f=none:=by exact zQH _)(hc:tb.code f=some ⟨n,rs,b⟩:=by conv=>(lhs;reduce;(try simp only[Int.reduceOfNat,Int.reduceNegSucc])))
  (r:Wrap G'->WX Tryz.prog tb b ⟨zDL args 0 .leaf,[],none⟩ h (zEB Tryz.prog tb rs Q):=by
  intro hgo;simp only[zDL,Qk,Nat.reduceAdd];refine go ?_;exact hgo.out):WC Tryz.prog tb f args h Q:=WC.of hs hc (r ⟨k⟩)
end Go.Proofs.YtmilpkdhbdgjfaaGreatDoor
set_option maxRecDepth 100000
namespace Go.Proofs.YtmilpkdhbdgjfaaGreatDoor
open Go.Am
theorem zAV{α:Type}{p:α->Bool}{l:List α}(h:∀ x∈l,p x=false):l.any p=false:=by
 rw[Gy];intro x hx;rw[h x hx];exact Bool.noConfusion
theorem yZ{l:List Int}{i:Nat}(h:i<l.length):l.getD i 0∈l:=by
 simp[List.getD,QB h]
theorem zAt{l:List Int}{x:Int}(h:x∈l):∃ i,i<l.length/\l.getD i 0=x:=by
 obtain⟨i,hi,e⟩:=List.getElem_of_mem h;exact⟨i,hi,by simp[List.getD,QB hi,e]⟩
theorem zLo(h:WF)(h0:WF)(p:Value)(n m:Int)(o:WH h0 h p [I m]):
  WC Tryz.prog tb 202 [I n,p] h fun r h'=>r=.bool (decide (n<0\/m<=n))/\WK h h':=by
 refine en ?_;repeat' (first|(refine VD (fun hb=> ?_) (fun hb=> ?_)<;>(try simp only[DB]at hb)<;>refine go ?_)|(refine VH (fun hb=> ?_) (fun hb=> ?_)<;>(try simp only[DB]at hb)<;>refine go ?_))
 all_goals (refine rt ?_;exact⟨by first|(simp[one];done)|(simp[one];omega),WK.refl h⟩)
theorem zMD(h:WF)(v fv:Value)(l:List Int)(p:Int->Bool)(s:Wd h v l)(hl:(l.length:Int)<=9223372036854775807)(hf:∀ x∈l,∀ h1,WK h h1->WV Tryz.prog tb fv [I x] h1 fun r h'=>r=.bool (p x)/\WK h1 h'):
  WC Tryz.prog tb 178 [v,fv] h fun r h'=>(∃ n:Int,r=I n/\(decide (0<=n))=l.any p)/\WK h h':=by
 refine en ?_;refine VE (fun i=>l.length-i) (fun i t h1=>WK h h1/\zC t 8=I i/\i<=l.length/\∀ j,j<i->p (l.getD j 0)=false) 0 ?_ ?_
 ·exact⟨WK.refl h,WM,QU _,fun j hj=>absurd hj (Qw _)⟩
 rintro i t h1 hsame ⟨e1,s8,hi,hm⟩;have s1:=s.ext e1;refine go ?_;refine VD (fun hb=> ?_) (fun hb=> ?_)<;>simp only[DB]at hb
 ·have hi':i<l.length:=by omega
  refine go ?_;refine VY (hf _ (yZ hi') h1 e1) ?_;rintro _ h2 ⟨rfl,e2⟩;refine go ?_;refine VD (fun hb=> ?_) (fun hb=> ?_)
  ·refine gr ?_;refine⟨⟨i,rfl,?_⟩,e1.trans e2⟩;rw[G4.2 ⟨_,yZ hi',hb⟩];simp
  ·refine go ?_;refine zA (i+1) (by omega) ⟨e1.trans e2,BF,by omega,fun j hj=> ?_⟩;by_cases e:j=i
   ·subst e;exact hb
   ·exact hm j (by omega)
 ·refine gr ?_;refine⟨⟨-1,rfl,?_⟩,e1⟩;rw[zAV fun x hx=>by obtain⟨j,hj,rfl⟩:=zAt hx;exact hm j (by omega)];rfl
theorem zAM(h:WF)(v fv:Value)(l:List Int)(p:Int->Bool)(s:Wd h v l)(hl:(l.length:Int)<=9223372036854775807)(hf:∀ x∈l,∀ h1,WK h h1->WV Tryz.prog tb fv [I x] h1 fun r h'=>r=.bool (p x)/\WK h1 h'):
  WC Tryz.prog tb 139 [v,fv] h fun r h'=>r=.bool (l.any p)/\WK h h':=by
 refine en ?_;refine VA (zMD h v fv l p s hl hf) ?_;rintro _ h1 ⟨⟨n,rfl,e⟩,e1⟩;refine gr ?_;exact⟨by rw[<-e];rfl,e1⟩
theorem zCB(h:WF)(v:Value)(m:Int)(l:List Int)(s:Wd h v l)(hl:(l.length:Int)<=9223372036854775807):
  WC Tryz.prog tb 163 [I m,v] h fun r h'=>r=.bool (yu m l)/\WK h h':=by
 refine en ?_;refine VG ?_;intro p h1 e1 o1;refine go ?_;refine VA (zAM h1 v _ l (fun n=>decide (n<0\/m<=n)) (s.ext e1) hl ?_) ?_
 ·intro x hx h2 e2;exact WV.func (zLo h2 h p x m (o1.ext e2))
 rintro _ h2 ⟨rfl,e2⟩;refine gr ?_;refine⟨?_,e1.trans e2⟩;show Value.bool _=_;congr 1;rw[GN];simp only[yu,Gp,Gy,QV,QJ,QY];exact⟨fun h x hx=>by have:=h x hx;omega,fun h x hx=>by have:=h x hx;omega⟩
theorem zNS(h:WF)(v:Value)(l:List Int)(s:Wd h v l)(hl:l.length<=1000)(hb:∀ x∈l,0<=x/\x<=1000):
  WC Tryz.prog tb 166 [v] h fun r h'=>r=I l.sum/\h=h':=by
 refine en ?_;refine VE (fun i=>l.length-i) (fun i t h1=>h=h1/\zC t 7=I i/\zC t 2=I (l.take i).sum/\i<=l.length/\0<=(l.take i).sum/\(l.take i).sum<=1000*i) 0 ?_ ?_
 ·exact⟨rfl,WM,WM,QU _,by simp,by simp⟩
 rintro i t _ hsame ⟨rfl,s7,s2,hi,hm,hn⟩;refine go ?_;refine VD (fun hc=> ?_) (fun hc=> ?_)<;>simp only[DB]at hc
 ·have hi':i<l.length:=by omega
  have hx:=hb _ (yZ hi');refine go ?_;have e:(l.take (i+1)).sum=(l.take i).sum+l.getD i 0:=by
   rw[GE,List.sum_append];simp[List.getD,QB hi']
  refine zA (i+1) (by omega) ⟨rfl,BF,by rw[e];exact WM,by omega,by omega,by omega⟩
 ·refine gr ?_;have:i=l.length:=by omega
  subst this;exact⟨by simp[one],rfl⟩
theorem zLB(h:WF)(x:WJ)(va:Value):
  WC Tryz.prog tb 165 [.agg #[.int .u8 x.kind,I x.elem,I x.many,va]] h fun r h'=>r=.bool (Z7 x)/\WK h h':=by
 refine en ?_;refine VG ?_;intro p h1 e1 o1;refine go ?_;repeat' (first|(refine VD (fun hb=> ?_) (fun hb=> ?_)<;>(try simp only[DB]at hb)<;>refine go ?_)|(refine VH (fun hb=> ?_) (fun hb=> ?_)<;>(try simp only[DB]at hb)<;>refine go ?_))
 all_goals (refine rt ?_;exact⟨by simp[one,Z7, *]<;>omega,e1⟩)
theorem zM1(h:WF)(x:WJ)(va:Value)(s:Wd h va x.parts):
  WC Tryz.prog tb 162 [.agg #[.int .u8 x.kind,I x.elem,I x.many,va]] h fun r h'=>r=.bool (yK x)/\WK h h':=by
 refine en ?_;refine VG ?_;intro p h1 e1 o1;have s1:=s.ext e1;refine go ?_;repeat' (first|(refine VD (fun hb=> ?_) (fun hb=> ?_)<;>(try simp only[DB]at hb)<;>refine go ?_)|(refine VH (fun hb=> ?_) (fun hb=> ?_)<;>(try simp only[DB]at hb)<;>refine go ?_))
 all_goals (refine rt ?_;refine⟨?_,e1⟩;simp[one,yK, *])
theorem zN{α:Type}{c:Nat}{R:WF->List Value->α->Prop}{h:WF}{v:Value}{T:List α}(s:Ww c R h v T):∃ a n k,v=.slice a n k:=let⟨_,a,_⟩:=s;a.shape
theorem Zy{h:WF}{v:Value}{T:List WJ}{i:Nat}(s:Bc h v T)(hi:i<T.length):∃ cs,RTy h cs (T.getD i default)/\Wh h v (i*4) cs/\zJB v:=by
 obtain⟨cs,a,_,c⟩:=s.at hi;exact⟨cs,by simpa [List.getD,QB hi]using a,c,s.some hi⟩
theorem zOZ(h h0:WF)(p tv:Value)(T:List WJ)(n:Int)(o:WH h0 h p [tv])(s:Bc h tv T)(hn:0<=n/\n<T.length):
  WC Tryz.prog tb 164 [I n,p] h fun r h'=>r=.bool (!Z7 (T.getD n.toNat default))/\WK h h':=by
 obtain⟨i,rfl⟩:∃ i:Nat,n=i:=⟨n.toNat,by omega⟩;obtain⟨cs,⟨va,rfl,sv,hv⟩,pc,hs⟩:=Zy (i:=i) s (by omega);refine en ?_;refine VA (zLB h _ va) ?_;rintro _ h1 ⟨rfl,e1⟩;refine gr ?_;exact⟨rfl,e1⟩
theorem zPw(h:WF)(tv sv:Value)(T:List WJ)(k:Nat)(sizes:List Int)(st:Bc h tv T)(ss:Wd h sv sizes)(hk:k<T.length)(hT:T.length<=100)(hp:∀ x∈T,x.parts.length<=100)(hsz:sizes.length=k)
  (hb0:∀ x∈sizes,0<=x/\x<=1000):
  WC Tryz.prog tb 123 [tv,I k,sv] h fun r h'=>r=.tuple #[I (ZX T (T.getD k default) k sizes).1,.bool (ZX T (T.getD k default) k sizes).2]/\WK h h':=by
 have hxT:T.getD k default∈T:=by simp[List.getD,QB hk]
 have hpx:=hp _ hxT;generalize hx:T.getD k default=x at *;have hpx:x.parts.length<=100:=hpx;obtain⟨_,_,_,rfl⟩:=zN st;refine en ?_;refine VG ?_;intro p3 h1 e1 o3;have st1:=st.ext e1;obtain⟨cs,hR,pc,hs⟩:=Zy (i:=k) st1 hk;rw[hx]at hR;obtain⟨va,rfl,sv0,hv⟩:=hR;refine go ?_;refine VJ ?_;intro p8 h2 e2 o8;refine go ?_;refine VF o8 e2 ?_ (h1:=zP5 (sv0.ext e2) _ _ _ _);intro h3 e3 o8 _;have o3:=o3.ext e3;have st3:=st1.ext e3;have ss3:=(ss.ext e1).ext e3;have sv3:=sv0.ext e3;refine go ?_;refine VA (zM1 h3 x va sv3) ?_;rintro _ h4 ⟨rfl,e4⟩;have o3:=o3.ext e4;have o84:=o8.ext e4;have o8:=o84;have st4:=st3.ext e4;have ss4:=ss3.ext e4;have sv4:=sv3.ext e4;have e14:=(e1.trans e3).trans e4;clear st st1 st3 ss ss3 sv0 sv3 e1 e2 e3 e4 pc hs;refine go ?_;refine VD (fun hb=> ?_) (fun hb=> ?_)<;>simp only[DB]at hb<;>refine go ?_
 ·refine VH (fun hc=> ?_) (fun hc=> ?_)<;>refine go ?_<;>refine rt ?_<;>exact⟨by simp[one,ZX,hb,hc],e14⟩
 refine VD (fun hb2=> ?_) (fun hb2=> ?_)<;>simp only[DB]at hb2<;>refine go ?_
 ·refine VH (fun hc=> ?_) (fun hc=> ?_)<;>refine go ?_
  ·refine WO.bl [x.elem] ?_;intro v5 h5 e5 o5;have st5:=st4.ext e5;have o3:=o3.ext e5;refine go ?_;refine VA (zCB h5 v5 _ [x.elem] o5.sl (by simp)) ?_;rintro _ h6 ⟨rfl,e6⟩;refine go ?_;refine VH (fun hd=> ?_) (fun hd=> ?_)<;>refine go ?_<;>refine rt ?_<;>exact⟨by simp[one,ZX,hb2,hc,hd],(e14.trans e5).trans e6⟩
  ·refine rt ?_;exact⟨by simp[one,ZX,hb2,hc],e14⟩
 refine VD (fun hb3=> ?_) (fun hb3=> ?_)<;>simp only[DB]at hb3<;>refine go ?_
 ·refine WO.bl [x.elem] ?_;intro v5 h5 e5 o5;have sv5:=sv4.ext e5;have o8:=o8.ext e5;refine go ?_;refine Vb (.inr o5) sv5 e5 (by simp;omega) ?_;intro v6 h6 e6 o6;have st6:=st4.ext e6;have o3:=o3.ext e6;have sv6:=sv4.ext e6;have o8:=WH.ext o84 e6;have e16:=e14.trans e6;refine go ?_;refine VH (fun hc=> ?_) (fun hc=> ?_)<;>refine go ?_
  ·refine VH (fun hd=> ?_) (fun hd=> ?_)<;>simp only[DB]at hd<;>refine go ?_
   ·have hd':x.parts.length<=4:=by omega
    refine VA (zCB h6 v6 _ _ o6.sl (by simp;omega)) ?_;rintro _ h7 ⟨rfl,e7⟩;have o3:=o3.ext e7;have st7:=st6.ext e7;refine go ?_;refine VH (fun he=> ?_) (fun he=> ?_)<;>refine go ?_
    ·have hin:∀ n∈[x.elem]++x.parts,0<=n/\n<(T.length:Int):=by
      intro n hn;have:=QV.1 he n hn;simpa using this
     refine VA (zAM h7 v6 _ _ (fun n=> !Z7 (T.getD n.toNat default)) (o6.sl.ext e7) (by simp;omega) ?_) ?_
     ·intro n hn h8 e8;exact WV.func (zOZ h8 h p3 _ T n (o3.ext e8) (st7.ext e8) (hin n hn))
     rintro _ h8 ⟨rfl,e8⟩;refine go ?_;have hnot:(!([x.elem]++x.parts).any fun n=> !Z7 (T.getD n.toNat default))=([x.elem]++x.parts).all fun n=>Z7 (T.getD n.toNat default):=by
      rw[List.not_any_eq_all_not];simp
     refine VH (fun hf=> ?_) (fun hf=> ?_)<;>refine go ?_<;>refine rt ?_<;>refine⟨?_,(e16.trans e7).trans e8⟩<;>rw[hnot]at hf<;>rw[List.singleton_append]at hf he<;>rw[zGu hb3,hc,he,hf,QX hd']<;>rfl
    ·refine rt ?_;refine⟨?_,e16.trans e7⟩;rw[List.singleton_append]at he;rw[zGu hb3,hc,he,QX hd'];rfl
   ·refine rt ?_;refine⟨?_,e16⟩;rw[zGu hb3,hc,QW (show ¬x.parts.length<=4 by omega)];rfl
  ·refine rt ?_;refine⟨?_,e16⟩;rw[zGu hb3,hc];rfl
 refine VD (fun hb4=> ?_) (fun hb4=> ?_)<;>simp only[DB]at hb4<;>refine go ?_
 ·refine VH (fun hc=> ?_) (fun hc=> ?_)<;>refine go ?_
  ·refine VA (zCB h4 va _ _ sv4 hv) ?_;rintro _ h5 ⟨rfl,e5⟩;have sv5:=sv4.ext e5;have ss5:=ss4.ext e5;have o8:=o8.ext e5;refine go ?_;refine VD (fun hd=> ?_) (fun hd=> ?_)<;>simp only[DB]at hd<;>refine go ?_
   ·refine rt ?_;exact⟨by simp[one,ZX,hb4,hc,hd],e14.trans e5⟩
   have hin:∀ n∈x.parts,0<=n/\n<(k:Int):=by
    intro n hn;have:=QV.1 hd n hn;simpa using this
   refine VE (fun i=>x.parts.length-i) (fun i t h1=>WK h5 h1/\zC t 77=I i/\i<=x.parts.length/\∃ v,zC t 12=v/\Wb h5 h1 v ((x.parts.take i).map fun n=>sizes.getD n.toNat 0)) 0 ?_ ?_
   ·exact⟨WK.refl _,WM,QU _,_,WM,.inl ⟨rfl,rfl⟩⟩
   ·rintro i t h6 hsame ⟨e6,s77,hi,v,s12,o12⟩;have sv6:=sv5.ext e6;have ss6:=ss5.ext e6;refine go ?_;refine VD (fun he=> ?_) (fun he=> ?_)<;>simp only[DB]at he
    ·have hi':i<x.parts.length:=by omega
     have hx2:=hin _ (yZ hi');refine go ?_;refine WO.bl [sizes.getD (x.parts.getD i 0).toNat 0] ?_;intro v7 h7 e7 o7;refine go ?_;refine Vb (o12.ext e7) o7.sl (e6.trans e7) (by simp;omega) ?_;intro v8 h8 e8 o8;refine go ?_;refine zA (i+1) (by omega) ⟨e8,BF,by omega,_,WM,?_⟩;have e:(x.parts.take (i+1)).map (fun n=>sizes.getD n.toNat 0)=(x.parts.take i).map (fun n=>sizes.getD n.toNat 0)++[sizes.getD (x.parts.getD i 0).toNat 0]:=by
      rw[GE,GU];simp[List.getD,QB hi']
     rw[e];exact o8
    ·have:i=x.parts.length:=by omega
     subst this;rw[Gc]at o12;have hall:∀ y∈x.parts.map (fun n=>sizes.getD n.toNat 0),0<=y/\y<=1000:=by
      intro y hy;obtain⟨n,hn,rfl⟩:=GQ.1 hy;have:=hin n hn;exact hb0 _ (yZ (by omega))
     have o12:=o12.sl;refine go ?_;have hml:(x.parts.map fun n=>sizes.getD n.toNat 0).length=x.parts.length:=GR ..;have e36:=(e14.trans e5).trans e6;have hr:∀ {b1 b2:Bool},decide (0<x.parts.length)=b1->decide (x.parts.length<=8)=b2->Value.tuple #[I (ZX T x k sizes).1,.bool (ZX T x k sizes).2]=
       .tuple #[I (x.parts.map fun n=>sizes.getD n.toNat 0).sum,.bool (b1&&b2&&decide ((x.parts.map fun n=>sizes.getD n.toNat 0).sum<=32))]:=by
      intro b1 b2 h1 h2;rw[zPM hb4,hc,hd,h1,h2];rfl
     clear hb0 hp hx hxT o3 o8 o84 st4 ss4 sv4 ss5 sv5 ss6 sv6 hsame;refine VH (fun hf=> ?_) (fun hf=> ?_)<;>simp only[DB,GR]at hf<;>refine go ?_
     ·refine VA (zNS h6 v _ o12 (by simp;omega) hall) ?_;rintro _ _ ⟨rfl,rfl⟩;refine go ?_;refine VH (fun hg=> ?_) (fun hg=> ?_)<;>simp only[DB,GR]at hg<;>refine go ?_
      ·refine rt ?_;refine⟨?_,e36⟩;rw[hr (QX (by omega)) (QX (by omega))];rfl
      ·refine rt ?_;refine⟨?_,e36⟩;rw[hr (QX (by omega)) (QW (by omega))];rfl
     ·refine VA (zNS h6 v _ o12 (by simp;omega) hall) ?_;rintro _ _ ⟨rfl,rfl⟩;refine gr ?_;refine⟨?_,e36⟩;rw[hr (QW (by omega)) rfl];rfl
  ·refine rt ?_;exact⟨by simp[one,ZX,hb4,hc],e14⟩
 refine VD (fun hb5=> ?_) (fun hb5=> ?_)<;>simp only[DB]at hb5<;>refine go ?_
 ·refine VH (fun hc=> ?_) (fun hc=> ?_)<;>refine go ?_
  ·refine WO.bl [x.elem] ?_;intro v5 h5 e5 o5;have ss5:=ss4.ext e5;have o8:=o8.ext e5;refine go ?_;refine VA (zCB h5 v5 _ [x.elem] o5.sl (by simp)) ?_;rintro _ h6 ⟨rfl,e6⟩;have ss6:=ss5.ext e6;have o8:=o8.ext e6;have e36:=(e14.trans e5).trans e6;have hr:∀ {b1 b2 b3:Bool},yu k [x.elem]=b1->decide (1<=x.many)=b2->decide (x.many<=16)=b3->Value.tuple #[I (ZX T x k sizes).1,.bool (ZX T x k sizes).2]=
     (if b1&&b2&&b3 then .tuple #[I (x.many*sizes.getD x.elem.toNat 0),.bool (decide (x.many*sizes.getD x.elem.toNat 0<=32))]else .tuple #[I 0,.bool false]):=by
    intro b1 b2 b3 h1 h2 h3;rw[zNl hb5,hc,h1,h2,h3];cases b1<;>cases b2<;>cases b3<;>rfl
   have hin:yu k [x.elem]=true->0<=x.elem/\x.elem<(k:Int):=by
    intro hd;have:=QV.1 hd x.elem (by simp);simpa using this
   have hs0:∀ n:Int,0<=n/\n<(k:Int)->0<=sizes.getD n.toNat 0/\sizes.getD n.toNat 0<=1000:=fun n hn=>hb0 _ (yZ (by omega));clear hb0 hp hx hxT o3 o84 st4 ss4 sv4 ss5 o5;refine go ?_;refine VH (fun hd=> ?_) (fun hd=> ?_)<;>refine go ?_
   ·have hin:=hin hd;have hs:=hs0 _ hin;refine VH (fun he=> ?_) (fun he=> ?_)<;>simp only[DB]at he<;>refine go ?_
    ·refine VD (fun hf=> ?_) (fun hf=> ?_)<;>simp only[DB]at hf<;>refine go ?_
     ·refine rt ?_;refine⟨?_,e36⟩;rw[hr hd (QX he) (QW (by omega))];rfl
     ·have hm1:x.many*sizes.getD x.elem.toNat 0<=16*1000:=Int.mul_le_mul (by omega) hs.2 hs.1 (by omega);have hm0:0<=x.many*sizes.getD x.elem.toNat 0:=Int.mul_nonneg (by omega) hs.1;refine gr ?_;refine⟨?_,e36⟩;rw[hr hd (QX he) (QX (by omega))];rfl
    ·refine rt ?_;refine⟨?_,e36⟩;rw[hr hd (QW (by omega)) rfl];cases(decide (x.many<=16))<;>rfl
   ·refine rt ?_;refine⟨?_,e36⟩;rw[hr hd rfl rfl];rfl
  ·refine rt ?_;refine⟨?_,e14⟩;rw[zNl hb5,hc];rfl
 ·refine rt ?_;exact⟨by simp[one,ZX,hb,hb2,hb3,hb4,hb5],e14⟩
end Go.Proofs.YtmilpkdhbdgjfaaGreatDoor
set_option maxRecDepth 100000
namespace Go.Proofs.YtmilpkdhbdgjfaaGreatDoor
open Go.Am
theorem zMz{T:List WJ}{x:WJ}{k:Nat}{s:List Int}(hs:∀ y∈s,0<=y/\y<=1000)(hk:s.length=k)(h:(ZX T x k s).2=true):0<=(ZX T x k s).1/\(ZX T x k s).1<=1000:=by
 unfold ZX at h |-;by_cases h1:x.kind=1
 ·rw[QG h1];simp
 rw[QC h1]at h |-;by_cases h2:x.kind=2
 ·rw[QG h2];simp
 rw[QC h2]at h |-;by_cases h3:x.kind=3
 ·rw[QG h3];simp
 rw[QC h3]at h |-;by_cases h4:x.kind=4
 ·rw[QG h4]at h |-;cases hc:(yK x&&yu k x.parts)with
  |false=>rw[hc]at h;simp at h
  |true=>
   rw[hc]at h;simp only[Q9]at h |-;simp only[QJ,QY]at h hc;have hpos:∀ l:List Int,(∀ y∈l,0<=y)->0<=l.sum:=by
    intro l;induction l with
    |nil=>intro _;simp
    |cons a l ih=>intro hl;have:=ih fun y hy=>hl y (by simp[hy]);have:=hl a (by simp);simp;omega
   have:=hpos (x.parts.map fun n=>s.getD n.toNat 0) fun y hy=>by
    obtain⟨n,hn,rfl⟩:=GQ.1 hy;have:=QV.1 hc.2 n hn;simp at this;exact(hs _ (yZ (by omega))).1
   omega
 rw[QC h4]at h |-;by_cases h5:x.kind=5
 ·rw[QG h5]at h |-;cases hc:(yK x&&yu k [x.elem]&&decide (1<=x.many)&&decide (x.many<=16))with
  |false=>rw[hc]at h;simp at h
  |true=>
   rw[hc]at h;simp only[Q9]at h |-;simp only[QJ,QY]at h hc;have hin:0<=x.elem/\x.elem<(k:Int):=by
    have:=QV.1 hc.1.1.2 x.elem (by simp);simpa using this
   have:=Int.mul_nonneg (a:=x.many) (b:=s.getD x.elem.toNat 0) (by omega) (hs _ (yZ (by omega))).1;omega
 rw[QC h5];simp
theorem zEK{T:List WJ}:∀ {k:Nat} {s:List Int},Zp T k=some s->s.length=k/\∀ y∈s,0<=y/\y<=1000
 |0,s,h=>by cases h;simp
 |k+1,s,h=>by
  unfold Zp at h;cases hk:Zp T k with
  |none=>rw[hk]at h;cases h
  |some s0=>
   rw[hk]at h;obtain⟨h1,h2⟩:=zEK hk;simp only at h;split at h
   ·cases h;rename_i hm;refine⟨by simp[h1],fun y hy=> ?_⟩;rcases Qy.1 hy with hy|hy
    ·exact h2 y hy
    ·simp at hy;subst hy;exact zMz h2 h1 hm
   ·cases h
theorem zC8{T:List WJ}:∀ {k m:Nat},Zp T k=none->k<=m->Zp T m=none
 |k,0,h,hm=>by have:k=0:=by omega
               subst this;exact h
 |k,m+1,h,hm=>by
  by_cases e:k=m+1
  ·subst e;exact h
  ·unfold Zp;rw[zC8 h (by omega)]
theorem zMs(h:WF)(tv:Value)(T:List WJ)(st:Bc h tv T)(hT:T.length<=100)(hp:∀ x∈T,x.parts.length<=100):
  WC Tryz.prog tb 103 [tv] h fun r h'=>r=I (Za T)/\WK h h':=by
 obtain⟨_,_,_,rfl⟩:=zN st;refine en ?_;refine VD (fun hb=> ?_) (fun hb=> ?_)<;>simp only[DB]at hb<;>refine go ?_
 ·refine rt ?_;refine⟨?_,WK.refl h⟩;unfold Za;rw[QG (by omega)];rfl
 have hb':¬16<T.length:=by omega
 refine VE (fun i=>T.length-i) (fun i t h1=>WK h h1/\zC t 12=I i/\i<=T.length/\∃ v s,zC t 3=v/\Zp T i=some s/\Wb h h1 v s) 0 ?_ ?_
 ·exact⟨WK.refl _,WM,QU _,_,[],WM,rfl,.inl ⟨rfl,rfl⟩⟩
 rintro i t h1 hsame ⟨e1,s12,hi,v,s,s3,hs,o⟩;have st1:=st.ext e1;obtain⟨hl,hr⟩:=zEK hs;refine go ?_;refine VD (fun hc=> ?_) (fun hc=> ?_)<;>simp only[DB]at hc<;>refine go ?_
 ·have hi':i<T.length:=by omega
  refine VA (zPw h1 _ v T i s st1 o.sl hi' hT hp hl hr) ?_;rintro _ h2 ⟨rfl,e2⟩;have o2:=o.ext e2;refine go ?_;have hst:Zp T (i+1)=if(ZX T (T.getD i default) i s).2 then some (s++[(ZX T (T.getD i default) i s).1])else none:=by
   conv=>lhs;unfold Zp
   rw[hs]
  refine VD (fun hd=> ?_) (fun hd=> ?_)<;>simp only[DB]at hd<;>refine go ?_
  ·refine rt ?_;refine⟨?_,e1.trans e2⟩;rw[hd,QC (by simp)]at hst;unfold Za;rw[QC hb',zC8 hst (by omega)];rfl
  ·refine WO.bl [(ZX T (T.getD i default) i s).1] ?_;intro v3 h3 e3 o3;refine go ?_;refine Vb (o2.ext e3) o3.sl ((e1.trans e2).trans e3) (by simp;omega) ?_;intro v4 h4 e4 o4;refine go ?_;rw[hd,QG rfl]at hst;exact zA (i+1) (by omega) ⟨e4,BF,by omega,_,_,WM,hst,o4⟩
 ·refine rt ?_;refine⟨?_,e1⟩;have:i=T.length:=by omega
  subst this;unfold Za;rw[QC hb',hs];rfl
structure Wo where
 op:Int
 ty:Int
 a:Int
 b:Int
 n:Int
 args:List Int
 frm:List Int
structure B2 where
 kind:Int
 a:Int
 to:Int
 els:Int
structure Wl where
 ins:List Wo
 fin:B2
structure Wj where
 sig:Int
 blocks:List Wl
instance:Inhabited Wo:=⟨⟨0,0,0,0,0,[],[]⟩⟩
instance:Inhabited Wl:=⟨⟨[],⟨0,0,0,0⟩⟩⟩
instance:Inhabited Wj:=⟨⟨0,[]⟩⟩
def BT(h:WF)(cs:List Value)(x:Wo):Prop:=∃ va vf,cs=[.int .u8 x.op,I x.ty,I x.a,I x.b,I x.n,va,vf]/\Wd h va x.args/\Wd h vf x.frm/\(x.args.length:Int)<=1152921504606846976/\(x.frm.length:Int)<=1152921504606846976/\0<=x.op/\x.op<=255
theorem BT.ext{h h' cs x}(r:BT h cs x)(e:WK h h'):BT h' cs x:=let⟨va,vf,a,b,c,d⟩:=r;⟨va,vf,a,b.ext e,c.ext e,d⟩
def Bw(h:WF)(cs:List Value)(x:Wl):Prop:=∃ vi,cs=[vi,.int .u8 x.fin.kind,I x.fin.a,I x.fin.to,I x.fin.els]/\Ww 7 BT h vi x.ins/\(x.ins.length:Int)<=1152921504606846976
theorem Bw.ext{h h' cs x}(r:Bw h cs x)(e:WK h h'):Bw h' cs x:=let⟨va,a,b,c⟩:=r;⟨va,a,Ww.ext (fun _ _ r=>BT.ext r e) b e,c⟩
def RFn(h:WF)(cs:List Value)(x:Wj):Prop:=∃ vb,cs=[I x.sig,vb]/\Ww 5 Bw h vb x.blocks/\(x.blocks.length:Int)<=1152921504606846976
theorem RFn.ext{h h' cs x}(r:RFn h cs x)(e:WK h h'):RFn h' cs x:=let⟨va,a,b,c⟩:=r;⟨va,a,Ww.ext (fun _ _ r=>Bw.ext r e) b e,c⟩
abbrev BD(h:WF)(v:Value)(l:List Wo):Prop:=Ww 7 BT h v l
abbrev BN(h:WF)(v:Value)(l:List Wl):Prop:=Ww 5 Bw h v l
abbrev W7(h:WF)(v:Value)(l:List Wj):Prop:=Ww 2 RFn h v l
theorem BD.ext{h h' v T}(s:BD h v T)(e:WK h h'):BD h' v T:=Ww.ext (fun _ _ r=>BT.ext r e) s e
theorem BN.ext{h h' v T}(s:BN h v T)(e:WK h h'):BN h' v T:=Ww.ext (fun _ _ r=>Bw.ext r e) s e
theorem W7.ext{h h' v T}(s:W7 h v T)(e:WK h h'):W7 h' v T:=Ww.ext (fun _ _ r=>RFn.ext r e) s e
theorem yo{α:Type}[Inhabited α]{c:Nat}{R:WF->List Value->α->Prop}{h:WF}{v:Value}{T:List α}{i:Nat}(s:Ww c R h v T)(hi:i<T.length):∃ cs,R h cs (T.getD i default)/\Wh h v (i*c) cs/\zJB v:=by
 obtain⟨cs,a,_,c⟩:=s.at hi;exact⟨cs,by simpa [List.getD,QB hi]using a,c,s.some hi⟩
def By(h:WF):Prop:=zv h 0=some ZK/\0<h.n
theorem By.ext{h h'}(t:By h)(e:WK h h'):By h':=⟨e.row t.2 t.1,QK t.2 e.n⟩
theorem zPX:(cut ZK (0+0*6) 6).bind (zI true)=some (.agg (YH (hasT.getD 0 (false,false,false,false,false,false))).toArray):=by kernel_rfl
theorem zQy:(cut ZK (0+1*6) 6).bind (zI true)=some (.agg (YH (hasT.getD 1 (false,false,false,false,false,false))).toArray):=by kernel_rfl
theorem zQ6:(cut ZK (0+2*6) 6).bind (zI true)=some (.agg (YH (hasT.getD 2 (false,false,false,false,false,false))).toArray):=by kernel_rfl
theorem zQw:(cut ZK (0+3*6) 6).bind (zI true)=some (.agg (YH (hasT.getD 3 (false,false,false,false,false,false))).toArray):=by kernel_rfl
theorem zQ9:(cut ZK (0+4*6) 6).bind (zI true)=some (.agg (YH (hasT.getD 4 (false,false,false,false,false,false))).toArray):=by kernel_rfl
theorem zQ1:(cut ZK (0+5*6) 6).bind (zI true)=some (.agg (YH (hasT.getD 5 (false,false,false,false,false,false))).toArray):=by kernel_rfl
theorem zQ3:(cut ZK (0+6*6) 6).bind (zI true)=some (.agg (YH (hasT.getD 6 (false,false,false,false,false,false))).toArray):=by kernel_rfl
theorem zQ2:(cut ZK (0+7*6) 6).bind (zI true)=some (.agg (YH (hasT.getD 7 (false,false,false,false,false,false))).toArray):=by kernel_rfl
theorem zRB:(cut ZK (0+8*6) 6).bind (zI true)=some (.agg (YH (hasT.getD 8 (false,false,false,false,false,false))).toArray):=by kernel_rfl
theorem zQ5:(cut ZK (0+9*6) 6).bind (zI true)=some (.agg (YH (hasT.getD 9 (false,false,false,false,false,false))).toArray):=by kernel_rfl
theorem zQY:(cut ZK (0+10*6) 6).bind (zI true)=some (.agg (YH (hasT.getD 10 (false,false,false,false,false,false))).toArray):=by kernel_rfl
theorem zQX:(cut ZK (0+11*6) 6).bind (zI true)=some (.agg (YH (hasT.getD 11 (false,false,false,false,false,false))).toArray):=by kernel_rfl
theorem zQp:(cut ZK (0+12*6) 6).bind (zI true)=some (.agg (YH (hasT.getD 12 (false,false,false,false,false,false))).toArray):=by kernel_rfl
theorem zQr:(cut ZK (0+13*6) 6).bind (zI true)=some (.agg (YH (hasT.getD 13 (false,false,false,false,false,false))).toArray):=by kernel_rfl
theorem zQh:(cut ZK (0+14*6) 6).bind (zI true)=some (.agg (YH (hasT.getD 14 (false,false,false,false,false,false))).toArray):=by kernel_rfl
theorem zQg:(cut ZK (0+15*6) 6).bind (zI true)=some (.agg (YH (hasT.getD 15 (false,false,false,false,false,false))).toArray):=by kernel_rfl
theorem zQZ:(cut ZK (0+16*6) 6).bind (zI true)=some (.agg (YH (hasT.getD 16 (false,false,false,false,false,false))).toArray):=by kernel_rfl
theorem zQe:(cut ZK (0+17*6) 6).bind (zI true)=some (.agg (YH (hasT.getD 17 (false,false,false,false,false,false))).toArray):=by kernel_rfl
theorem zQb:(cut ZK (0+18*6) 6).bind (zI true)=some (.agg (YH (hasT.getD 18 (false,false,false,false,false,false))).toArray):=by kernel_rfl
theorem zQU:(cut ZK (0+19*6) 6).bind (zI true)=some (.agg (YH (hasT.getD 19 (false,false,false,false,false,false))).toArray):=by kernel_rfl
theorem zQd:(cut ZK (0+20*6) 6).bind (zI true)=some (.agg (YH (hasT.getD 20 (false,false,false,false,false,false))).toArray):=by kernel_rfl
theorem zQR:(cut ZK (0+21*6) 6).bind (zI true)=some (.agg (YH (hasT.getD 21 (false,false,false,false,false,false))).toArray):=by kernel_rfl
theorem zQj:(cut ZK (0+22*6) 6).bind (zI true)=some (.agg (YH (hasT.getD 22 (false,false,false,false,false,false))).toArray):=by kernel_rfl
theorem zQA:∀ i,i<23->(cut ZK (0+i*6) 6).bind (zI true)=some (.agg (YH (hasT.getD i (false,false,false,false,false,false))).toArray):=by
 intro i hi;match i,hi with
 |0,_=>exact zPX
 |1,_=>exact zQy
 |2,_=>exact zQ6
 |3,_=>exact zQw
 |4,_=>exact zQ9
 |5,_=>exact zQ1
 |6,_=>exact zQ3
 |7,_=>exact zQ2
 |8,_=>exact zRB
 |9,_=>exact zQ5
 |10,_=>exact zQY
 |11,_=>exact zQX
 |12,_=>exact zQp
 |13,_=>exact zQr
 |14,_=>exact zQh
 |15,_=>exact zQg
 |16,_=>exact zQZ
 |17,_=>exact zQe
 |18,_=>exact zQb
 |19,_=>exact zQU
 |20,_=>exact zQd
 |21,_=>exact zQR
 |22,_=>exact zQj
 |n+23,h=>exact absurd h (by omega)
def za(n m:Int):Bool:=decide (0<=n)&&decide (n<m)
def zEq(l:List Int)(m:Int):Bool:=l.all fun n=>za n m
structure B9 where
 types:Int
 funcs:Int
 regs:Int
 blocks:Int
def Y3(x:Wo)(s:B9):Bool:=
 if x.op=3\/x.op=18 then decide (0<=x.n)&&decide (x.n<s.funcs)else if x.op=14 then decide (0<=x.n)&&decide (x.n<8)else true
def zz(l:List Wl):Int:=(l.map fun b=>(b.ins.length:Int)).sum
def zAs(x:B2)(s:B9):Bool:=
 if x.kind=1 then(decide (x.a=0)&&decide (x.els=0))&&za x.to s.blocks
 else if x.kind=2 then za x.a s.regs&&za x.to s.blocks&&za x.els s.blocks
 else if x.kind=3 then(decide (x.to=0)&&decide (x.els=0))&&za x.a s.regs
 else false
def zOp(x:Wo)(s:B9):Bool:=
 let q:=zt x.op
 ((((decide (q=(false,false,false,false,false,false))||(q.1&& !za x.a s.regs))||(q.2.1&& !za x.b s.regs))|| !zEq x.args s.regs)|| !Y3 x s)
def zJj(x:Wo):Bool:=
 let q:=zt x.op
 ((((!q.1&& !decide (x.a=0))||(!q.2.1&& !decide (x.b=0)))||(!q.2.2.1&& !decide (x.n=0)))||(!q.2.2.2.1&&decide (0<(x.args.length:Int))))||(!q.2.2.2.2.1&&decide (0<(x.frm.length:Int)))
def zKC(x:Wo)(s:B9):Bool:=
 let q:=zt x.op
 (q.2.2.2.2.2&&za x.ty s.types)||(!q.2.2.2.2.2&&decide (x.ty=0))
def zCY(x:Wo)(s:B9):Bool:=
 !zOp x s&&(if(zt x.op).2.2.2.2.1 then !zJj x&&zKC x s&&zEq x.frm s.blocks&&decide (x.frm.length=x.args.length)&&decide (1<=x.frm.length)&&decide (x.frm.length<=16)else !zJj x&&zKC x s&&decide (x.args.length<=4))
def zCP(b:Wl)(s:B9):Bool:=(b.ins.any fun x=> !zCY x s)|| !zAs b.fin s
def szL(T:List WJ)(nf:Int)(f:Wj):B9:=⟨T.length,nf,((T.getD f.sig.toNat default).parts.length:Int)+zz f.blocks,f.blocks.length⟩
def zB5(T:List WJ)(f:Wj):Bool:=
 (((!za f.sig T.length|| !decide ((T.getD f.sig.toNat default).kind=3))|| !za ((f.blocks.length:Int)-1) 16)||decide (128<zz f.blocks))
def Bs(T:List WJ)(nf:Int)(f:Wj):Bool:=if zB5 T f then false else !(f.blocks.any fun b=>zCP b (szL T nf f))
def yl(T:List WJ)(F:List Wj):Int:=
 if Za T≠0 then Za T else if(!za ((F.length:Int)-1) 8||F.any fun f=> !Bs T F.length f)then 60 else 0
def yY(T:List WJ)(F:List Wj)(f:Int):Int×Int:=
 if yl T F≠0 then(0,yl T F)else if za f F.length then(((T.getD (F.getD f.toNat default).sig.toNat default).parts.length:Int),0)else(0,2)
def Ym(T:List WJ)(F:List Wj)(f:Int):Int×Int:=
 if(yY T F f).2≠0 then(0,(yY T F f).2)else((yY T F f).1+zz (F.getD f.toNat default).blocks,0)
structure BP(T:List WJ)(F:List Wj):Prop where
 types:T.length<=100
 parts:∀ x∈T,x.parts.length<=100
 funcs:F.length<=1000
 blocks:∀ f∈F,f.blocks.length<=1000
 ins:∀ f∈F,∀ b∈f.blocks,b.ins.length<=1000
end Go.Proofs.YtmilpkdhbdgjfaaGreatDoor
set_option maxRecDepth 100000
namespace Go.Proofs.YtmilpkdhbdgjfaaGreatDoor
open Go.Am
theorem yj(h:WF)(n m:Int):WC Tryz.prog tb 82 [I n,I m] h fun r h'=>r=.bool (za n m)/\h=h':=by
 refine en ?_;repeat' (first|(refine VD (fun hb=> ?_) (fun hb=> ?_)<;>(try simp only[DB]at hb)<;>refine go ?_)|(refine VH (fun hb=> ?_) (fun hb=> ?_)<;>(try simp only[DB]at hb)<;>refine go ?_))
 all_goals (refine rt ?_;exact⟨by simp[one,za, *]<;>omega,rfl⟩)
theorem zOy(h h0:WF)(p:Value)(n m:Int)(o:WH h0 h p [I m]):WC Tryz.prog tb 203 [I n,p] h fun r h'=>r=.bool (!za n m)/\WK h h':=by
 refine en ?_;refine VA (yj h n m) ?_;rintro _ _ ⟨rfl,rfl⟩;refine gr ?_;exact⟨rfl,WK.refl h⟩
theorem zNu(h:WF)(v:Value)(m:Int)(l:List Int)(s:Wd h v l)(hl:(l.length:Int)<=9223372036854775807):WC Tryz.prog tb 168 [v,I m] h fun r h'=>r=.bool (zEq l m)/\WK h h':=by
 refine en ?_;refine VG ?_;intro p h1 e1 o1;have s1:=s.ext e1;refine go ?_;refine VA (zAM h1 v _ l (fun n=> !za n m) s1 hl ?_) ?_
 ·intro x hx h2 e2;exact WV.func (zOy h2 h p x m (o1.ext e2))
 rintro _ h2 ⟨rfl,e2⟩;refine gr ?_;refine⟨?_,e1.trans e2⟩;show Value.bool _=_;rw[List.not_any_eq_all_not];simp[zEq]
theorem zLd(h:WF)(x:Wo)(va vf:Value)(s:B9):
  WC Tryz.prog tb 169 [.agg #[.int .u8 x.op,I x.ty,I x.a,I x.b,I x.n,va,vf],.agg #[I s.types,I s.funcs,I s.regs,I s.blocks]] h fun r h'=>r=.bool (Y3 x s)/\WK h h':=by
 refine en ?_;refine VG ?_;intro p2 h1 e1 o1;refine VG ?_;intro p3 h2 e2 o2;have o1:=o1.ext e2;refine go ?_;repeat' (first|(refine VD (fun hb=> ?_) (fun hb=> ?_)<;>(try simp only[DB]at hb)<;>refine go ?_)|(refine VH (fun hb=> ?_) (fun hb=> ?_)<;>(try simp only[DB]at hb)<;>refine go ?_))
 all_goals (refine rt ?_;exact⟨by simp[one,Y3, *]<;>omega,e1.trans e2⟩)
theorem zNi(h:WF)(op:Int)(tb:By h)(h0:0<=op)(h255:op<=255):
  WC Tryz.prog Go.Proofs.YtmilpkdhbdgjfaaGreatDoor.tb 167 [.int .u8 op] h fun r h'=>r=.agg (YH (zt op)).toArray/\WK h h':=by
 refine en ?_;refine VJ ?_;intro p h1 e1 o1;have t1:=(tb.ext e1).1;refine go ?_;refine VD (fun hb=> ?_) (fun hb=> ?_)<;>simp only[DB]at hb
 ·have ht:=zQA op.toNat (by omega);obtain⟨i,rfl⟩:∃ i:Nat,op=i:=⟨op.toNat,by omega⟩;rw[Q7]at ht;refine go ?_;refine VF o1 e1 ?_;intro h2 e2 o2 _;refine gr ?_;exact⟨rfl,e2⟩
 ·refine go ?_;refine VF o1 e1 ?_;intro h2 e2 o2 _;refine gr ?_;refine⟨?_,e2⟩;unfold zt;have hl:hasT.length<=op.toNat:=by simp[hasT];omega
  rw[QL,GW hl];rfl
theorem zDh(h:WF)(sig:Int)(vb:Value)(l:List Wl)(s:BN h vb l)(hl:l.length<=1000)(hb:∀ b∈l,b.ins.length<=1000):
  WC Tryz.prog tb 83 [.agg #[I sig,vb]] h fun r h'=>r=I (zz l)/\WK h h':=by
 refine en ?_;refine VG ?_;intro p h1 e1 o1;have s1:=s.ext e1;refine go ?_;refine VE (fun i=>l.length-i) (fun i t h2=>WK h1 h2/\zC t 8=I i/\i<=l.length/\zC t 2=I (zz (l.take i))/\0<=zz (l.take i)/\zz (l.take i)<=1000*i) 0 ?_ ?_
 ·exact⟨WK.refl _,WM,QU _,WM,by simp[zz],by simp[zz]⟩
 rintro i t h2 hsame ⟨e2,s8,hi,s2,hm,hn⟩;have s3:=s1.ext e2;refine go ?_;refine VD (fun hc=> ?_) (fun hc=> ?_)<;>simp only[DB]at hc
 ·have hi':i<l.length:=by omega
  obtain⟨cs,⟨vi,rfl,si,hsi⟩,pc,hs⟩:=yo s3 hi';obtain⟨_,_,_,rfl⟩:=zN si;have hbi:(l.getD i default).ins.length<=1000:=hb _ (by simp[List.getD,QB hi']);refine go ?_;refine VJ ?_;intro p4 h3 e3 o3;refine VF o3 e3 ?_;intro h4 e4 o4 _;have si:=BD.ext si e4;refine go ?_;have e:zz (l.take (i+1))=zz (l.take i)+((l.getD i default).ins.length:Int):=by
   unfold zz;rw[GE,GU,List.sum_append];simp[List.getD,QB hi']
  exact zA (i+1) (by omega) ⟨e2.trans e4,BF,by omega,by rw[e];exact WM,by omega,by omega⟩
 ·refine gr ?_;have:i=l.length:=by omega
  subst this;exact⟨by simp[one],e1.trans e2⟩
end Go.Proofs.YtmilpkdhbdgjfaaGreatDoor
set_option maxRecDepth 100000
namespace Go.Proofs.YtmilpkdhbdgjfaaGreatDoor
open Go.Am
theorem zPp(h:WF)(x:B2)(s:B9):
  WC Tryz.prog tb 130 [.agg #[.int .u8 x.kind,I x.a,I x.to,I x.els],.agg #[I s.types,I s.funcs,I s.regs,I s.blocks]] h fun r h'=>r=.bool (zAs x s)/\WK h h':=by
 refine en ?_;refine VG ?_;intro p2 h1 e1 o1;refine VG ?_;intro p3 h2 e2 o2;have o1:=o1.ext e2;refine go ?_;refine VD (fun hb=> ?_) (fun hb=> ?_)<;>simp only[DB]at hb<;>refine go ?_
 ·refine Vl (zF4 (xs:=#[.int .u8 x.kind,I x.a,I x.to,I x.els]) (ys:=#[.int .u8 x.kind,I 0,I x.to,I 0]) (b:=decide (x.a=0)&&decide (x.els=0)) (by kernel_rfl) (by simp[YY,zCx,I];rw[GN];simp)) ?_;refine go ?_;refine VH (fun hc=> ?_) (fun hc=> ?_)<;>refine go ?_
  ·refine VA (yj h2 x.to s.blocks) ?_;rintro _ _ ⟨rfl,rfl⟩;refine gr ?_;exact⟨by simp only[zAs,QG hb,hc,Qb];rfl,e1.trans e2⟩
  ·refine rt ?_;exact⟨by simp only[zAs,QG hb,hc,Qd];rfl,e1.trans e2⟩
 refine VD (fun hb2=> ?_) (fun hb2=> ?_)<;>simp only[DB]at hb2<;>refine go ?_
 ·refine VA (yj h2 x.a s.regs) ?_;rintro _ _ ⟨rfl,rfl⟩;refine go ?_;refine VH (fun hc=> ?_) (fun hc=> ?_)<;>refine go ?_
  ·refine VA (yj h2 x.to s.blocks) ?_;rintro _ _ ⟨rfl,rfl⟩;refine go ?_;refine VH (fun hd=> ?_) (fun hd=> ?_)<;>refine go ?_
   ·refine VA (yj h2 x.els s.blocks) ?_;rintro _ _ ⟨rfl,rfl⟩;refine gr ?_;exact⟨by simp only[zAs,QC hb,QG hb2,hc,hd,Qb];rfl,e1.trans e2⟩
   ·refine rt ?_;exact⟨by simp only[zAs,QC hb,QG hb2,hc,hd,Qb,Qd];rfl,e1.trans e2⟩
  ·refine rt ?_;exact⟨by simp only[zAs,QC hb,QG hb2,hc,Qb,Qd];rfl,e1.trans e2⟩
 refine VD (fun hb3=> ?_) (fun hb3=> ?_)<;>simp only[DB]at hb3<;>refine go ?_
 ·refine Vl (zF4 (xs:=#[.int .u8 x.kind,I x.a,I x.to,I x.els]) (ys:=#[.int .u8 x.kind,I x.a,I 0,I 0]) (b:=decide (x.to=0)&&decide (x.els=0)) (by kernel_rfl) (by simp[YY,zCx,I];rw[GN];simp)) ?_;refine go ?_;refine VH (fun hc=> ?_) (fun hc=> ?_)<;>refine go ?_
  ·refine VA (yj h2 x.a s.regs) ?_;rintro _ _ ⟨rfl,rfl⟩;refine gr ?_;exact⟨by simp only[zAs,QC hb,QC hb2,QG hb3,hc,Qb];rfl,e1.trans e2⟩
  ·refine rt ?_;exact⟨by simp only[zAs,QC hb,QC hb2,QG hb3,hc,Qd];rfl,e1.trans e2⟩
 ·refine rt ?_;exact⟨by simp only[zAs,QC hb,QC hb2,QC hb3];rfl,e1.trans e2⟩
theorem zPq(h:WF)(x:Wo)(va vf:Value)(s:B9)(T:By h)(sa:Wd h va x.args)(sf:Wd h vf x.frm)(hla:(x.args.length:Int)<=9223372036854775807)(hlf:(x.frm.length:Int)<=9223372036854775807)(ho:0<=x.op/\x.op<=255):
  WC Tryz.prog tb 126 [.agg #[.int .u8 x.op,I x.ty,I x.a,I x.b,I x.n,va,vf],.agg #[I s.types,I s.funcs,I s.regs,I s.blocks]] h fun r h'=>r=.bool (zCY x s)/\WK h h':=by
 refine en ?_;refine VG ?_;intro p2 h1 e1 o1;refine VG ?_;intro p3 h2 e2 o2;have o1:=o1.ext e2;have T2:=(T.ext e1).ext e2;refine go ?_;refine VA (zNi h2 x.op T2 ho.1 ho.2) ?_;rintro _ h3 ⟨rfl,e3⟩;refine go ?_;refine VJ ?_;intro p5 h4 e4 o5;refine VF o5 e4 ?_;intro h5 e5 o5 _;have o1:=(o1.ext e3).ext e5;have o2:=(o2.ext e3).ext e5;have e15:=((e1.trans e2).trans e3).trans e5;have sa5:=sa.ext e15;have sf5:=sf.ext e15;have hins:zCY x s=zCY x s:=rfl;conv at hins=>rhs;unfold zCY zOp zJj zKC
 generalize hq:zt x.op=q at *;obtain⟨qa,qb,qn,qg,qf,qw⟩:=q;simp only at hins;refine go ?_;refine Vl (zF4 (xs:=#[.bool qa,.bool qb,.bool qn,.bool qg,.bool qf,.bool qw]) (ys:=#[.bool false,.bool false,.bool false,.bool false,.bool false,.bool false]) (b:=decide ((qa,qb,qn,qg,qf,qw)=(false,false,false,false,false,false))) (by kernel_rfl) (by cases qa<;>cases qb<;>cases qn<;>cases qg<;>cases qf<;>cases qw<;>rfl)) ?_;replace o5:WH h3 h5 p5 [.bool qa,.bool qb,.bool qn,.bool qg,.bool qf,.bool qw]:=o5;obtain⟨c0,hc0⟩:∃ c:Bool,c=decide ((qa,qb,qn,qg,qf,qw)=(false,false,false,false,false,false)):=⟨_,rfl⟩;rw[<-hc0]at hins;rw[<-hc0];refine VV 12 (fun t' h'=>h5=h'/\zC t' 25=.bool (c0||(qa&& !za x.a s.regs))) ?_ ?_<;>simp only[Qz,GA,GJ,Qx]
 ·refine go ?_;refine VH (fun hc=> ?_) (fun hc=> ?_)<;>refine go ?_
  ·exact⟨rfl,rfl,rfl,by simp only[hc,Qb,Qd,Qi,Qg,Qj,Qq,Qp,Qu,QS,Qa];exact WM⟩
  refine VH (fun hd=> ?_) (fun hd=> ?_)<;>(try simp only[DB]at hd)<;>refine go ?_
  ·refine VA (yj h5 x.a s.regs) ?_;rintro _ _ ⟨rfl,rfl⟩;refine go ?_;exact⟨rfl,rfl,rfl,by simp only[hc,hd,Qb,Qd,Qi,Qg,Qj,Qq,Qp,Qu,QS,Qa];exact WM⟩
  ·exact⟨rfl,rfl,rfl,by simp only[hc,hd,Qb,Qd,Qi,Qg,Qj,Qq,Qp,Qu,QS,Qa];exact WM⟩
 rintro t1 _ hs1 ⟨rfl,s25⟩;obtain⟨c1,hc1⟩:∃ c:Bool,c=(c0||(qa&& !za x.a s.regs)):=⟨_,rfl⟩;rw[<-hc1]at s25 hins;refine VV 12 (fun t' h'=>h5=h'/\zC t' 37=.bool (c1||(qb&& !za x.b s.regs))) ?_ ?_<;>simp only[Qz,GA,GJ,Qx]
 ·refine go ?_;refine VH (fun hc=> ?_) (fun hc=> ?_)<;>refine go ?_
  ·exact⟨rfl,rfl,rfl,by simp only[hc,Qb,Qd,Qi,Qg,Qj,Qq,Qp,Qu,QS,Qa];exact WM⟩
  refine VH (fun hd=> ?_) (fun hd=> ?_)<;>(try simp only[DB]at hd)<;>refine go ?_
  ·refine VA (yj h5 x.b s.regs) ?_;rintro _ _ ⟨rfl,rfl⟩;refine go ?_;exact⟨rfl,rfl,rfl,by simp only[hc,hd,Qb,Qd,Qi,Qg,Qj,Qq,Qp,Qu,QS,Qa];exact WM⟩
  ·exact⟨rfl,rfl,rfl,by simp only[hc,hd,Qb,Qd,Qi,Qg,Qj,Qq,Qp,Qu,QS,Qa];exact WM⟩
 rintro t2 _ hs2 ⟨rfl,s37⟩;obtain⟨c2,hc2⟩:∃ c:Bool,c=(c1||(qb&& !za x.b s.regs)):=⟨_,rfl⟩;rw[<-hc2]at s37 hins;refine VV 8 (fun t' h'=>WK h5 h'/\zC t' 45=.bool (c2|| !zEq x.args s.regs)) ?_ ?_<;>simp only[Qz,GA,GJ,Qx]
 ·refine go ?_;refine VH (fun hc=> ?_) (fun hc=> ?_)<;>refine go ?_
  ·exact⟨rfl,rfl,WK.refl _,by simp only[hc,Qb,Qd,Qi,Qg,Qj,Qq,Qp,Qu,QS,Qa];exact WM⟩
  refine VA (zNu h5 va s.regs x.args sa5 hla) ?_;rintro _ h6 ⟨rfl,e6⟩;refine go ?_;exact⟨rfl,rfl,e6,by simp only[hc,Qb,Qd,Qi,Qg,Qj,Qq,Qp,Qu,QS,Qa];exact WM⟩
 rintro t3 h6 hs3 ⟨e6,s45⟩;obtain⟨c3,hc3⟩:∃ c:Bool,c=(c2|| !zEq x.args s.regs):=⟨_,rfl⟩;rw[<-hc3]at s45 hins;have o1:=o1.ext e6;have o2:=o2.ext e6;have o5:=o5.ext e6;have sa6:=sa5.ext e6;have sf6:=sf5.ext e6;have e16:=e15.trans e6;refine VV 6 (fun t' h'=>WK h6 h'/\zC t' 51=.bool (c3|| !Y3 x s)) ?_ ?_<;>simp only[Qz,GA,GJ,Qx]
 ·refine go ?_;refine VH (fun hc=> ?_) (fun hc=> ?_)<;>refine go ?_
  ·exact⟨rfl,rfl,WK.refl _,by simp only[hc,Qb,Qd,Qi,Qg,Qj,Qq,Qp,Qu,QS,Qa];exact WM⟩
  refine VA (zLd h6 x va vf s) ?_;rintro _ h7 ⟨rfl,e7⟩;refine go ?_;exact⟨rfl,rfl,e7,by simp only[hc,Qb,Qd,Qi,Qg,Qj,Qq,Qp,Qu,QS,Qa];exact WM⟩
 rintro t4 h7 hs4 ⟨e7,s51⟩;obtain⟨c4,hc4⟩:∃ c:Bool,c=(c3|| !Y3 x s):=⟨_,rfl⟩;rw[<-hc4]at s51 hins;have o1:=o1.ext e7;have o2:=o2.ext e7;have o5:=o5.ext e7;have sa7:=sa6.ext e7;have sf7:=sf6.ext e7;have e17:=e16.trans e7;refine go ?_;refine VD (fun hz=> ?_) (fun hz=> ?_)<;>rw[hz]at hins
 ·refine gr ?_;exact⟨by rw[hins];rfl,e17⟩
 refine goC ?_;refine goC ?_;refine VV 8 (fun t' h'=>h7=h'/\zC t' 59=.bool (!qa&& !decide (x.a=0))) ?_ ?_<;>simp only[Qz,GA,GJ,Qx]
 ·refine go ?_;refine VH (fun hd=> ?_) (fun hd=> ?_)<;>(try simp only[DB]at hd)<;>refine go ?_
  ·exact⟨rfl,rfl,rfl,by simp only[hd,Qb,Qd,Qi,Qg,Qj,Qq,Qp,Qu,QS,Qa];exact WM⟩
  ·exact⟨rfl,rfl,rfl,by simp only[hd,Qb,Qd,Qi,Qg,Qj,Qq,Qp,Qu,QS,Qa];exact WM⟩
 rintro t5 _ hs5 ⟨rfl,s59⟩;obtain⟨d0,hd0⟩:∃ c:Bool,c=(!qa&& !decide (x.a=0)):=⟨_,rfl⟩;rw[<-hd0]at s59 hins;refine goC ?_;refine VV 10 (fun t' h'=>h7=h'/\zC t' 69=.bool (d0||(!qb&& !decide (x.b=0)))) ?_ ?_<;>simp only[Qz,GA,GJ,Qx]
 ·refine go ?_;refine VH (fun hc=> ?_) (fun hc=> ?_)<;>refine go ?_
  ·exact⟨rfl,rfl,rfl,by simp only[hc,Qb,Qd,Qi,Qg,Qj,Qq,Qp,Qu,QS,Qa];exact WM⟩
  refine VH (fun hd=> ?_) (fun hd=> ?_)<;>(try simp only[DB]at hd)<;>refine go ?_
  ·exact⟨rfl,rfl,rfl,by simp only[hc,hd,Qb,Qd,Qi,Qg,Qj,Qq,Qp,Qu,QS,Qa];exact WM⟩
  ·exact⟨rfl,rfl,rfl,by simp only[hc,hd,Qb,Qd,Qi,Qg,Qj,Qq,Qp,Qu,QS,Qa];exact WM⟩
 rintro t6 _ hs6 ⟨rfl,s69⟩;obtain⟨d1,hd1⟩:∃ c:Bool,c=(d0||(!qb&& !decide (x.b=0))):=⟨_,rfl⟩;rw[<-hd1]at s69 hins;refine goC ?_;refine VV 10 (fun t' h'=>h7=h'/\zC t' 79=.bool (d1||(!qn&& !decide (x.n=0)))) ?_ ?_<;>simp only[Qz,GA,GJ,Qx]
 ·refine go ?_;refine VH (fun hc=> ?_) (fun hc=> ?_)<;>refine go ?_
  ·exact⟨rfl,rfl,rfl,by simp only[hc,Qb,Qd,Qi,Qg,Qj,Qq,Qp,Qu,QS,Qa];exact WM⟩
  refine VH (fun hd=> ?_) (fun hd=> ?_)<;>(try simp only[DB]at hd)<;>refine go ?_
  ·exact⟨rfl,rfl,rfl,by simp only[hc,hd,Qb,Qd,Qi,Qg,Qj,Qq,Qp,Qu,QS,Qa];exact WM⟩
  ·exact⟨rfl,rfl,rfl,by simp only[hc,hd,Qb,Qd,Qi,Qg,Qj,Qq,Qp,Qu,QS,Qa];exact WM⟩
 rintro t7 _ hs7 ⟨rfl,s79⟩;obtain⟨d2,hd2⟩:∃ c:Bool,c=(d1||(!qn&& !decide (x.n=0))):=⟨_,rfl⟩;rw[<-hd2]at s79 hins;refine goC ?_;refine VV 11 (fun t' h'=>h7=h'/\zC t' 90=.bool (d2||(!qg&&decide (0<(x.args.length:Int))))) ?_ ?_<;>simp only[Qz,GA,GJ,Qx]
 ·refine go ?_;refine VH (fun hc=> ?_) (fun hc=> ?_)<;>refine go ?_
  ·exact⟨rfl,rfl,rfl,by simp only[hc,Qb,Qd,Qi,Qg,Qj,Qq,Qp,Qu,QS,Qa];exact WM⟩
  refine VH (fun hd=> ?_) (fun hd=> ?_)<;>(try simp only[DB]at hd)<;>refine go ?_
  ·exact⟨rfl,rfl,rfl,by simp only[hc,hd,Qb,Qd,Qi,Qg,Qj,Qq,Qp,Qu,QS,Qa];exact WM⟩
  ·exact⟨rfl,rfl,rfl,by simp only[hc,hd,Qb,Qd,Qi,Qg,Qj,Qq,Qp,Qu,QS,Qa];exact WM⟩
 rintro t8 _ hs8 ⟨rfl,s90⟩;obtain⟨d3,hd3⟩:∃ c:Bool,c=(d2||(!qg&&decide (0<(x.args.length:Int)))):=⟨_,rfl⟩;rw[<-hd3]at s90 hins;refine goC ?_;refine VV 12 (fun t' h'=>h7=h'/\zC t' 6=.bool (d3||(!qf&&decide (0<(x.frm.length:Int))))) ?_ ?_<;>simp only[Qz,GA,GJ,Qx]
 ·refine go ?_;refine VH (fun hc=> ?_) (fun hc=> ?_)<;>refine go ?_
  ·exact⟨rfl,rfl,rfl,by simp only[hc,Qb,Qd,Qi,Qg,Qj,Qq,Qp,Qu,QS,Qa];exact WM⟩
  refine VH (fun hd=> ?_) (fun hd=> ?_)<;>(try simp only[DB]at hd)<;>refine go ?_
  ·exact⟨rfl,rfl,rfl,by simp only[hc,hd,Qb,Qd,Qi,Qg,Qj,Qq,Qp,Qu,QS,Qa];exact WM⟩
  ·exact⟨rfl,rfl,rfl,by simp only[hc,hd,Qb,Qd,Qi,Qg,Qj,Qq,Qp,Qu,QS,Qa];exact WM⟩
 rintro t9 _ hs9 ⟨rfl,s6⟩;obtain⟨d4,hd4⟩:∃ c:Bool,c=(d3||(!qf&&decide (0<(x.frm.length:Int)))):=⟨_,rfl⟩;rw[<-hd4]at s6 hins;refine goC ?_;refine VV 9 (fun t' h'=>h7=h'/\zC t' 110=.bool (qw&&za x.ty s.types)) ?_ ?_<;>simp only[Qz,GA,GJ,Qx]
 ·refine go ?_;refine VH (fun hd=> ?_) (fun hd=> ?_)<;>(try simp only[DB]at hd)<;>refine go ?_
  ·refine VA (yj h7 x.ty s.types) ?_;rintro _ _ ⟨rfl,rfl⟩;refine go ?_;exact⟨rfl,rfl,rfl,by simp only[hd,Qb,Qd,Qi,Qg,Qj,Qq,Qp,Qu,QS,Qa];exact WM⟩
  ·exact⟨rfl,rfl,rfl,by simp only[hd,Qb,Qd,Qi,Qg,Qj,Qq,Qp,Qu,QS,Qa];exact WM⟩
 rintro t10 _ hs10 ⟨rfl,s110⟩;obtain⟨k0,hk0⟩:∃ c:Bool,c=(qw&&za x.ty s.types):=⟨_,rfl⟩;rw[<-hk0]at s110 hins;refine goC ?_;refine VV 11 (fun t' h'=>h7=h'/\zC t' 7=.bool (k0||(!qw&&decide (x.ty=0)))) ?_ ?_<;>simp only[Qz,GA,GJ,Qx]
 ·refine go ?_;refine VH (fun hc=> ?_) (fun hc=> ?_)<;>refine go ?_
  ·exact⟨rfl,rfl,rfl,by simp only[hc,Qb,Qd,Qi,Qg,Qj,Qq,Qp,Qu,QS,Qa];exact WM⟩
  refine VH (fun hd=> ?_) (fun hd=> ?_)<;>(try simp only[DB]at hd)<;>refine go ?_
  ·exact⟨rfl,rfl,rfl,by simp only[hc,hd,Qb,Qd,Qi,Qg,Qj,Qq,Qp,Qu,QS,Qa];exact WM⟩
  ·exact⟨rfl,rfl,rfl,by simp only[hc,hd,Qb,Qd,Qi,Qg,Qj,Qq,Qp,Qu,QS,Qa];exact WM⟩
 rintro t11 _ hs11 ⟨rfl,s7⟩;obtain⟨k1,hk1⟩:∃ c:Bool,c=(k0||(!qw&&decide (x.ty=0))):=⟨_,rfl⟩;rw[<-hk1]at s7 hins;refine go ?_;refine VD (fun hf=> ?_) (fun hf=> ?_)<;>rw[hf]at hins<;>refine go ?_
 ·refine VH (fun hd=> ?_) (fun hd=> ?_)<;>(try simp only[DB]at hd)<;>refine go ?_
  ·refine VH (fun he=> ?_) (fun he=> ?_)<;>refine go ?_
   ·refine VA (zNu h7 vf s.blocks x.frm sf7 hlf) ?_;rintro _ h8 ⟨rfl,e8⟩;have o1:=o1.ext e8;have sa8:=sa7.ext e8;have sf8:=sf7.ext e8;refine go ?_;refine VH (fun hg=> ?_) (fun hg=> ?_)<;>refine go ?_
    ·refine VH (fun hh=> ?_) (fun hh=> ?_)<;>simp only[DB]at hh<;>refine go ?_
     ·refine VH (fun hi=> ?_) (fun hi=> ?_)<;>simp only[DB]at hi<;>refine go ?_
      ·refine rt ?_;refine⟨?_,e17.trans e8⟩;have hdec:decide ((x.frm.length:Int)<=16)=decide (x.frm.length<=16):=by rw[GN];simp only[QY];omega
       rw[hdec,hins,hd,he,hg,QX (show x.frm.length=x.args.length by omega),QX (show 1<=x.frm.length by omega)];rfl
      ·refine rt ?_;refine⟨?_,e17.trans e8⟩;rw[hins,hd,he,hg,QX (show x.frm.length=x.args.length by omega),QW (show ¬1<=x.frm.length by omega)];rfl
     ·refine rt ?_;refine⟨?_,e17.trans e8⟩;rw[hins,hd,he,hg,QW (show ¬x.frm.length=x.args.length by omega)];rfl
    ·refine rt ?_;refine⟨?_,e17.trans e8⟩;rw[hins,hd,he,hg];rfl
   ·refine rt ?_;refine⟨?_,e17⟩;rw[hins,hd,he];rfl
  ·refine rt ?_;refine⟨?_,e17⟩;rw[hins,hd];rfl
 ·refine VH (fun hd=> ?_) (fun hd=> ?_)<;>(try simp only[DB]at hd)<;>refine go ?_
  ·refine VH (fun he=> ?_) (fun he=> ?_)<;>refine go ?_
   ·refine rt ?_;refine⟨?_,e17⟩;have hdec:decide ((x.args.length:Int)<=4)=decide (x.args.length<=4):=by rw[GN];simp only[QY];omega
    rw[hdec,hins,hd,he];rfl
   ·refine rt ?_;refine⟨?_,e17⟩;rw[hins,hd,he];rfl
  ·refine rt ?_;refine⟨?_,e17⟩;rw[hins,hd];rfl
end Go.Proofs.YtmilpkdhbdgjfaaGreatDoor
