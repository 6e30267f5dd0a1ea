/- Walks of functions, plain laws; proves no statement. -/
import Derived.Test.YtfnndahpddkniaaGreatDoorAmU
import Derived.Test.YtfnndahpddkniaaGreatDoorRows
set_option linter.all false
set_option maxHeartbeats 4000000
namespace Go.Proofs.YtfnndahpddkniaaGreatDoor
open Go.Am
def hasT:List (Bool×Bool×Bool×Bool×Bool×Bool):=
 let f:=false;let t:=true
 [(f,f,f,f,f,f),(f,f,t,f,f,t),(f,f,f,f,f,t),(f,f,t,f,f,t),(t,t,f,f,f,t),(t,t,f,f,f,t),(t,t,f,f,f,t),(t,t,f,f,f,t),(t,t,f,f,f,t),(t,t,f,f,f,t),(t,t,f,f,f,t),(f,f,f,f,f,t),(f,f,f,f,f,t),(t,f,f,f,f,f),(t,f,t,f,f,t),(t,t,f,f,f,t),(t,f,f,f,f,t),(t,t,f,f,f,f),(f,f,t,t,f,t),(t,f,f,t,f,t),(f,f,f,f,f,t),(t,f,f,f,f,f),(f,f,f,t,t,t)]
def zZ(op:Int):Bool×Bool×Bool×Bool×Bool×Bool:=hasT.getD op.toNat (false,false,false,false,false,false)
def YH(x:Bool×Bool×Bool×Bool×Bool×Bool):List Value:=[.bool x.1,.bool x.2.1,.bool x.2.2.1,.bool x.2.2.2.1,.bool x.2.2.2.2.1,.bool x.2.2.2.2.2]
def YW:List Value:=(hasT.map YH).flatten
structure U2 where
 kind:Int
 elem:Int
 many:Int
 parts:List Int
instance:Inhabited U2:=⟨⟨0,0,0,[]⟩⟩
def RTy(h:U0)(cs:List Value)(x:U2):Prop:=∃ va,cs=[.int .u8 x.kind,I x.elem,I x.many,va]/\WJ h va x.parts/\(x.parts.length:Int)<=9223372036854775807
theorem RTy.ext{h h' cs x}(r:RTy h cs x)(e:Ext h h'):RTy h' cs x:=let⟨va,a,b,c⟩:=r;⟨va,a,b.ext e,c⟩
abbrev Wp(h:U0)(v:Value)(T:List U2):Prop:=Ww 4 RTy h v T
theorem Wp.ext{h h' v T}(s:Wp h v T)(e:Ext h h'):Wp h' v T:=Ww.ext (fun _ _ r=>RTy.ext r e) s e
theorem zPj{h:U0}{v:Value}{l:List Int}(s:WJ h v l)(k:IntKind)(a b n:Int):zK [.int k n,I a,I b,v]=true:=by
 obtain⟨_,_,_,rfl⟩:=WW.shape s;rfl
def Z0(x:U2):Bool:=decide (1<=x.kind)&&decide (x.kind<=3)
def yp(m:Int)(l:List Int):Bool:=l.all fun n=>decide (0<=n)&&decide (n<m)
def yR(x:U2):Bool:=
 (if x.kind=1\/x.kind=4 then decide (x.elem=0)else true)&&(if x.kind=1\/x.kind=2\/x.kind=3\/x.kind=4 then decide (x.many=0)else true)&&
  (if x.kind=1\/x.kind=2\/x.kind=5 then decide (x.parts.length=0)else true)
def Zd(T:List U2)(x:U2)(k:Nat)(sizes:List Int):Int×Bool:=
 if x.kind=1 then(1,yR x)
 else if x.kind=2 then(1,yR x&&yp T.length [x.elem])
 else if x.kind=3 then(1,yR x&&decide (x.parts.length<=4)&&yp T.length (x.elem::x.parts)&&(x.elem::x.parts).all fun n=>Z0 (T.getD n.toNat default))
 else if x.kind=4 then(if yR x&&yp k x.parts then((x.parts.map fun n=>sizes.getD n.toNat 0).sum,decide (0<x.parts.length)&&decide (x.parts.length<=8)&&decide ((x.parts.map fun n=>sizes.getD n.toNat 0).sum<=32))else(0,false))
 else if x.kind=5 then(if yR x&&yp k [x.elem]&&decide (1<=x.many)&&decide (x.many<=16)then(x.many*sizes.getD x.elem.toNat 0,decide (x.many*sizes.getD x.elem.toNat 0<=32))else(0,false))
 else(1,false)
theorem zH0{T:List U2}{x:U2}{k:Nat}{s:List Int}(h:x.kind=3):Zd T x k s=(1,yR x&&decide (x.parts.length<=4)&&yp T.length (x.elem::x.parts)&&(x.elem::x.parts).all fun n=>Z0 (T.getD n.toNat default)):=by
 unfold Zd;rw[QC (by omega),QC (by omega),QF h]
theorem zOj{T:List U2}{x:U2}{k:Nat}{s:List Int}(h:x.kind=4):Zd T x k s=(if yR x&&yp k x.parts then((x.parts.map fun n=>s.getD n.toNat 0).sum,decide (0<x.parts.length)&&decide (x.parts.length<=8)&&decide ((x.parts.map fun n=>s.getD n.toNat 0).sum<=32))else(0,false)):=by
 unfold Zd;rw[QC (by omega),QC (by omega),QC (by omega),QF h]
theorem zMl{T:List U2}{x:U2}{k:Nat}{s:List Int}(h:x.kind=5):Zd T x k s=(if yR x&&yp k [x.elem]&&decide (1<=x.many)&&decide (x.many<=16)then(x.many*s.getD x.elem.toNat 0,decide (x.many*s.getD x.elem.toNat 0<=32))else(0,false)):=by
 unfold Zd;rw[QC (by omega),QC (by omega),QC (by omega),QC (by omega),QF h]
def Zr(T:List U2):Nat->Option (List Int)
 |0=>some []
 |k+1=>match Zr T k with
  |none=>none
  |some s=>if(Zd T (T.getD k default) k s).2 then some (s++[(Zd T (T.getD k default) k s).1])else none
def yQ(T:List U2):Int:=if 16<T.length then 4 else match Zr T T.length with
 |some _=>0
 |none=>30
noncomputable def tb:Wo:=⟨zFC Tryz.prog,fun _=>none⟩
theorem zOu(f:Nat):tb.stub f=none:=rfl
theorem en{f:Nat}{args:List Value}{h:U0}{Q:Value->U0->Prop}{n:Nat}{rs:List (Nat×Option (Bool×Nat))}{b:WK}{G':Prop}(k:G')(hs:tb.stub f=none:=by exact zOu _)(hc:tb.code f=some ⟨n,rs,b⟩:=by conv=>(lhs;reduce;(try simp only[Int.reduceOfNat,Int.reduceNegSucc])))
  (r:Wrap G'->WX Tryz.prog tb b ⟨zE5 args 0 .leaf,[],none⟩ h (zDn Tryz.prog tb rs Q):=by
  intro hgo;simp only[zE5,GC,Nat.reduceAdd];refine go ?_;exact hgo.out):WC Tryz.prog tb f args h Q:=WC.of hs hc (r ⟨k⟩)
end Go.Proofs.YtfnndahpddkniaaGreatDoor
set_option maxRecDepth 100000
namespace Go.Proofs.YtfnndahpddkniaaGreatDoor
open Go.Am
theorem YC{α:Type}{p:α->Bool}{l:List α}(h:∀ x∈l,p x=false):l.any p=false:=by
 rw[Gu];intro x hx;rw[h x hx];exact Bool.noConfusion
theorem zO{l:List Int}{i:Nat}(h:i<l.length):l.getD i 0∈l:=by
 simp[List.getD,QB h]
theorem Zi{l:List Int}{x:Int}(h:x∈l):∃ i,i<l.length/\l.getD i 0=x:=by
 obtain⟨i,hi,e⟩:=JD h;exact⟨i,hi,by simp[List.getD,QB hi,e]⟩
theorem zKE(h:U0)(h0:U0)(p:Value)(n m:Int)(o:U1 h0 h p [I m]):
  WC Tryz.prog tb 109 [I n,p] h fun r h'=>r=.bool (decide (n<0\/m<=n))/\Ext h h':=by
 refine en ?_;repeat' (first|(refine VE (fun hb=> ?_) (fun hb=> ?_)<;>(try simp only[DB]at hb)<;>refine go ?_)|(refine VI (fun hb=> ?_) (fun hb=> ?_)<;>(try simp only[DB]at hb)<;>refine go ?_))
 all_goals (refine rt ?_;exact⟨by first|(simp[one];done)|(simp[one];omega),Ext.refl h⟩)
theorem zLZ(h:U0)(v fv:Value)(l:List Int)(p:Int->Bool)(s:WJ h v l)(hl:(l.length:Int)<=9223372036854775807)(hf:∀ x∈l,∀ h1,Ext h h1->WV Tryz.prog tb fv [I x] h1 fun r h'=>r=.bool (p x)/\Ext h1 h'):
  WC Tryz.prog tb 145 [v,fv] h fun r h'=>(∃ n:Int,r=I n/\(decide (0<=n))=l.any p)/\Ext h h':=by
 refine en ?_;refine VD (fun i=>l.length-i) (fun i t h1=>Ext h h1/\zB t 8=I i/\i<=l.length/\∀ j,j<i->p (l.getD j 0)=false) 0 ?_ ?_
 ·exact⟨Ext.refl h,U6,QK _,fun j hj=>absurd hj (Qh _)⟩
 rintro i t h1 hsame ⟨e1,s8,hi,hm⟩;have s1:=s.ext e1;refine go ?_;refine VE (fun hb=> ?_) (fun hb=> ?_)<;>simp only[DB]at hb
 ·have hi':i<l.length:=by omega
  refine go ?_;refine VV (hf _ (zO hi') h1 e1) ?_;rintro _ h2 ⟨rfl,e2⟩;refine go ?_;refine VE (fun hb=> ?_) (fun hb=> ?_)
  ·refine gr ?_;refine⟨⟨i,rfl,?_⟩,e1.trans e2⟩;rw[Gz.2 ⟨_,zO hi',hb⟩];simp
  ·refine go ?_;refine zA (i+1) (by omega) ⟨e1.trans e2,Wc,by omega,fun j hj=> ?_⟩;by_cases e:j=i
   ·subst e;exact hb
   ·exact hm j (by omega)
 ·refine gr ?_;refine⟨⟨-1,rfl,?_⟩,e1⟩;rw[YC fun x hx=>by obtain⟨j,hj,rfl⟩:=Zi hx;exact hm j (by omega)];rfl
theorem zAP(h:U0)(v fv:Value)(l:List Int)(p:Int->Bool)(s:WJ h v l)(hl:(l.length:Int)<=9223372036854775807)(hf:∀ x∈l,∀ h1,Ext h h1->WV Tryz.prog tb fv [I x] h1 fun r h'=>r=.bool (p x)/\Ext h1 h'):
  WC Tryz.prog tb 108 [v,fv] h fun r h'=>r=.bool (l.any p)/\Ext h h':=by
 refine en ?_;refine VA (zLZ h v fv l p s hl hf) ?_;rintro _ h1 ⟨⟨n,rfl,e⟩,e1⟩;refine gr ?_;exact⟨by rw[<-e];rfl,e1⟩
theorem zBG(h:U0)(v:Value)(m:Int)(l:List Int)(s:WJ h v l)(hl:(l.length:Int)<=9223372036854775807):
  WC Tryz.prog tb 84 [I m,v] h fun r h'=>r=.bool (yp m l)/\Ext h h':=by
 refine en ?_;refine VF ?_;intro p h1 e1 o1;refine go ?_;refine VA (zAP h1 v _ l (fun n=>decide (n<0\/m<=n)) (s.ext e1) hl ?_) ?_
 ·intro x hx h2 e2;exact WV.func (zKE h2 h p x m (o1.ext e2))
 rintro _ h2 ⟨rfl,e2⟩;refine gr ?_;refine⟨?_,e1.trans e2⟩;show Value.bool _=_;congr 1;rw[GV];simp only[yp,Gk,Gu,QY,QJ,Qc];exact⟨fun h x hx=>by have:=h x hx;omega,fun h x hx=>by have:=h x hx;omega⟩
theorem zMF(h:U0)(v:Value)(l:List Int)(s:WJ h v l)(hl:l.length<=1000)(hb:∀ x∈l,0<=x/\x<=1000):
  WC Tryz.prog tb 144 [v] h fun r h'=>r=I l.sum/\h=h':=by
 refine en ?_;refine VD (fun i=>l.length-i) (fun i t h1=>h=h1/\zB t 7=I i/\zB t 2=I (l.take i).sum/\i<=l.length/\0<=(l.take i).sum/\(l.take i).sum<=1000*i) 0 ?_ ?_
 ·exact⟨rfl,U6,U6,QK _,by simp,by simp⟩
 rintro i t _ hsame ⟨rfl,s7,s2,hi,hm,hn⟩;refine go ?_;refine VE (fun hc=> ?_) (fun hc=> ?_)<;>simp only[DB]at hc
 ·have hi':i<l.length:=by omega
  have hx:=hb _ (zO hi');refine go ?_;have e:(l.take (i+1)).sum=(l.take i).sum+l.getD i 0:=by
   rw[Q4,G5];simp[List.getD,QB hi']
  refine zA (i+1) (by omega) ⟨rfl,Wc,by rw[e];exact U6,by omega,by omega,by omega⟩
 ·refine gr ?_;have:i=l.length:=by omega
  subst this;exact⟨by simp[one],rfl⟩
theorem zKq(h:U0)(x:U2)(va:Value):
  WC Tryz.prog tb 143 [.agg #[.int .u8 x.kind,I x.elem,I x.many,va]] h fun r h'=>r=.bool (Z0 x)/\Ext h h':=by
 refine en ?_;refine VF ?_;intro p h1 e1 o1;refine go ?_;repeat' (first|(refine VE (fun hb=> ?_) (fun hb=> ?_)<;>(try simp only[DB]at hb)<;>refine go ?_)|(refine VI (fun hb=> ?_) (fun hb=> ?_)<;>(try simp only[DB]at hb)<;>refine go ?_))
 all_goals (refine rt ?_;exact⟨by simp[one,Z0, *]<;>omega,e1⟩)
theorem zNF(h:U0)(x:U2)(va:Value)(s:WJ h va x.parts):
  WC Tryz.prog tb 141 [.agg #[.int .u8 x.kind,I x.elem,I x.many,va]] h fun r h'=>r=.bool (yR x)/\Ext h h':=by
 refine en ?_;refine VF ?_;intro p h1 e1 o1;have s1:=s.ext e1;refine go ?_;repeat' (first|(refine VE (fun hb=> ?_) (fun hb=> ?_)<;>(try simp only[DB]at hb)<;>refine go ?_)|(refine VI (fun hb=> ?_) (fun hb=> ?_)<;>(try simp only[DB]at hb)<;>refine go ?_))
 all_goals (refine rt ?_;refine⟨?_,e1⟩;simp[one,yR, *])
theorem zD{α:Type}{c:Nat}{R:U0->List Value->α->Prop}{h:U0}{v:Value}{T:List α}(s:Ww c R h v T):∃ a n k,v=.slice a n k:=let⟨_,a,_⟩:=s;a.shape
theorem yH{h:U0}{v:Value}{T:List U2}{i:Nat}(s:Wp h v T)(hi:i<T.length):∃ cs,RTy h cs (T.getD i default)/\We h v (i*4) cs/\zJ9 v:=by
 obtain⟨cs,a,_,c⟩:=s.at hi;exact⟨cs,by simpa [List.getD,QB hi]using a,c,s.some hi⟩
theorem zNf(h h0:U0)(p tv:Value)(T:List U2)(n:Int)(o:U1 h0 h p [tv])(s:Wp h tv T)(hn:0<=n/\n<T.length):
  WC Tryz.prog tb 142 [I n,p] h fun r h'=>r=.bool (!Z0 (T.getD n.toNat default))/\Ext h h':=by
 obtain⟨i,rfl⟩:∃ i:Nat,n=i:=⟨n.toNat,by omega⟩;obtain⟨cs,⟨va,rfl,sv,hv⟩,pc,hs⟩:=yH (i:=i) s (by omega);refine en ?_;refine VA (zKq h _ va) ?_;rintro _ h1 ⟨rfl,e1⟩;refine gr ?_;exact⟨rfl,e1⟩
theorem zPn(h:U0)(tv sv:Value)(T:List U2)(k:Nat)(sizes:List Int)(st:Wp h tv T)(ss:WJ h sv sizes)(hk:k<T.length)(hT:T.length<=100)(hp:∀ x∈T,x.parts.length<=100)(hsz:sizes.length=k)
  (hb0:∀ x∈sizes,0<=x/\x<=1000):
  WC Tryz.prog tb 107 [tv,I k,sv] h fun r h'=>r=.tuple #[I (Zd T (T.getD k default) k sizes).1,.bool (Zd T (T.getD k default) k sizes).2]/\Ext h h':=by
 have hxT:T.getD k default∈T:=by simp[List.getD,QB hk]
 have hpx:=hp _ hxT;generalize hx:T.getD k default=x at *;have hpx:x.parts.length<=100:=hpx;obtain⟨_,_,_,rfl⟩:=zD st;refine en ?_;refine VF ?_;intro p3 h1 e1 o3;have st1:=st.ext e1;obtain⟨cs,hR,pc,hs⟩:=yH (i:=k) st1 hk;rw[hx]at hR;obtain⟨va,rfl,sv0,hv⟩:=hR;refine go ?_;refine VL ?_;intro p8 h2 e2 o8;refine go ?_;refine VH o8 e2 ?_ (h1:=zPj (sv0.ext e2) _ _ _ _);intro h3 e3 o8 _;have o3:=o3.ext e3;have st3:=st1.ext e3;have ss3:=(ss.ext e1).ext e3;have sv3:=sv0.ext e3;refine go ?_;refine VA (zNF h3 x va sv3) ?_;rintro _ h4 ⟨rfl,e4⟩;have o3:=o3.ext e4;have o84:=o8.ext e4;have o8:=o84;have st4:=st3.ext e4;have ss4:=ss3.ext e4;have sv4:=sv3.ext e4;have e14:=(e1.trans e3).trans e4;clear st st1 st3 ss ss3 sv0 sv3 e1 e2 e3 e4 pc hs;refine go ?_;refine VE (fun hb=> ?_) (fun hb=> ?_)<;>simp only[DB]at hb<;>refine go ?_
 ·refine VI (fun hc=> ?_) (fun hc=> ?_)<;>refine go ?_<;>refine rt ?_<;>exact⟨by simp[one,Zd,hb,hc],e14⟩
 refine VE (fun hb2=> ?_) (fun hb2=> ?_)<;>simp only[DB]at hb2<;>refine go ?_
 ·refine VI (fun hc=> ?_) (fun hc=> ?_)<;>refine go ?_
  ·refine WO.bl [x.elem] ?_;intro v5 h5 e5 o5;have st5:=st4.ext e5;have o3:=o3.ext e5;refine go ?_;refine VA (zBG h5 v5 _ [x.elem] o5.sl (by simp)) ?_;rintro _ h6 ⟨rfl,e6⟩;refine go ?_;refine VI (fun hd=> ?_) (fun hd=> ?_)<;>refine go ?_<;>refine rt ?_<;>exact⟨by simp[one,Zd,hb2,hc,hd],(e14.trans e5).trans e6⟩
  ·refine rt ?_;exact⟨by simp[one,Zd,hb2,hc],e14⟩
 refine VE (fun hb3=> ?_) (fun hb3=> ?_)<;>simp only[DB]at hb3<;>refine go ?_
 ·refine WO.bl [x.elem] ?_;intro v5 h5 e5 o5;have sv5:=sv4.ext e5;have o8:=o8.ext e5;refine go ?_;refine VO (.inr o5) sv5 e5 (by simp;omega) ?_;intro v6 h6 e6 o6;have st6:=st4.ext e6;have o3:=o3.ext e6;have sv6:=sv4.ext e6;have o8:=U1.ext o84 e6;have e16:=e14.trans e6;refine go ?_;refine VI (fun hc=> ?_) (fun hc=> ?_)<;>refine go ?_
  ·refine VI (fun hd=> ?_) (fun hd=> ?_)<;>simp only[DB]at hd<;>refine go ?_
   ·have hd':x.parts.length<=4:=by omega
    refine VA (zBG h6 v6 _ _ o6.sl (by simp;omega)) ?_;rintro _ h7 ⟨rfl,e7⟩;have o3:=o3.ext e7;have st7:=st6.ext e7;refine go ?_;refine VI (fun he=> ?_) (fun he=> ?_)<;>refine go ?_
    ·have hin:∀ n∈[x.elem]++x.parts,0<=n/\n<(T.length:Int):=by
      intro n hn;have:=QY.1 he n hn;simpa using this
     refine VA (zAP h7 v6 _ _ (fun n=> !Z0 (T.getD n.toNat default)) (o6.sl.ext e7) (by simp;omega) ?_) ?_
     ·intro n hn h8 e8;exact WV.func (zNf h8 h p3 _ T n (o3.ext e8) (st7.ext e8) (hin n hn))
     rintro _ h8 ⟨rfl,e8⟩;refine go ?_;have hnot:(!([x.elem]++x.parts).any fun n=> !Z0 (T.getD n.toNat default))=([x.elem]++x.parts).all fun n=>Z0 (T.getD n.toNat default):=by
      rw[List.not_any_eq_all_not];simp
     refine VI (fun hf=> ?_) (fun hf=> ?_)<;>refine go ?_<;>refine rt ?_<;>refine⟨?_,(e16.trans e7).trans e8⟩<;>rw[hnot]at hf<;>rw[List.singleton_append]at hf he<;>rw[zH0 hb3,hc,he,hf,QT hd']<;>rfl
    ·refine rt ?_;refine⟨?_,e16.trans e7⟩;rw[List.singleton_append]at he;rw[zH0 hb3,hc,he,QT hd'];rfl
   ·refine rt ?_;refine⟨?_,e16⟩;rw[zH0 hb3,hc,QQ (show ¬x.parts.length<=4 by omega)];rfl
  ·refine rt ?_;refine⟨?_,e16⟩;rw[zH0 hb3,hc];rfl
 refine VE (fun hb4=> ?_) (fun hb4=> ?_)<;>simp only[DB]at hb4<;>refine go ?_
 ·refine VI (fun hc=> ?_) (fun hc=> ?_)<;>refine go ?_
  ·refine VA (zBG h4 va _ _ sv4 hv) ?_;rintro _ h5 ⟨rfl,e5⟩;have sv5:=sv4.ext e5;have ss5:=ss4.ext e5;have o8:=o8.ext e5;refine go ?_;refine VE (fun hd=> ?_) (fun hd=> ?_)<;>simp only[DB]at hd<;>refine go ?_
   ·refine rt ?_;exact⟨by simp[one,Zd,hb4,hc,hd],e14.trans e5⟩
   have hin:∀ n∈x.parts,0<=n/\n<(k:Int):=by
    intro n hn;have:=QY.1 hd n hn;simpa using this
   refine VD (fun i=>x.parts.length-i) (fun i t h1=>Ext h5 h1/\zB t 77=I i/\i<=x.parts.length/\∃ v,zB t 12=v/\U7 h5 h1 v ((x.parts.take i).map fun n=>sizes.getD n.toNat 0)) 0 ?_ ?_
   ·exact⟨Ext.refl _,U6,QK _,_,U6,.inl ⟨rfl,rfl⟩⟩
   ·rintro i t h6 hsame ⟨e6,s77,hi,v,s12,o12⟩;have sv6:=sv5.ext e6;have ss6:=ss5.ext e6;refine go ?_;refine VE (fun he=> ?_) (fun he=> ?_)<;>simp only[DB]at he
    ·have hi':i<x.parts.length:=by omega
     have hx2:=hin _ (zO hi');refine go ?_;refine WO.bl [sizes.getD (x.parts.getD i 0).toNat 0] ?_;intro v7 h7 e7 o7;refine go ?_;refine VO (o12.ext e7) o7.sl (e6.trans e7) (by simp;omega) ?_;intro v8 h8 e8 o8;refine go ?_;refine zA (i+1) (by omega) ⟨e8,Wc,by omega,_,U6,?_⟩;have e:(x.parts.take (i+1)).map (fun n=>sizes.getD n.toNat 0)=(x.parts.take i).map (fun n=>sizes.getD n.toNat 0)++[sizes.getD (x.parts.getD i 0).toNat 0]:=by
      rw[Q4,GB];simp[List.getD,QB hi']
     rw[e];exact o8
    ·have:i=x.parts.length:=by omega
     subst this;rw[Qk]at o12;have hall:∀ y∈x.parts.map (fun n=>sizes.getD n.toNat 0),0<=y/\y<=1000:=by
      intro y hy;obtain⟨n,hn,rfl⟩:=Q8.1 hy;have:=hin n hn;exact hb0 _ (zO (by omega))
     have o12:=o12.sl;refine go ?_;have hml:(x.parts.map fun n=>sizes.getD n.toNat 0).length=x.parts.length:=Qv ..;have e36:=(e14.trans e5).trans e6;have hr:∀ {b1 b2:Bool},decide (0<x.parts.length)=b1->decide (x.parts.length<=8)=b2->Value.tuple #[I (Zd T x k sizes).1,.bool (Zd T x k sizes).2]=
       .tuple #[I (x.parts.map fun n=>sizes.getD n.toNat 0).sum,.bool (b1&&b2&&decide ((x.parts.map fun n=>sizes.getD n.toNat 0).sum<=32))]:=by
      intro b1 b2 h1 h2;rw[zOj hb4,hc,hd,h1,h2];rfl
     clear hb0 hp hx hxT o3 o8 o84 st4 ss4 sv4 ss5 sv5 ss6 sv6 hsame;refine VI (fun hf=> ?_) (fun hf=> ?_)<;>simp only[DB,Qv]at hf<;>refine go ?_
     ·refine VA (zMF h6 v _ o12 (by simp;omega) hall) ?_;rintro _ _ ⟨rfl,rfl⟩;refine go ?_;refine VI (fun hg=> ?_) (fun hg=> ?_)<;>simp only[DB,Qv]at hg<;>refine go ?_
      ·refine rt ?_;refine⟨?_,e36⟩;rw[hr (QT (by omega)) (QT (by omega))];rfl
      ·refine rt ?_;refine⟨?_,e36⟩;rw[hr (QT (by omega)) (QQ (by omega))];rfl
     ·refine VA (zMF h6 v _ o12 (by simp;omega) hall) ?_;rintro _ _ ⟨rfl,rfl⟩;refine gr ?_;refine⟨?_,e36⟩;rw[hr (QQ (by omega)) rfl];rfl
  ·refine rt ?_;exact⟨by simp[one,Zd,hb4,hc],e14⟩
 refine VE (fun hb5=> ?_) (fun hb5=> ?_)<;>simp only[DB]at hb5<;>refine go ?_
 ·refine VI (fun hc=> ?_) (fun hc=> ?_)<;>refine go ?_
  ·refine WO.bl [x.elem] ?_;intro v5 h5 e5 o5;have ss5:=ss4.ext e5;have o8:=o8.ext e5;refine go ?_;refine VA (zBG h5 v5 _ [x.elem] o5.sl (by simp)) ?_;rintro _ h6 ⟨rfl,e6⟩;have ss6:=ss5.ext e6;have o8:=o8.ext e6;have e36:=(e14.trans e5).trans e6;have hr:∀ {b1 b2 b3:Bool},yp k [x.elem]=b1->decide (1<=x.many)=b2->decide (x.many<=16)=b3->Value.tuple #[I (Zd T x k sizes).1,.bool (Zd T x k sizes).2]=
     (if b1&&b2&&b3 then .tuple #[I (x.many*sizes.getD x.elem.toNat 0),.bool (decide (x.many*sizes.getD x.elem.toNat 0<=32))]else .tuple #[I 0,.bool false]):=by
    intro b1 b2 b3 h1 h2 h3;rw[zMl hb5,hc,h1,h2,h3];cases b1<;>cases b2<;>cases b3<;>rfl
   have hin:yp k [x.elem]=true->0<=x.elem/\x.elem<(k:Int):=by
    intro hd;have:=QY.1 hd x.elem (by simp);simpa using this
   have hs0:∀ n:Int,0<=n/\n<(k:Int)->0<=sizes.getD n.toNat 0/\sizes.getD n.toNat 0<=1000:=fun n hn=>hb0 _ (zO (by omega));clear hb0 hp hx hxT o3 o84 st4 ss4 sv4 ss5 o5;refine go ?_;refine VI (fun hd=> ?_) (fun hd=> ?_)<;>refine go ?_
   ·have hin:=hin hd;have hs:=hs0 _ hin;refine VI (fun he=> ?_) (fun he=> ?_)<;>simp only[DB]at he<;>refine go ?_
    ·refine VE (fun hf=> ?_) (fun hf=> ?_)<;>simp only[DB]at hf<;>refine go ?_
     ·refine rt ?_;refine⟨?_,e36⟩;rw[hr hd (QT he) (QQ (by omega))];rfl
     ·have hm1:x.many*sizes.getD x.elem.toNat 0<=16*1000:=Int.mul_le_mul (by omega) hs.2 hs.1 (by omega);have hm0:0<=x.many*sizes.getD x.elem.toNat 0:=Int.mul_nonneg (by omega) hs.1;refine gr ?_;refine⟨?_,e36⟩;rw[hr hd (QT he) (QT (by omega))];rfl
    ·refine rt ?_;refine⟨?_,e36⟩;rw[hr hd (QQ (by omega)) rfl];cases(decide (x.many<=16))<;>rfl
   ·refine rt ?_;refine⟨?_,e36⟩;rw[hr hd rfl rfl];rfl
  ·refine rt ?_;refine⟨?_,e14⟩;rw[zMl hb5,hc];rfl
 ·refine rt ?_;exact⟨by simp[one,Zd,hb,hb2,hb3,hb4,hb5],e14⟩
end Go.Proofs.YtfnndahpddkniaaGreatDoor
set_option maxRecDepth 100000
namespace Go.Proofs.YtfnndahpddkniaaGreatDoor
open Go.Am
theorem zNZ{T:List U2}{x:U2}{k:Nat}{s:List Int}(hs:∀ y∈s,0<=y/\y<=1000)(hk:s.length=k)(h:(Zd T x k s).2=true):0<=(Zd T x k s).1/\(Zd T x k s).1<=1000:=by
 unfold Zd at h |-;by_cases h1:x.kind=1
 ·rw[QF h1];simp
 rw[QC h1]at h |-;by_cases h2:x.kind=2
 ·rw[QF h2];simp
 rw[QC h2]at h |-;by_cases h3:x.kind=3
 ·rw[QF h3];simp
 rw[QC h3]at h |-;by_cases h4:x.kind=4
 ·rw[QF h4]at h |-;cases hc:(yR x&&yp k x.parts)with
  |false=>rw[hc]at h;simp at h
  |true=>
   rw[hc]at h;simp only[Q0]at h |-;simp only[QJ,Qc]at h hc;have hpos:∀ l:List Int,(∀ y∈l,0<=y)->0<=l.sum:=by
    intro l;induction l with
    |nil=>intro _;simp
    |cons a l ih=>intro hl;have:=ih fun y hy=>hl y (by simp[hy]);have:=hl a (by simp);simp;omega
   have:=hpos (x.parts.map fun n=>s.getD n.toNat 0) fun y hy=>by
    obtain⟨n,hn,rfl⟩:=Q8.1 hy;have:=QY.1 hc.2 n hn;simp at this;exact(hs _ (zO (by omega))).1
   omega
 rw[QC h4]at h |-;by_cases h5:x.kind=5
 ·rw[QF h5]at h |-;cases hc:(yR x&&yp k [x.elem]&&decide (1<=x.many)&&decide (x.many<=16))with
  |false=>rw[hc]at h;simp at h
  |true=>
   rw[hc]at h;simp only[Q0]at h |-;simp only[QJ,Qc]at h hc;have hin:0<=x.elem/\x.elem<(k:Int):=by
    have:=QY.1 hc.1.1.2 x.elem (by simp);simpa using this
   have:=Int.mul_nonneg (a:=x.many) (b:=s.getD x.elem.toNat 0) (by omega) (hs _ (zO (by omega))).1;omega
 rw[QC h5];simp
theorem zDu{T:List U2}:∀ {k:Nat} {s:List Int},Zr T k=some s->s.length=k/\∀ y∈s,0<=y/\y<=1000
 |0,s,h=>by cases h;simp
 |k+1,s,h=>by
  unfold Zr at h;cases hk:Zr T k with
  |none=>rw[hk]at h;cases h
  |some s0=>
   rw[hk]at h;obtain⟨h1,h2⟩:=zDu hk;simp only at h;split at h
   ·cases h;rename_i hm;refine⟨by simp[h1],fun y hy=> ?_⟩;rcases Qu.1 hy with hy|hy
    ·exact h2 y hy
    ·simp at hy;subst hy;exact zNZ h2 h1 hm
   ·cases h
theorem zC4{T:List U2}:∀ {k m:Nat},Zr T k=none->k<=m->Zr T m=none
 |k,0,h,hm=>by have:k=0:=by omega
               subst this;exact h
 |k,m+1,h,hm=>by
  by_cases e:k=m+1
  ·subst e;exact h
  ·unfold Zr;rw[zC4 h (by omega)]
theorem zHe(h:U0)(tv:Value)(T:List U2)(st:Wp h tv T)(hT:T.length<=100)(hp:∀ x∈T,x.parts.length<=100):
  WC Tryz.prog tb 83 [tv] h fun r h'=>r=I (yQ T)/\Ext h h':=by
 obtain⟨_,_,_,rfl⟩:=zD st;refine en ?_;refine VE (fun hb=> ?_) (fun hb=> ?_)<;>simp only[DB]at hb<;>refine go ?_
 ·refine rt ?_;refine⟨?_,Ext.refl h⟩;unfold yQ;rw[QF (by omega)];rfl
 have hb':¬16<T.length:=by omega
 refine VD (fun i=>T.length-i) (fun i t h1=>Ext h h1/\zB t 12=I i/\i<=T.length/\∃ v s,zB t 3=v/\Zr T i=some s/\U7 h h1 v s) 0 ?_ ?_
 ·exact⟨Ext.refl _,U6,QK _,_,[],U6,rfl,.inl ⟨rfl,rfl⟩⟩
 rintro i t h1 hsame ⟨e1,s12,hi,v,s,s3,hs,o⟩;have st1:=st.ext e1;obtain⟨hl,hr⟩:=zDu hs;refine go ?_;refine VE (fun hc=> ?_) (fun hc=> ?_)<;>simp only[DB]at hc<;>refine go ?_
 ·have hi':i<T.length:=by omega
  refine VA (zPn h1 _ v T i s st1 o.sl hi' hT hp hl hr) ?_;rintro _ h2 ⟨rfl,e2⟩;have o2:=o.ext e2;refine go ?_;have hst:Zr T (i+1)=if(Zd T (T.getD i default) i s).2 then some (s++[(Zd T (T.getD i default) i s).1])else none:=by
   conv=>lhs;unfold Zr
   rw[hs]
  refine VE (fun hd=> ?_) (fun hd=> ?_)<;>simp only[DB]at hd<;>refine go ?_
  ·refine rt ?_;refine⟨?_,e1.trans e2⟩;rw[hd,QC (by simp)]at hst;unfold yQ;rw[QC hb',zC4 hst (by omega)];rfl
  ·refine WO.bl [(Zd T (T.getD i default) i s).1] ?_;intro v3 h3 e3 o3;refine go ?_;refine VO (o2.ext e3) o3.sl ((e1.trans e2).trans e3) (by simp;omega) ?_;intro v4 h4 e4 o4;refine go ?_;rw[hd,QF rfl]at hst;exact zA (i+1) (by omega) ⟨e4,Wc,by omega,_,_,U6,hst,o4⟩
 ·refine rt ?_;refine⟨?_,e1⟩;have:i=T.length:=by omega
  subst this;unfold yQ;rw[QC hb',hs];rfl
structure WY where
 op:Int
 ty:Int
 a:Int
 b:Int
 n:Int
 args:List Int
 frm:List Int
structure BY where
 kind:Int
 a:Int
 to:Int
 els:Int
structure WL where
 ins:List WY
 fin:BY
structure WM where
 sig:Int
 blocks:List WL
instance:Inhabited WY:=⟨⟨0,0,0,0,0,[],[]⟩⟩
instance:Inhabited WL:=⟨⟨[],⟨0,0,0,0⟩⟩⟩
instance:Inhabited WM:=⟨⟨0,[]⟩⟩
def Wt(h:U0)(cs:List Value)(x:WY):Prop:=∃ va vf,cs=[.int .u8 x.op,I x.ty,I x.a,I x.b,I x.n,va,vf]/\WJ h va x.args/\WJ h vf x.frm/\(x.args.length:Int)<=1152921504606846976/\(x.frm.length:Int)<=1152921504606846976/\0<=x.op/\x.op<=255
theorem Wt.ext{h h' cs x}(r:Wt h cs x)(e:Ext h h'):Wt h' cs x:=let⟨va,vf,a,b,c,d⟩:=r;⟨va,vf,a,b.ext e,c.ext e,d⟩
def BS(h:U0)(cs:List Value)(x:WL):Prop:=∃ vi,cs=[vi,.int .u8 x.fin.kind,I x.fin.a,I x.fin.to,I x.fin.els]/\Ww 7 Wt h vi x.ins/\(x.ins.length:Int)<=1152921504606846976
theorem BS.ext{h h' cs x}(r:BS h cs x)(e:Ext h h'):BS h' cs x:=let⟨va,a,b,c⟩:=r;⟨va,a,Ww.ext (fun _ _ r=>Wt.ext r e) b e,c⟩
def RFn(h:U0)(cs:List Value)(x:WM):Prop:=∃ vb,cs=[I x.sig,vb]/\Ww 5 BS h vb x.blocks/\(x.blocks.length:Int)<=1152921504606846976
theorem RFn.ext{h h' cs x}(r:RFn h cs x)(e:Ext h h'):RFn h' cs x:=let⟨va,a,b,c⟩:=r;⟨va,a,Ww.ext (fun _ _ r=>BS.ext r e) b e,c⟩
abbrev BB(h:U0)(v:Value)(l:List WY):Prop:=Ww 7 Wt h v l
abbrev Wi(h:U0)(v:Value)(l:List WL):Prop:=Ww 5 BS h v l
abbrev Wd(h:U0)(v:Value)(l:List WM):Prop:=Ww 2 RFn h v l
theorem BB.ext{h h' v T}(s:BB h v T)(e:Ext h h'):BB h' v T:=Ww.ext (fun _ _ r=>Wt.ext r e) s e
theorem Wi.ext{h h' v T}(s:Wi h v T)(e:Ext h h'):Wi h' v T:=Ww.ext (fun _ _ r=>BS.ext r e) s e
theorem Wd.ext{h h' v T}(s:Wd h v T)(e:Ext h h'):Wd h' v T:=Ww.ext (fun _ _ r=>RFn.ext r e) s e
theorem zb{α:Type}[Inhabited α]{c:Nat}{R:U0->List Value->α->Prop}{h:U0}{v:Value}{T:List α}{i:Nat}(s:Ww c R h v T)(hi:i<T.length):∃ cs,R h cs (T.getD i default)/\We h v (i*c) cs/\zJ9 v:=by
 obtain⟨cs,a,_,c⟩:=s.at hi;exact⟨cs,by simpa [List.getD,QB hi]using a,c,s.some hi⟩
def Bh(h:U0):Prop:=yW h 0=some YW/\0<h.n
theorem Bh.ext{h h'}(t:Bh h)(e:Ext h h'):Bh h':=⟨e.row t.2 t.1,QM t.2 e.n⟩
theorem zPQ:(cut YW (0+0*6) 6).bind (zM true)=some (.agg (YH (hasT.getD 0 (false,false,false,false,false,false))).toArray):=by kernel_rfl
theorem zQR:(cut YW (0+1*6) 6).bind (zM true)=some (.agg (YH (hasT.getD 1 (false,false,false,false,false,false))).toArray):=by kernel_rfl
theorem zQa:(cut YW (0+2*6) 6).bind (zM true)=some (.agg (YH (hasT.getD 2 (false,false,false,false,false,false))).toArray):=by kernel_rfl
theorem zQb:(cut YW (0+3*6) 6).bind (zM true)=some (.agg (YH (hasT.getD 3 (false,false,false,false,false,false))).toArray):=by kernel_rfl
theorem zQd:(cut YW (0+4*6) 6).bind (zM true)=some (.agg (YH (hasT.getD 4 (false,false,false,false,false,false))).toArray):=by kernel_rfl
theorem zQS:(cut YW (0+5*6) 6).bind (zM true)=some (.agg (YH (hasT.getD 5 (false,false,false,false,false,false))).toArray):=by kernel_rfl
theorem zQU:(cut YW (0+6*6) 6).bind (zM true)=some (.agg (YH (hasT.getD 6 (false,false,false,false,false,false))).toArray):=by kernel_rfl
theorem zQY:(cut YW (0+7*6) 6).bind (zM true)=some (.agg (YH (hasT.getD 7 (false,false,false,false,false,false))).toArray):=by kernel_rfl
theorem zQZ:(cut YW (0+8*6) 6).bind (zM true)=some (.agg (YH (hasT.getD 8 (false,false,false,false,false,false))).toArray):=by kernel_rfl
theorem zQX:(cut YW (0+9*6) 6).bind (zM true)=some (.agg (YH (hasT.getD 9 (false,false,false,false,false,false))).toArray):=by kernel_rfl
theorem zP5:(cut YW (0+10*6) 6).bind (zM true)=some (.agg (YH (hasT.getD 10 (false,false,false,false,false,false))).toArray):=by kernel_rfl
theorem zQD:(cut YW (0+11*6) 6).bind (zM true)=some (.agg (YH (hasT.getD 11 (false,false,false,false,false,false))).toArray):=by kernel_rfl
theorem zQJ:(cut YW (0+12*6) 6).bind (zM true)=some (.agg (YH (hasT.getD 12 (false,false,false,false,false,false))).toArray):=by kernel_rfl
theorem zP4:(cut YW (0+13*6) 6).bind (zM true)=some (.agg (YH (hasT.getD 13 (false,false,false,false,false,false))).toArray):=by kernel_rfl
theorem zP0:(cut YW (0+14*6) 6).bind (zM true)=some (.agg (YH (hasT.getD 14 (false,false,false,false,false,false))).toArray):=by kernel_rfl
theorem zQK:(cut YW (0+15*6) 6).bind (zM true)=some (.agg (YH (hasT.getD 15 (false,false,false,false,false,false))).toArray):=by kernel_rfl
theorem zP2:(cut YW (0+16*6) 6).bind (zM true)=some (.agg (YH (hasT.getD 16 (false,false,false,false,false,false))).toArray):=by kernel_rfl
theorem zQB:(cut YW (0+17*6) 6).bind (zM true)=some (.agg (YH (hasT.getD 17 (false,false,false,false,false,false))).toArray):=by kernel_rfl
theorem zQI:(cut YW (0+18*6) 6).bind (zM true)=some (.agg (YH (hasT.getD 18 (false,false,false,false,false,false))).toArray):=by kernel_rfl
theorem zPt:(cut YW (0+19*6) 6).bind (zM true)=some (.agg (YH (hasT.getD 19 (false,false,false,false,false,false))).toArray):=by kernel_rfl
theorem zP8:(cut YW (0+20*6) 6).bind (zM true)=some (.agg (YH (hasT.getD 20 (false,false,false,false,false,false))).toArray):=by kernel_rfl
theorem zPy:(cut YW (0+21*6) 6).bind (zM true)=some (.agg (YH (hasT.getD 21 (false,false,false,false,false,false))).toArray):=by kernel_rfl
theorem zPv:(cut YW (0+22*6) 6).bind (zM true)=some (.agg (YH (hasT.getD 22 (false,false,false,false,false,false))).toArray):=by kernel_rfl
theorem zPI:∀ i,i<23->(cut YW (0+i*6) 6).bind (zM true)=some (.agg (YH (hasT.getD i (false,false,false,false,false,false))).toArray):=by
 intro i hi;match i,hi with
 |0,_=>exact zPQ
 |1,_=>exact zQR
 |2,_=>exact zQa
 |3,_=>exact zQb
 |4,_=>exact zQd
 |5,_=>exact zQS
 |6,_=>exact zQU
 |7,_=>exact zQY
 |8,_=>exact zQZ
 |9,_=>exact zQX
 |10,_=>exact zP5
 |11,_=>exact zQD
 |12,_=>exact zQJ
 |13,_=>exact zP4
 |14,_=>exact zP0
 |15,_=>exact zQK
 |16,_=>exact zP2
 |17,_=>exact zQB
 |18,_=>exact zQI
 |19,_=>exact zPt
 |20,_=>exact zP8
 |21,_=>exact zPy
 |22,_=>exact zPv
 |n+23,h=>exact absurd h (by omega)
def zY(n m:Int):Bool:=decide (0<=n)&&decide (n<m)
def zE1(l:List Int)(m:Int):Bool:=l.all fun n=>zY n m
structure Bm where
 types:Int
 funcs:Int
 regs:Int
 blocks:Int
def Y5(x:WY)(s:Bm):Bool:=
 if x.op=3\/x.op=18 then decide (0<=x.n)&&decide (x.n<s.funcs)else if x.op=14 then decide (0<=x.n)&&decide (x.n<8)else true
def zN(l:List WL):Int:=(l.map fun b=>(b.ins.length:Int)).sum
def Bx(x:BY)(s:Bm):Bool:=
 if x.kind=1 then(decide (x.a=0)&&decide (x.els=0))&&zY x.to s.blocks
 else if x.kind=2 then zY x.a s.regs&&zY x.to s.blocks&&zY x.els s.blocks
 else if x.kind=3 then(decide (x.to=0)&&decide (x.els=0))&&zY x.a s.regs
 else false
def zOb(x:WY)(s:Bm):Bool:=
 let q:=zZ x.op
 ((((decide (q=(false,false,false,false,false,false))||(q.1&& !zY x.a s.regs))||(q.2.1&& !zY x.b s.regs))|| !zE1 x.args s.regs)|| !Y5 x s)
def zJj(x:WY):Bool:=
 let q:=zZ x.op
 ((((!q.1&& !decide (x.a=0))||(!q.2.1&& !decide (x.b=0)))||(!q.2.2.1&& !decide (x.n=0)))||(!q.2.2.2.1&&decide (0<(x.args.length:Int))))||(!q.2.2.2.2.1&&decide (0<(x.frm.length:Int)))
def zJs(x:WY)(s:Bm):Bool:=
 let q:=zZ x.op
 (q.2.2.2.2.2&&zY x.ty s.types)||(!q.2.2.2.2.2&&decide (x.ty=0))
def Bo(x:WY)(s:Bm):Bool:=
 !zOb x s&&(if(zZ x.op).2.2.2.2.1 then !zJj x&&zJs x s&&zE1 x.frm s.blocks&&decide (x.frm.length=x.args.length)&&decide (1<=x.frm.length)&&decide (x.frm.length<=16)else !zJj x&&zJs x s&&decide (x.args.length<=4))
def Ya(b:WL)(s:Bm):Bool:=(b.ins.any fun x=> !Bo x s)|| !Bx b.fin s
def Bq(T:List U2)(nf:Int)(f:WM):Bm:=⟨T.length,nf,((T.getD f.sig.toNat default).parts.length:Int)+zN f.blocks,f.blocks.length⟩
def Bw(T:List U2)(f:WM):Bool:=
 (((!zY f.sig T.length|| !decide ((T.getD f.sig.toNat default).kind=3))|| !zY ((f.blocks.length:Int)-1) 16)||decide (128<zN f.blocks))
def BL(T:List U2)(nf:Int)(f:WM):Bool:=if Bw T f then false else !(f.blocks.any fun b=>Ya b (Bq T nf f))
def yu(T:List U2)(F:List WM):Int:=
 if yQ T≠0 then yQ T else if(!zY ((F.length:Int)-1) 8||F.any fun f=> !BL T F.length f)then 60 else 0
def zz(T:List U2)(F:List WM)(f:Int):Int×Int:=
 if yu T F≠0 then(0,yu T F)else if zY f F.length then(((T.getD (F.getD f.toNat default).sig.toNat default).parts.length:Int),0)else(0,2)
def Yn(T:List U2)(F:List WM)(f:Int):Int×Int:=
 if(zz T F f).2≠0 then(0,(zz T F f).2)else((zz T F f).1+zN (F.getD f.toNat default).blocks,0)
structure W0(T:List U2)(F:List WM):Prop where
 types:T.length<=100
 parts:∀ x∈T,x.parts.length<=100
 funcs:F.length<=1000
 blocks:∀ f∈F,f.blocks.length<=1000
 ins:∀ f∈F,∀ b∈f.blocks,b.ins.length<=1000
end Go.Proofs.YtfnndahpddkniaaGreatDoor
set_option maxRecDepth 100000
namespace Go.Proofs.YtfnndahpddkniaaGreatDoor
open Go.Am
theorem ZO(h:U0)(n m:Int):WC Tryz.prog tb 100 [I n,I m] h fun r h'=>r=.bool (zY n m)/\h=h':=by
 refine en ?_;repeat' (first|(refine VE (fun hb=> ?_) (fun hb=> ?_)<;>(try simp only[DB]at hb)<;>refine go ?_)|(refine VI (fun hb=> ?_) (fun hb=> ?_)<;>(try simp only[DB]at hb)<;>refine go ?_))
 all_goals (refine rt ?_;exact⟨by simp[one,zY, *]<;>omega,rfl⟩)
theorem zNp(h h0:U0)(p:Value)(n m:Int)(o:U1 h0 h p [I m]):WC Tryz.prog tb 198 [I n,p] h fun r h'=>r=.bool (!zY n m)/\Ext h h':=by
 refine en ?_;refine VA (ZO h n m) ?_;rintro _ _ ⟨rfl,rfl⟩;refine gr ?_;exact⟨rfl,Ext.refl h⟩
theorem zMO(h:U0)(v:Value)(m:Int)(l:List Int)(s:WJ h v l)(hl:(l.length:Int)<=9223372036854775807):WC Tryz.prog tb 166 [v,I m] h fun r h'=>r=.bool (zE1 l m)/\Ext h h':=by
 refine en ?_;refine VF ?_;intro p h1 e1 o1;have s1:=s.ext e1;refine go ?_;refine VA (zAP h1 v _ l (fun n=> !zY n m) s1 hl ?_) ?_
 ·intro x hx h2 e2;exact WV.func (zNp h2 h p x m (o1.ext e2))
 rintro _ h2 ⟨rfl,e2⟩;refine gr ?_;refine⟨?_,e1.trans e2⟩;show Value.bool _=_;rw[List.not_any_eq_all_not];simp[zE1]
theorem zKg(h:U0)(x:WY)(va vf:Value)(s:Bm):
  WC Tryz.prog tb 167 [.agg #[.int .u8 x.op,I x.ty,I x.a,I x.b,I x.n,va,vf],.agg #[I s.types,I s.funcs,I s.regs,I s.blocks]] h fun r h'=>r=.bool (Y5 x s)/\Ext h h':=by
 refine en ?_;refine VF ?_;intro p2 h1 e1 o1;refine VF ?_;intro p3 h2 e2 o2;have o1:=o1.ext e2;refine go ?_;repeat' (first|(refine VE (fun hb=> ?_) (fun hb=> ?_)<;>(try simp only[DB]at hb)<;>refine go ?_)|(refine VI (fun hb=> ?_) (fun hb=> ?_)<;>(try simp only[DB]at hb)<;>refine go ?_))
 all_goals (refine rt ?_;exact⟨by simp[one,Y5, *]<;>omega,e1.trans e2⟩)
theorem zLo(h:U0)(op:Int)(tb:Bh h)(h0:0<=op)(h255:op<=255):
  WC Tryz.prog Go.Proofs.YtfnndahpddkniaaGreatDoor.tb 165 [.int .u8 op] h fun r h'=>r=.agg (YH (zZ op)).toArray/\Ext h h':=by
 refine en ?_;refine VL ?_;intro p h1 e1 o1;have t1:=(tb.ext e1).1;refine go ?_;refine VE (fun hb=> ?_) (fun hb=> ?_)<;>simp only[DB]at hb
 ·have ht:=zPI op.toNat (by omega);obtain⟨i,rfl⟩:∃ i:Nat,op=i:=⟨op.toNat,by omega⟩;rw[QN]at ht;refine go ?_;refine VH o1 e1 ?_;intro h2 e2 o2 _;refine gr ?_;exact⟨rfl,e2⟩
 ·refine go ?_;refine VH o1 e1 ?_;intro h2 e2 o2 _;refine gr ?_;refine⟨?_,e2⟩;unfold zZ;have hl:hasT.length<=op.toNat:=by simp[hasT];omega
  rw[QH,G6 hl];rfl
theorem zGf(h:U0)(sig:Int)(vb:Value)(l:List WL)(s:Wi h vb l)(hl:l.length<=1000)(hb:∀ b∈l,b.ins.length<=1000):
  WC Tryz.prog tb 81 [.agg #[I sig,vb]] h fun r h'=>r=I (zN l)/\Ext h h':=by
 refine en ?_;refine VF ?_;intro p h1 e1 o1;have s1:=s.ext e1;refine go ?_;refine VD (fun i=>l.length-i) (fun i t h2=>Ext h1 h2/\zB t 8=I i/\i<=l.length/\zB t 2=I (zN (l.take i))/\0<=zN (l.take i)/\zN (l.take i)<=1000*i) 0 ?_ ?_
 ·exact⟨Ext.refl _,U6,QK _,U6,by simp[zN],by simp[zN]⟩
 rintro i t h2 hsame ⟨e2,s8,hi,s2,hm,hn⟩;have s3:=s1.ext e2;refine go ?_;refine VE (fun hc=> ?_) (fun hc=> ?_)<;>simp only[DB]at hc
 ·have hi':i<l.length:=by omega
  obtain⟨cs,⟨vi,rfl,si,hsi⟩,pc,hs⟩:=zb s3 hi';obtain⟨_,_,_,rfl⟩:=zD si;have hbi:(l.getD i default).ins.length<=1000:=hb _ (by simp[List.getD,QB hi']);refine go ?_;refine VL ?_;intro p4 h3 e3 o3;refine VH o3 e3 ?_;intro h4 e4 o4 _;have si:=BB.ext si e4;refine go ?_;have e:zN (l.take (i+1))=zN (l.take i)+((l.getD i default).ins.length:Int):=by
   unfold zN;rw[Q4,GB,G5];simp[List.getD,QB hi']
  exact zA (i+1) (by omega) ⟨e2.trans e4,Wc,by omega,by rw[e];exact U6,by omega,by omega⟩
 ·refine gr ?_;have:i=l.length:=by omega
  subst this;exact⟨by simp[one],e1.trans e2⟩
end Go.Proofs.YtfnndahpddkniaaGreatDoor
set_option maxRecDepth 100000
namespace Go.Proofs.YtfnndahpddkniaaGreatDoor
open Go.Am
theorem zPr(h:U0)(x:BY)(s:Bm):
  WC Tryz.prog tb 134 [.agg #[.int .u8 x.kind,I x.a,I x.to,I x.els],.agg #[I s.types,I s.funcs,I s.regs,I s.blocks]] h fun r h'=>r=.bool (Bx x s)/\Ext h h':=by
 refine en ?_;refine VF ?_;intro p2 h1 e1 o1;refine VF ?_;intro p3 h2 e2 o2;have o1:=o1.ext e2;refine go ?_;refine VE (fun hb=> ?_) (fun hb=> ?_)<;>simp only[DB]at hb<;>refine go ?_
 ·refine Vn (zIJ (xs:=#[.int .u8 x.kind,I x.a,I x.to,I x.els]) (ys:=#[.int .u8 x.kind,I 0,I x.to,I 0]) (b:=decide (x.a=0)&&decide (x.els=0)) (by kernel_rfl) (by simp[YU,zCW,I];rw[GV];simp)) ?_;refine go ?_;refine VI (fun hc=> ?_) (fun hc=> ?_)<;>refine go ?_
  ·refine VA (ZO h2 x.to s.blocks) ?_;rintro _ _ ⟨rfl,rfl⟩;refine gr ?_;exact⟨by simp only[Bx,QF hb,hc,Qd];rfl,e1.trans e2⟩
  ·refine rt ?_;exact⟨by simp only[Bx,QF hb,hc,Qf];rfl,e1.trans e2⟩
 refine VE (fun hb2=> ?_) (fun hb2=> ?_)<;>simp only[DB]at hb2<;>refine go ?_
 ·refine VA (ZO h2 x.a s.regs) ?_;rintro _ _ ⟨rfl,rfl⟩;refine go ?_;refine VI (fun hc=> ?_) (fun hc=> ?_)<;>refine go ?_
  ·refine VA (ZO h2 x.to s.blocks) ?_;rintro _ _ ⟨rfl,rfl⟩;refine go ?_;refine VI (fun hd=> ?_) (fun hd=> ?_)<;>refine go ?_
   ·refine VA (ZO h2 x.els s.blocks) ?_;rintro _ _ ⟨rfl,rfl⟩;refine gr ?_;exact⟨by simp only[Bx,QC hb,QF hb2,hc,hd,Qd];rfl,e1.trans e2⟩
   ·refine rt ?_;exact⟨by simp only[Bx,QC hb,QF hb2,hc,hd,Qd,Qf];rfl,e1.trans e2⟩
  ·refine rt ?_;exact⟨by simp only[Bx,QC hb,QF hb2,hc,Qd,Qf];rfl,e1.trans e2⟩
 refine VE (fun hb3=> ?_) (fun hb3=> ?_)<;>simp only[DB]at hb3<;>refine go ?_
 ·refine Vn (zIJ (xs:=#[.int .u8 x.kind,I x.a,I x.to,I x.els]) (ys:=#[.int .u8 x.kind,I x.a,I 0,I 0]) (b:=decide (x.to=0)&&decide (x.els=0)) (by kernel_rfl) (by simp[YU,zCW,I];rw[GV];simp)) ?_;refine go ?_;refine VI (fun hc=> ?_) (fun hc=> ?_)<;>refine go ?_
  ·refine VA (ZO h2 x.a s.regs) ?_;rintro _ _ ⟨rfl,rfl⟩;refine gr ?_;exact⟨by simp only[Bx,QC hb,QC hb2,QF hb3,hc,Qd];rfl,e1.trans e2⟩
  ·refine rt ?_;exact⟨by simp only[Bx,QC hb,QC hb2,QF hb3,hc,Qf];rfl,e1.trans e2⟩
 ·refine rt ?_;exact⟨by simp only[Bx,QC hb,QC hb2,QC hb3];rfl,e1.trans e2⟩
theorem zPe(h:U0)(x:WY)(va vf:Value)(s:Bm)(T:Bh h)(sa:WJ h va x.args)(sf:WJ h vf x.frm)(hla:(x.args.length:Int)<=9223372036854775807)(hlf:(x.frm.length:Int)<=9223372036854775807)(ho:0<=x.op/\x.op<=255):
  WC Tryz.prog tb 130 [.agg #[.int .u8 x.op,I x.ty,I x.a,I x.b,I x.n,va,vf],.agg #[I s.types,I s.funcs,I s.regs,I s.blocks]] h fun r h'=>r=.bool (Bo x s)/\Ext h h':=by
 refine en ?_;refine VF ?_;intro p2 h1 e1 o1;refine VF ?_;intro p3 h2 e2 o2;have o1:=o1.ext e2;have T2:=(T.ext e1).ext e2;refine go ?_;refine VA (zLo h2 x.op T2 ho.1 ho.2) ?_;rintro _ h3 ⟨rfl,e3⟩;refine go ?_;refine VL ?_;intro p5 h4 e4 o5;refine VH o5 e4 ?_;intro h5 e5 o5 _;have o1:=(o1.ext e3).ext e5;have o2:=(o2.ext e3).ext e5;have e15:=((e1.trans e2).trans e3).trans e5;have sa5:=sa.ext e15;have sf5:=sf.ext e15;have hins:Bo x s=Bo x s:=rfl;conv at hins=>rhs;unfold Bo zOb zJj zJs
 generalize hq:zZ x.op=q at *;obtain⟨qa,qb,qn,qg,qf,qw⟩:=q;simp only at hins;refine go ?_;refine Vn (zIJ (xs:=#[.bool qa,.bool qb,.bool qn,.bool qg,.bool qf,.bool qw]) (ys:=#[.bool false,.bool false,.bool false,.bool false,.bool false,.bool false]) (b:=decide ((qa,qb,qn,qg,qf,qw)=(false,false,false,false,false,false))) (by kernel_rfl) (by cases qa<;>cases qb<;>cases qn<;>cases qg<;>cases qf<;>cases qw<;>rfl)) ?_;replace o5:U1 h3 h5 p5 [.bool qa,.bool qb,.bool qn,.bool qg,.bool qf,.bool qw]:=o5;obtain⟨c0,hc0⟩:∃ c:Bool,c=decide ((qa,qb,qn,qg,qf,qw)=(false,false,false,false,false,false)):=⟨_,rfl⟩;rw[<-hc0]at hins;rw[<-hc0];refine VR 12 (fun t' h'=>h5=h'/\zB t' 25=.bool (c0||(qa&& !zY x.a s.regs))) ?_ ?_<;>simp only[Qm,Q5,GA,Q3]
 ·refine go ?_;refine VI (fun hc=> ?_) (fun hc=> ?_)<;>refine go ?_
  ·exact⟨rfl,rfl,rfl,by simp only[hc,Qd,Qf,Qo,Qs,Qx,Qy,Qw,Q2,QW,Qg];exact U6⟩
  refine VI (fun hd=> ?_) (fun hd=> ?_)<;>(try simp only[DB]at hd)<;>refine go ?_
  ·refine VA (ZO h5 x.a s.regs) ?_;rintro _ _ ⟨rfl,rfl⟩;refine go ?_;exact⟨rfl,rfl,rfl,by simp only[hc,hd,Qd,Qf,Qo,Qs,Qx,Qy,Qw,Q2,QW,Qg];exact U6⟩
  ·exact⟨rfl,rfl,rfl,by simp only[hc,hd,Qd,Qf,Qo,Qs,Qx,Qy,Qw,Q2,QW,Qg];exact U6⟩
 rintro t1 _ hs1 ⟨rfl,s25⟩;obtain⟨c1,hc1⟩:∃ c:Bool,c=(c0||(qa&& !zY x.a s.regs)):=⟨_,rfl⟩;rw[<-hc1]at s25 hins;refine VR 12 (fun t' h'=>h5=h'/\zB t' 37=.bool (c1||(qb&& !zY x.b s.regs))) ?_ ?_<;>simp only[Qm,Q5,GA,Q3]
 ·refine go ?_;refine VI (fun hc=> ?_) (fun hc=> ?_)<;>refine go ?_
  ·exact⟨rfl,rfl,rfl,by simp only[hc,Qd,Qf,Qo,Qs,Qx,Qy,Qw,Q2,QW,Qg];exact U6⟩
  refine VI (fun hd=> ?_) (fun hd=> ?_)<;>(try simp only[DB]at hd)<;>refine go ?_
  ·refine VA (ZO h5 x.b s.regs) ?_;rintro _ _ ⟨rfl,rfl⟩;refine go ?_;exact⟨rfl,rfl,rfl,by simp only[hc,hd,Qd,Qf,Qo,Qs,Qx,Qy,Qw,Q2,QW,Qg];exact U6⟩
  ·exact⟨rfl,rfl,rfl,by simp only[hc,hd,Qd,Qf,Qo,Qs,Qx,Qy,Qw,Q2,QW,Qg];exact U6⟩
 rintro t2 _ hs2 ⟨rfl,s37⟩;obtain⟨c2,hc2⟩:∃ c:Bool,c=(c1||(qb&& !zY x.b s.regs)):=⟨_,rfl⟩;rw[<-hc2]at s37 hins;refine VR 8 (fun t' h'=>Ext h5 h'/\zB t' 45=.bool (c2|| !zE1 x.args s.regs)) ?_ ?_<;>simp only[Qm,Q5,GA,Q3]
 ·refine go ?_;refine VI (fun hc=> ?_) (fun hc=> ?_)<;>refine go ?_
  ·exact⟨rfl,rfl,Ext.refl _,by simp only[hc,Qd,Qf,Qo,Qs,Qx,Qy,Qw,Q2,QW,Qg];exact U6⟩
  refine VA (zMO h5 va s.regs x.args sa5 hla) ?_;rintro _ h6 ⟨rfl,e6⟩;refine go ?_;exact⟨rfl,rfl,e6,by simp only[hc,Qd,Qf,Qo,Qs,Qx,Qy,Qw,Q2,QW,Qg];exact U6⟩
 rintro t3 h6 hs3 ⟨e6,s45⟩;obtain⟨c3,hc3⟩:∃ c:Bool,c=(c2|| !zE1 x.args s.regs):=⟨_,rfl⟩;rw[<-hc3]at s45 hins;have o1:=o1.ext e6;have o2:=o2.ext e6;have o5:=o5.ext e6;have sa6:=sa5.ext e6;have sf6:=sf5.ext e6;have e16:=e15.trans e6;refine VR 6 (fun t' h'=>Ext h6 h'/\zB t' 51=.bool (c3|| !Y5 x s)) ?_ ?_<;>simp only[Qm,Q5,GA,Q3]
 ·refine go ?_;refine VI (fun hc=> ?_) (fun hc=> ?_)<;>refine go ?_
  ·exact⟨rfl,rfl,Ext.refl _,by simp only[hc,Qd,Qf,Qo,Qs,Qx,Qy,Qw,Q2,QW,Qg];exact U6⟩
  refine VA (zKg h6 x va vf s) ?_;rintro _ h7 ⟨rfl,e7⟩;refine go ?_;exact⟨rfl,rfl,e7,by simp only[hc,Qd,Qf,Qo,Qs,Qx,Qy,Qw,Q2,QW,Qg];exact U6⟩
 rintro t4 h7 hs4 ⟨e7,s51⟩;obtain⟨c4,hc4⟩:∃ c:Bool,c=(c3|| !Y5 x s):=⟨_,rfl⟩;rw[<-hc4]at s51 hins;have o1:=o1.ext e7;have o2:=o2.ext e7;have o5:=o5.ext e7;have sa7:=sa6.ext e7;have sf7:=sf6.ext e7;have e17:=e16.trans e7;refine go ?_;refine VE (fun hz=> ?_) (fun hz=> ?_)<;>rw[hz]at hins
 ·refine gr ?_;exact⟨by rw[hins];rfl,e17⟩
 refine goC ?_;refine goC ?_;refine VR 8 (fun t' h'=>h7=h'/\zB t' 59=.bool (!qa&& !decide (x.a=0))) ?_ ?_<;>simp only[Qm,Q5,GA,Q3]
 ·refine go ?_;refine VI (fun hd=> ?_) (fun hd=> ?_)<;>(try simp only[DB]at hd)<;>refine go ?_
  ·exact⟨rfl,rfl,rfl,by simp only[hd,Qd,Qf,Qo,Qs,Qx,Qy,Qw,Q2,QW,Qg];exact U6⟩
  ·exact⟨rfl,rfl,rfl,by simp only[hd,Qd,Qf,Qo,Qs,Qx,Qy,Qw,Q2,QW,Qg];exact U6⟩
 rintro t5 _ hs5 ⟨rfl,s59⟩;obtain⟨d0,hd0⟩:∃ c:Bool,c=(!qa&& !decide (x.a=0)):=⟨_,rfl⟩;rw[<-hd0]at s59 hins;refine goC ?_;refine VR 10 (fun t' h'=>h7=h'/\zB t' 69=.bool (d0||(!qb&& !decide (x.b=0)))) ?_ ?_<;>simp only[Qm,Q5,GA,Q3]
 ·refine go ?_;refine VI (fun hc=> ?_) (fun hc=> ?_)<;>refine go ?_
  ·exact⟨rfl,rfl,rfl,by simp only[hc,Qd,Qf,Qo,Qs,Qx,Qy,Qw,Q2,QW,Qg];exact U6⟩
  refine VI (fun hd=> ?_) (fun hd=> ?_)<;>(try simp only[DB]at hd)<;>refine go ?_
  ·exact⟨rfl,rfl,rfl,by simp only[hc,hd,Qd,Qf,Qo,Qs,Qx,Qy,Qw,Q2,QW,Qg];exact U6⟩
  ·exact⟨rfl,rfl,rfl,by simp only[hc,hd,Qd,Qf,Qo,Qs,Qx,Qy,Qw,Q2,QW,Qg];exact U6⟩
 rintro t6 _ hs6 ⟨rfl,s69⟩;obtain⟨d1,hd1⟩:∃ c:Bool,c=(d0||(!qb&& !decide (x.b=0))):=⟨_,rfl⟩;rw[<-hd1]at s69 hins;refine goC ?_;refine VR 10 (fun t' h'=>h7=h'/\zB t' 79=.bool (d1||(!qn&& !decide (x.n=0)))) ?_ ?_<;>simp only[Qm,Q5,GA,Q3]
 ·refine go ?_;refine VI (fun hc=> ?_) (fun hc=> ?_)<;>refine go ?_
  ·exact⟨rfl,rfl,rfl,by simp only[hc,Qd,Qf,Qo,Qs,Qx,Qy,Qw,Q2,QW,Qg];exact U6⟩
  refine VI (fun hd=> ?_) (fun hd=> ?_)<;>(try simp only[DB]at hd)<;>refine go ?_
  ·exact⟨rfl,rfl,rfl,by simp only[hc,hd,Qd,Qf,Qo,Qs,Qx,Qy,Qw,Q2,QW,Qg];exact U6⟩
  ·exact⟨rfl,rfl,rfl,by simp only[hc,hd,Qd,Qf,Qo,Qs,Qx,Qy,Qw,Q2,QW,Qg];exact U6⟩
 rintro t7 _ hs7 ⟨rfl,s79⟩;obtain⟨d2,hd2⟩:∃ c:Bool,c=(d1||(!qn&& !decide (x.n=0))):=⟨_,rfl⟩;rw[<-hd2]at s79 hins;refine goC ?_;refine VR 11 (fun t' h'=>h7=h'/\zB t' 90=.bool (d2||(!qg&&decide (0<(x.args.length:Int))))) ?_ ?_<;>simp only[Qm,Q5,GA,Q3]
 ·refine go ?_;refine VI (fun hc=> ?_) (fun hc=> ?_)<;>refine go ?_
  ·exact⟨rfl,rfl,rfl,by simp only[hc,Qd,Qf,Qo,Qs,Qx,Qy,Qw,Q2,QW,Qg];exact U6⟩
  refine VI (fun hd=> ?_) (fun hd=> ?_)<;>(try simp only[DB]at hd)<;>refine go ?_
  ·exact⟨rfl,rfl,rfl,by simp only[hc,hd,Qd,Qf,Qo,Qs,Qx,Qy,Qw,Q2,QW,Qg];exact U6⟩
  ·exact⟨rfl,rfl,rfl,by simp only[hc,hd,Qd,Qf,Qo,Qs,Qx,Qy,Qw,Q2,QW,Qg];exact U6⟩
 rintro t8 _ hs8 ⟨rfl,s90⟩;obtain⟨d3,hd3⟩:∃ c:Bool,c=(d2||(!qg&&decide (0<(x.args.length:Int)))):=⟨_,rfl⟩;rw[<-hd3]at s90 hins;refine goC ?_;refine VR 12 (fun t' h'=>h7=h'/\zB t' 6=.bool (d3||(!qf&&decide (0<(x.frm.length:Int))))) ?_ ?_<;>simp only[Qm,Q5,GA,Q3]
 ·refine go ?_;refine VI (fun hc=> ?_) (fun hc=> ?_)<;>refine go ?_
  ·exact⟨rfl,rfl,rfl,by simp only[hc,Qd,Qf,Qo,Qs,Qx,Qy,Qw,Q2,QW,Qg];exact U6⟩
  refine VI (fun hd=> ?_) (fun hd=> ?_)<;>(try simp only[DB]at hd)<;>refine go ?_
  ·exact⟨rfl,rfl,rfl,by simp only[hc,hd,Qd,Qf,Qo,Qs,Qx,Qy,Qw,Q2,QW,Qg];exact U6⟩
  ·exact⟨rfl,rfl,rfl,by simp only[hc,hd,Qd,Qf,Qo,Qs,Qx,Qy,Qw,Q2,QW,Qg];exact U6⟩
 rintro t9 _ hs9 ⟨rfl,s6⟩;obtain⟨d4,hd4⟩:∃ c:Bool,c=(d3||(!qf&&decide (0<(x.frm.length:Int)))):=⟨_,rfl⟩;rw[<-hd4]at s6 hins;refine goC ?_;refine VR 9 (fun t' h'=>h7=h'/\zB t' 110=.bool (qw&&zY x.ty s.types)) ?_ ?_<;>simp only[Qm,Q5,GA,Q3]
 ·refine go ?_;refine VI (fun hd=> ?_) (fun hd=> ?_)<;>(try simp only[DB]at hd)<;>refine go ?_
  ·refine VA (ZO h7 x.ty s.types) ?_;rintro _ _ ⟨rfl,rfl⟩;refine go ?_;exact⟨rfl,rfl,rfl,by simp only[hd,Qd,Qf,Qo,Qs,Qx,Qy,Qw,Q2,QW,Qg];exact U6⟩
  ·exact⟨rfl,rfl,rfl,by simp only[hd,Qd,Qf,Qo,Qs,Qx,Qy,Qw,Q2,QW,Qg];exact U6⟩
 rintro t10 _ hs10 ⟨rfl,s110⟩;obtain⟨k0,hk0⟩:∃ c:Bool,c=(qw&&zY x.ty s.types):=⟨_,rfl⟩;rw[<-hk0]at s110 hins;refine goC ?_;refine VR 11 (fun t' h'=>h7=h'/\zB t' 7=.bool (k0||(!qw&&decide (x.ty=0)))) ?_ ?_<;>simp only[Qm,Q5,GA,Q3]
 ·refine go ?_;refine VI (fun hc=> ?_) (fun hc=> ?_)<;>refine go ?_
  ·exact⟨rfl,rfl,rfl,by simp only[hc,Qd,Qf,Qo,Qs,Qx,Qy,Qw,Q2,QW,Qg];exact U6⟩
  refine VI (fun hd=> ?_) (fun hd=> ?_)<;>(try simp only[DB]at hd)<;>refine go ?_
  ·exact⟨rfl,rfl,rfl,by simp only[hc,hd,Qd,Qf,Qo,Qs,Qx,Qy,Qw,Q2,QW,Qg];exact U6⟩
  ·exact⟨rfl,rfl,rfl,by simp only[hc,hd,Qd,Qf,Qo,Qs,Qx,Qy,Qw,Q2,QW,Qg];exact U6⟩
 rintro t11 _ hs11 ⟨rfl,s7⟩;obtain⟨k1,hk1⟩:∃ c:Bool,c=(k0||(!qw&&decide (x.ty=0))):=⟨_,rfl⟩;rw[<-hk1]at s7 hins;refine go ?_;refine VE (fun hf=> ?_) (fun hf=> ?_)<;>rw[hf]at hins<;>refine go ?_
 ·refine VI (fun hd=> ?_) (fun hd=> ?_)<;>(try simp only[DB]at hd)<;>refine go ?_
  ·refine VI (fun he=> ?_) (fun he=> ?_)<;>refine go ?_
   ·refine VA (zMO h7 vf s.blocks x.frm sf7 hlf) ?_;rintro _ h8 ⟨rfl,e8⟩;have o1:=o1.ext e8;have sa8:=sa7.ext e8;have sf8:=sf7.ext e8;refine go ?_;refine VI (fun hg=> ?_) (fun hg=> ?_)<;>refine go ?_
    ·refine VI (fun hh=> ?_) (fun hh=> ?_)<;>simp only[DB]at hh<;>refine go ?_
     ·refine VI (fun hi=> ?_) (fun hi=> ?_)<;>simp only[DB]at hi<;>refine go ?_
      ·refine rt ?_;refine⟨?_,e17.trans e8⟩;have hdec:decide ((x.frm.length:Int)<=16)=decide (x.frm.length<=16):=by rw[GV];simp only[Qc];omega
       rw[hdec,hins,hd,he,hg,QT (show x.frm.length=x.args.length by omega),QT (show 1<=x.frm.length by omega)];rfl
      ·refine rt ?_;refine⟨?_,e17.trans e8⟩;rw[hins,hd,he,hg,QT (show x.frm.length=x.args.length by omega),QQ (show ¬1<=x.frm.length by omega)];rfl
     ·refine rt ?_;refine⟨?_,e17.trans e8⟩;rw[hins,hd,he,hg,QQ (show ¬x.frm.length=x.args.length by omega)];rfl
    ·refine rt ?_;refine⟨?_,e17.trans e8⟩;rw[hins,hd,he,hg];rfl
   ·refine rt ?_;refine⟨?_,e17⟩;rw[hins,hd,he];rfl
  ·refine rt ?_;refine⟨?_,e17⟩;rw[hins,hd];rfl
 ·refine VI (fun hd=> ?_) (fun hd=> ?_)<;>(try simp only[DB]at hd)<;>refine go ?_
  ·refine VI (fun he=> ?_) (fun he=> ?_)<;>refine go ?_
   ·refine rt ?_;refine⟨?_,e17⟩;have hdec:decide ((x.args.length:Int)<=4)=decide (x.args.length<=4):=by rw[GV];simp only[Qc];omega
    rw[hdec,hins,hd,he];rfl
   ·refine rt ?_;refine⟨?_,e17⟩;rw[hins,hd,he];rfl
  ·refine rt ?_;refine⟨?_,e17⟩;rw[hins,hd];rfl
end Go.Proofs.YtfnndahpddkniaaGreatDoor
