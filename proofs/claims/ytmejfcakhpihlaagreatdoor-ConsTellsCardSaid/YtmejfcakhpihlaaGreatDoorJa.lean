/- Walks of functions, plain laws; proves no statement. -/
import Derived.Test.YtmejfcakhpihlaaGreatDoorAmU
import Derived.Test.YtmejfcakhpihlaaGreatDoorRows
set_option linter.all false
set_option maxHeartbeats 4000000
namespace Go.Proofs.YtmejfcakhpihlaaGreatDoor
open Go.Am
def hasT:List (Bool×Bool×Bool×Bool×Bool×Bool):=
 let f:=false;let t:=true
 [(f,f,f,f,f,f),(f,f,t,f,f,t),(f,f,f,f,f,t),(f,f,t,f,f,t),(t,t,f,f,f,t),(t,t,f,f,f,t),(t,t,f,f,f,t),(t,t,f,f,f,t),(t,t,f,f,f,t),(t,t,f,f,f,t),(t,t,f,f,f,t),(f,f,f,f,f,t),(f,f,f,f,f,t),(t,f,f,f,f,f),(t,f,t,f,f,t),(t,t,f,f,f,t),(t,f,f,f,f,t),(t,t,f,f,f,f),(f,f,t,t,f,t),(t,f,f,t,f,t),(f,f,f,f,f,t),(t,f,f,f,f,f),(f,f,f,t,t,t)]
def zU(op:Int):Bool×Bool×Bool×Bool×Bool×Bool:=hasT.getD op.toNat (false,false,false,false,false,false)
def Ye(x:Bool×Bool×Bool×Bool×Bool×Bool):List Value:=[.bool x.1,.bool x.2.1,.bool x.2.2.1,.bool x.2.2.2.1,.bool x.2.2.2.2.1,.bool x.2.2.2.2.2]
def Yp:List Value:=(hasT.map Ye).flatten
structure WE where
 kind:Int
 elem:Int
 many:Int
 parts:List Int
instance:Inhabited WE:=⟨⟨0,0,0,[]⟩⟩
def RTy(h:WA)(cs:List Value)(x:WE):Prop:=∃ va,cs=[.int .u8 x.kind,I x.elem,I x.many,va]/\WQ h va x.parts/\(x.parts.length:Int)<=9223372036854775807
theorem RTy.ext{h h' cs x}(r:RTy h cs x)(e:Ext h h'):RTy h' cs x:=let⟨va,a,b,c⟩:=r;⟨va,a,b.ext e,c⟩
abbrev Wu(h:WA)(v:Value)(T:List WE):Prop:=BE 4 RTy h v T
theorem Wu.ext{h h' v T}(s:Wu h v T)(e:Ext h h'):Wu h' v T:=BE.ext (fun _ _ r=>RTy.ext r e) s e
theorem zQE{h:WA}{v:Value}{l:List Int}(s:WQ h v l)(k:IntKind)(a b n:Int):zL [.int k n,I a,I b,v]=true:=by
 obtain⟨_,_,_,rfl⟩:=Wi.shape s;rfl
def YL(x:WE):Bool:=decide (1<=x.kind)&&decide (x.kind<=3)
def yv(m:Int)(l:List Int):Bool:=l.all fun n=>decide (0<=n)&&decide (n<m)
def yd(x:WE):Bool:=
 (if x.kind=1\/x.kind=4 then decide (x.elem=0)else true)&&(if x.kind=1\/x.kind=2\/x.kind=3\/x.kind=4 then decide (x.many=0)else true)&&
  (if x.kind=1\/x.kind=2\/x.kind=5 then decide (x.parts.length=0)else true)
def Zs(T:List WE)(x:WE)(k:Nat)(aJ:List Int):Int×Bool:=
 if x.kind=1 then(1,yd x)
 else if x.kind=2 then(1,yd x&&yv T.length [x.elem])
 else if x.kind=3 then(1,yd x&&decide (x.parts.length<=4)&&yv T.length (x.elem::x.parts)&&(x.elem::x.parts).all fun n=>YL (T.getD n.toNat default))
 else if x.kind=4 then(if yd x&&yv k x.parts then((x.parts.map fun n=>aJ.getD n.toNat 0).sum,decide (0<x.parts.length)&&decide (x.parts.length<=8)&&decide ((x.parts.map fun n=>aJ.getD n.toNat 0).sum<=32))else(0,false))
 else if x.kind=5 then(if yd x&&yv k [x.elem]&&decide (1<=x.many)&&decide (x.many<=16)then(x.many*aJ.getD x.elem.toNat 0,decide (x.many*aJ.getD x.elem.toNat 0<=32))else(0,false))
 else(1,false)
theorem zHq{T:List WE}{x:WE}{k:Nat}{s:List Int}(h:x.kind=3):Zs T x k s=(1,yd x&&decide (x.parts.length<=4)&&yv T.length (x.elem::x.parts)&&(x.elem::x.parts).all fun n=>YL (T.getD n.toNat default)):=by
 unfold Zs;rw[QC (by omega),QC (by omega),QF h]
theorem zPs{T:List WE}{x:WE}{k:Nat}{s:List Int}(h:x.kind=4):Zs T x k s=(if yd x&&yv k x.parts then((x.parts.map fun n=>s.getD n.toNat 0).sum,decide (0<x.parts.length)&&decide (x.parts.length<=8)&&decide ((x.parts.map fun n=>s.getD n.toNat 0).sum<=32))else(0,false)):=by
 unfold Zs;rw[QC (by omega),QC (by omega),QC (by omega),QF h]
theorem zOG{T:List WE}{x:WE}{k:Nat}{s:List Int}(h:x.kind=5):Zs T x k s=(if yd x&&yv k [x.elem]&&decide (1<=x.many)&&decide (x.many<=16)then(x.many*s.getD x.elem.toNat 0,decide (x.many*s.getD x.elem.toNat 0<=32))else(0,false)):=by
 unfold Zs;rw[QC (by omega),QC (by omega),QC (by omega),QC (by omega),QF h]
def YC(T:List WE):Nat->Option (List Int)
 |0=>some []
 |k+1=>match YC T k with
  |none=>none
  |some s=>if(Zs T (T.getD k default) k s).2 then some (s++[(Zs T (T.getD k default) k s).1])else none
def yS(T:List WE):Int:=if 16<T.length then 4 else match YC T T.length with
 |some _=>0
 |none=>30
noncomputable def tb:Wy:=⟨zFn Tryz.prog,fun _=>none⟩
theorem zQQ(f:Nat):tb.stub f=none:=rfl
theorem en{f:Nat}{args:List Value}{h:WA}{Q:Value->WA->Prop}{n:Nat}{rs:List (Nat×Option (Bool×Nat))}{b:WY}{G':Prop}(k:G')(hs:tb.stub f=none:=by exact zQQ _)(hc:tb.code f=some ⟨n,rs,b⟩:=by conv=>(lhs;reduce;(try simp only[Int.reduceOfNat,Int.reduceNegSucc])))
  (r:Wrap G'->WX Tryz.prog tb b ⟨zFZ args 0 .leaf,[],none⟩ h (zEe Tryz.prog tb rs Q):=by
  intro fY;simp only[zFZ,GH,Nat.reduceAdd];refine go ?_;exact fY.out):WC Tryz.prog tb f args h Q:=WC.of hs hc (r ⟨k⟩)
end Go.Proofs.YtmejfcakhpihlaaGreatDoor
set_option maxRecDepth 100000
namespace Go.Proofs.YtmejfcakhpihlaaGreatDoor
open Go.Am
theorem YW{α:Type}{p:α->Bool}{l:List α}(h:∀ x∈l,p x=false):l.any p=false:=by
 rw[Gx];intro x hx;rw[h x hx];exact Bool.noConfusion
theorem zM{l:List Int}{i:Nat}(h:i<l.length):l.getD i 0∈l:=by
 simp[List.getD,QB h]
theorem Zw{l:List Int}{x:Int}(h:x∈l):∃ i,i<l.length/\l.getD i 0=x:=by
 obtain⟨i,hi,e⟩:=JD h;exact⟨i,hi,by simp[List.getD,QB hi,e]⟩
theorem zLL(h:WA)(h0:WA)(p:Value)(n m:Int)(o:WB h0 h p [I m]):
  WC Tryz.prog tb 213 [I n,p] h fun r h'=>r=.bool (decide (n<0\/m<=n))/\Ext h h':=by
 refine en ?_;repeat' (first|(refine VE (fun hb=> ?_) (fun hb=> ?_)<;>(try simp only[DB]at hb)<;>refine go ?_)|(refine VJ (fun hb=> ?_) (fun hb=> ?_)<;>(try simp only[DB]at hb)<;>refine go ?_))
 all_goals (refine rt ?_;exact⟨by first|(simp[one];done)|(simp[one];omega),Ext.refl h⟩)
theorem zNS(h:WA)(v fv:Value)(l:List Int)(p:Int->Bool)(s:WQ h v l)(hl:(l.length:Int)<=9223372036854775807)(hf:∀ x∈l,∀ h1,Ext h h1->WV Tryz.prog tb fv [I x] h1 fun r h'=>r=.bool (p x)/\Ext h1 h'):
  WC Tryz.prog tb 180 [v,fv] h fun r h'=>(∃ n:Int,r=I n/\(decide (0<=n))=l.any p)/\Ext h h':=by
 refine en ?_;refine VD (fun i=>l.length-i) (fun i t h1=>Ext h h1/\zC t 8=I i/\i<=l.length/\∀ j,j<i->p (l.getD j 0)=false) 0 ?_ ?_
 ·exact⟨Ext.refl h,WH,QK _,fun j hj=>absurd hj (Qk _)⟩
 rintro i t h1 ab ⟨e1,s8,hi,hm⟩;have s1:=s.ext e1;refine go ?_;refine VE (fun hb=> ?_) (fun hb=> ?_)<;>simp only[DB]at hb
 ·have ae:i<l.length:=by omega
  refine go ?_;refine VQ (hf _ (zM ae) h1 e1) ?_;rintro _ h2 ⟨rfl,e2⟩;refine go ?_;refine VE (fun hb=> ?_) (fun hb=> ?_)
  ·refine gr ?_;refine⟨⟨i,rfl,?_⟩,e1.trans e2⟩;rw[Gy.2 ⟨_,zM ae,hb⟩];simp
  ·refine go ?_;refine zA (i+1) (by omega) ⟨e1.trans e2,Wn,by omega,fun j hj=> ?_⟩;by_cases e:j=i
   ·subst e;exact hb
   ·exact hm j (by omega)
 ·refine gr ?_;refine⟨⟨-1,rfl,?_⟩,e1⟩;rw[YW fun x hx=>by obtain⟨j,hj,rfl⟩:=Zw hx;exact hm j (by omega)];rfl
theorem zAr(h:WA)(v fv:Value)(l:List Int)(p:Int->Bool)(s:WQ h v l)(hl:(l.length:Int)<=9223372036854775807)(hf:∀ x∈l,∀ h1,Ext h h1->WV Tryz.prog tb fv [I x] h1 fun r h'=>r=.bool (p x)/\Ext h1 h'):
  WC Tryz.prog tb 121 [v,fv] h fun r h'=>r=.bool (l.any p)/\Ext h h':=by
 refine en ?_;refine VA (zNS h v fv l p s hl hf) ?_;rintro _ h1 ⟨⟨n,rfl,e⟩,e1⟩;refine gr ?_;exact⟨by rw[<-e];rfl,e1⟩
theorem zAi(h:WA)(v:Value)(m:Int)(l:List Int)(s:WQ h v l)(hl:(l.length:Int)<=9223372036854775807):
  WC Tryz.prog tb 167 [I m,v] h fun r h'=>r=.bool (yv m l)/\Ext h h':=by
 refine en ?_;refine VF ?_;intro p h1 e1 o1;refine go ?_;refine VA (zAr h1 v _ l (fun n=>decide (n<0\/m<=n)) (s.ext e1) hl ?_) ?_
 ·intro x hx h2 e2;exact WV.func (zLL h2 h p x m (o1.ext e2))
 rintro _ h2 ⟨rfl,e2⟩;refine gr ?_;refine⟨?_,e1.trans e2⟩;show Value.bool _=_;congr 1;rw[GZ];simp only[yv,Gj,Gx,QX,QN,Qd];exact⟨fun h x hx=>by have:=h x hx;omega,fun h x hx=>by have:=h x hx;omega⟩
theorem zMf(h:WA)(v:Value)(l:List Int)(s:WQ h v l)(hl:l.length<=1000)(hb:∀ x∈l,0<=x/\x<=1000):
  WC Tryz.prog tb 170 [v] h fun r h'=>r=I l.sum/\h=h':=by
 refine en ?_;refine VD (fun i=>l.length-i) (fun i t h1=>h=h1/\zC t 7=I i/\zC t 2=I (l.take i).sum/\i<=l.length/\0<=(l.take i).sum/\(l.take i).sum<=1000*i) 0 ?_ ?_
 ·exact⟨rfl,WH,WH,QK _,by simp,by simp⟩
 rintro i t _ ab ⟨rfl,s7,s2,hi,hm,hn⟩;refine go ?_;refine VE (fun hc=> ?_) (fun hc=> ?_)<;>simp only[DB]at hc
 ·have ae:i<l.length:=by omega
  have hx:=hb _ (zM ae);refine go ?_;have e:(l.take (i+1)).sum=(l.take i).sum+l.getD i 0:=by
   rw[Q1,Gq];simp[List.getD,QB ae]
  refine zA (i+1) (by omega) ⟨rfl,Wn,by rw[e];exact WH,by omega,by omega,by omega⟩
 ·refine gr ?_;have:i=l.length:=by omega
  subst this;exact⟨by simp[one],rfl⟩
theorem zL5(h:WA)(x:WE)(va:Value):
  WC Tryz.prog tb 169 [.agg #[.int .u8 x.kind,I x.elem,I x.many,va]] h fun r h'=>r=.bool (YL x)/\Ext h h':=by
 refine en ?_;refine VF ?_;intro p h1 e1 o1;refine go ?_;repeat' (first|(refine VE (fun hb=> ?_) (fun hb=> ?_)<;>(try simp only[DB]at hb)<;>refine go ?_)|(refine VJ (fun hb=> ?_) (fun hb=> ?_)<;>(try simp only[DB]at hb)<;>refine go ?_))
 all_goals (refine rt ?_;exact⟨by simp[one,YL, *]<;>omega,e1⟩)
theorem zMH(h:WA)(x:WE)(va:Value)(s:WQ h va x.parts):
  WC Tryz.prog tb 166 [.agg #[.int .u8 x.kind,I x.elem,I x.many,va]] h fun r h'=>r=.bool (yd x)/\Ext h h':=by
 refine en ?_;refine VF ?_;intro p h1 e1 o1;have s1:=s.ext e1;refine go ?_;repeat' (first|(refine VE (fun hb=> ?_) (fun hb=> ?_)<;>(try simp only[DB]at hb)<;>refine go ?_)|(refine VJ (fun hb=> ?_) (fun hb=> ?_)<;>(try simp only[DB]at hb)<;>refine go ?_))
 all_goals (refine rt ?_;refine⟨?_,e1⟩;simp[one,yd, *])
theorem zD{α:Type}{c:Nat}{R:WA->List Value->α->Prop}{h:WA}{v:Value}{T:List α}(s:BE c R h v T):∃ a n k,v=.slice a n k:=let⟨_,a,_⟩:=s;a.shape
theorem yM{h:WA}{v:Value}{T:List WE}{i:Nat}(s:Wu h v T)(hi:i<T.length):∃ cs,RTy h cs (T.getD i default)/\Wp h v (i*4) cs/\zIq v:=by
 obtain⟨cs,a,_,c⟩:=s.at hi;exact⟨cs,by simpa [List.getD,QB hi]using a,c,s.some hi⟩
theorem zPI(h h0:WA)(p tv:Value)(T:List WE)(n:Int)(o:WB h0 h p [tv])(s:Wu h tv T)(hn:0<=n/\n<T.length):
  WC Tryz.prog tb 168 [I n,p] h fun r h'=>r=.bool (!YL (T.getD n.toNat default))/\Ext h h':=by
 obtain⟨i,rfl⟩:∃ i:Nat,n=i:=⟨n.toNat,by omega⟩;obtain⟨cs,⟨va,rfl,sv,hv⟩,pc,hs⟩:=yM (i:=i) s (by omega);refine en ?_;refine VA (zL5 h _ va) ?_;rintro _ h1 ⟨rfl,e1⟩;refine gr ?_;exact⟨rfl,e1⟩
theorem zQC(h:WA)(tv sv:Value)(T:List WE)(k:Nat)(aJ:List Int)(st:Wu h tv T)(ss:WQ h sv aJ)(hk:k<T.length)(hT:T.length<=100)(hp:∀ x∈T,x.parts.length<=100)(hsz:aJ.length=k)
  (aQ:∀ x∈aJ,0<=x/\x<=1000):
  WC Tryz.prog tb 109 [tv,I k,sv] h fun r h'=>r=.tuple #[I (Zs T (T.getD k default) k aJ).1,.bool (Zs T (T.getD k default) k aJ).2]/\Ext h h':=by
 have EV:T.getD k default∈T:=by simp[List.getD,QB hk]
 have EW:=hp _ EV;generalize hx:T.getD k default=x at *;have EW:x.parts.length<=100:=EW;obtain⟨_,_,_,rfl⟩:=zD st;refine en ?_;refine VF ?_;intro p3 h1 e1 o3;have bL:=st.ext e1;obtain⟨cs,hR,pc,hs⟩:=yM (i:=k) bL hk;rw[hx]at hR;obtain⟨va,rfl,EZ,hv⟩:=hR;refine go ?_;refine WO.al ?_;intro p8 h2 e2 o8;refine go ?_;refine VH o8 e2 ?_ (h1:=zQE (EZ.ext e2) _ _ _ _);intro h3 e3 o8 _;have o3:=o3.ext e3;have gS:=bL.ext e3;have Kj:=(ss.ext e1).ext e3;have Fa:=EZ.ext e3;refine go ?_;refine VA (zMH h3 x va Fa) ?_;rintro _ h4 ⟨rfl,e4⟩;have o3:=o3.ext e4;have CV:=o8.ext e4;have o8:=CV;have pC:=gS.ext e4;have CX:=Kj.ext e4;have vP:=Fa.ext e4;have bV:=(e1.trans e3).trans e4;clear st bL gS ss Kj EZ Fa e1 e2 e3 e4 pc hs;refine go ?_;refine VE (fun hb=> ?_) (fun hb=> ?_)<;>simp only[DB]at hb<;>refine go ?_
 ·refine VJ (fun hc=> ?_) (fun hc=> ?_)<;>refine go ?_<;>refine rt ?_<;>exact⟨by simp[one,Zs,hb,hc],bV⟩
 refine VE (fun aI=> ?_) (fun aI=> ?_)<;>simp only[DB]at aI<;>refine go ?_
 ·refine VJ (fun hc=> ?_) (fun hc=> ?_)<;>refine go ?_
  ·refine WO.bl [x.elem] ?_;intro v5 h5 e5 o5;have Kk:=pC.ext e5;have o3:=o3.ext e5;refine go ?_;refine VA (zAi h5 v5 _ [x.elem] o5.sl (by simp)) ?_;rintro _ h6 ⟨rfl,e6⟩;refine go ?_;refine VJ (fun hd=> ?_) (fun hd=> ?_)<;>refine go ?_<;>refine rt ?_<;>exact⟨by simp[one,Zs,aI,hc,hd],(bV.trans e5).trans e6⟩
  ·refine rt ?_;exact⟨by simp[one,Zs,aI,hc],bV⟩
 refine VE (fun iz=> ?_) (fun iz=> ?_)<;>simp only[DB]at iz<;>refine go ?_
 ·refine WO.bl [x.elem] ?_;intro v5 h5 e5 o5;have kM:=vP.ext e5;have o8:=o8.ext e5;refine go ?_;refine VN (.inr o5) kM e5 (by simp;omega) ?_;intro v6 h6 e6 o6;have xE:=pC.ext e6;have o3:=o3.ext e6;have Kl:=vP.ext e6;have o8:=WB.ext CV e6;have gG:=bV.trans e6;refine go ?_;refine VJ (fun hc=> ?_) (fun hc=> ?_)<;>refine go ?_
  ·refine VJ (fun hd=> ?_) (fun hd=> ?_)<;>simp only[DB]at hd<;>refine go ?_
   ·have te:x.parts.length<=4:=by omega
    refine VA (zAi h6 v6 _ _ o6.sl (by simp;omega)) ?_;rintro _ h7 ⟨rfl,e7⟩;have o3:=o3.ext e7;have xF:=xE.ext e7;refine go ?_;refine VJ (fun he=> ?_) (fun he=> ?_)<;>refine go ?_
    ·have ah:∀ n∈[x.elem]++x.parts,0<=n/\n<(T.length:Int):=by
      intro n hn;have:=QX.1 he n hn;simpa using this
     refine VA (zAr h7 v6 _ _ (fun n=> !YL (T.getD n.toNat default)) (o6.sl.ext e7) (by simp;omega) ?_) ?_
     ·intro n hn h8 e8;exact WV.func (zPI h8 h p3 _ T n (o3.ext e8) (xF.ext e8) (ah n hn))
     rintro _ h8 ⟨rfl,e8⟩;refine go ?_;have ph:(!([x.elem]++x.parts).any fun n=> !YL (T.getD n.toNat default))=([x.elem]++x.parts).all fun n=>YL (T.getD n.toNat default):=by
      rw[List.not_any_eq_all_not];simp
     refine VJ (fun hf=> ?_) (fun hf=> ?_)<;>refine go ?_<;>refine rt ?_<;>refine⟨?_,(gG.trans e7).trans e8⟩<;>rw[ph]at hf<;>rw[List.singleton_append]at hf he<;>rw[zHq iz,hc,he,hf,Qc te]<;>rfl
    ·refine rt ?_;refine⟨?_,gG.trans e7⟩;rw[List.singleton_append]at he;rw[zHq iz,hc,he,Qc te];rfl
   ·refine rt ?_;refine⟨?_,gG⟩;rw[zHq iz,hc,QY (show ¬x.parts.length<=4 by omega)];rfl
  ·refine rt ?_;refine⟨?_,gG⟩;rw[zHq iz,hc];rfl
 refine VE (fun kN=> ?_) (fun kN=> ?_)<;>simp only[DB]at kN<;>refine go ?_
 ·refine VJ (fun hc=> ?_) (fun hc=> ?_)<;>refine go ?_
  ·refine VA (zAi h4 va _ _ vP hv) ?_;rintro _ h5 ⟨rfl,e5⟩;have kM:=vP.ext e5;have xG:=CX.ext e5;have o8:=o8.ext e5;refine go ?_;refine VE (fun hd=> ?_) (fun hd=> ?_)<;>simp only[DB]at hd<;>refine go ?_
   ·refine rt ?_;exact⟨by simp[one,Zs,kN,hc,hd],bV.trans e5⟩
   have ah:∀ n∈x.parts,0<=n/\n<(k:Int):=by
    intro n hn;have:=QX.1 hd n hn;simpa using this
   refine VD (fun i=>x.parts.length-i) (fun i t h1=>Ext h5 h1/\zC t 77=I i/\i<=x.parts.length/\∃ v,zC t 12=v/\WL h5 h1 v ((x.parts.take i).map fun n=>aJ.getD n.toNat 0)) 0 ?_ ?_
   ·exact⟨Ext.refl _,WH,QK _,_,WH,.inl ⟨rfl,rfl⟩⟩
   ·rintro i t h6 ab ⟨e6,s77,hi,v,jV,dH⟩;have Kl:=kM.ext e6;have Km:=xG.ext e6;refine go ?_;refine VE (fun he=> ?_) (fun he=> ?_)<;>simp only[DB]at he
    ·have ae:i<x.parts.length:=by omega
     have iu:=ah _ (zM ae);refine go ?_;refine WO.bl [aJ.getD (x.parts.getD i 0).toNat 0] ?_;intro v7 h7 e7 o7;refine go ?_;refine VN (dH.ext e7) o7.sl (e6.trans e7) (by simp;omega) ?_;intro v8 h8 e8 o8;refine go ?_;refine zA (i+1) (by omega) ⟨e8,Wn,by omega,_,WH,?_⟩;have e:(x.parts.take (i+1)).map (fun n=>aJ.getD n.toNat 0)=(x.parts.take i).map (fun n=>aJ.getD n.toNat 0)++[aJ.getD (x.parts.getD i 0).toNat 0]:=by
      rw[Q1,Qx];simp[List.getD,QB ae]
     rw[e];exact o8
    ·have:i=x.parts.length:=by omega
     subst this;rw[Qg]at dH;have aF:∀ y∈x.parts.map (fun n=>aJ.getD n.toNat 0),0<=y/\y<=1000:=by
      intro y hy;obtain⟨n,hn,rfl⟩:=Qw.1 hy;have:=ah n hn;exact aQ _ (zM (by omega))
     have dH:=dH.sl;refine go ?_;have td:(x.parts.map fun n=>aJ.getD n.toNat 0).length=x.parts.length:=Qi ..;have mg:=(bV.trans e5).trans e6;have hr:∀ {b1 b2:Bool},decide (0<x.parts.length)=b1->decide (x.parts.length<=8)=b2->Value.tuple #[I (Zs T x k aJ).1,.bool (Zs T x k aJ).2]=
       .tuple #[I (x.parts.map fun n=>aJ.getD n.toNat 0).sum,.bool (b1&&b2&&decide ((x.parts.map fun n=>aJ.getD n.toNat 0).sum<=32))]:=by
      intro b1 b2 h1 h2;rw[zPs kN,hc,hd,h1,h2];rfl
     clear aQ hp hx EV o3 o8 CV pC CX vP xG kM Km Kl ab;refine VJ (fun hf=> ?_) (fun hf=> ?_)<;>simp only[DB,Qi]at hf<;>refine go ?_
     ·refine VA (zMf h6 v _ dH (by simp;omega) aF) ?_;rintro _ _ ⟨rfl,rfl⟩;refine go ?_;refine VJ (fun hg=> ?_) (fun hg=> ?_)<;>simp only[DB,Qi]at hg<;>refine go ?_
      ·refine rt ?_;refine⟨?_,mg⟩;rw[hr (Qc (by omega)) (Qc (by omega))];rfl
      ·refine rt ?_;refine⟨?_,mg⟩;rw[hr (Qc (by omega)) (QY (by omega))];rfl
     ·refine VA (zMf h6 v _ dH (by simp;omega) aF) ?_;rintro _ _ ⟨rfl,rfl⟩;refine gr ?_;refine⟨?_,mg⟩;rw[hr (QY (by omega)) rfl];rfl
  ·refine rt ?_;exact⟨by simp[one,Zs,kN,hc],bV⟩
 refine VE (fun kO=> ?_) (fun kO=> ?_)<;>simp only[DB]at kO<;>refine go ?_
 ·refine VJ (fun hc=> ?_) (fun hc=> ?_)<;>refine go ?_
  ·refine WO.bl [x.elem] ?_;intro v5 h5 e5 o5;have xG:=CX.ext e5;have o8:=o8.ext e5;refine go ?_;refine VA (zAi h5 v5 _ [x.elem] o5.sl (by simp)) ?_;rintro _ h6 ⟨rfl,e6⟩;have Km:=xG.ext e6;have o8:=o8.ext e6;have mg:=(bV.trans e5).trans e6;have hr:∀ {b1 b2 b3:Bool},yv k [x.elem]=b1->decide (1<=x.many)=b2->decide (x.many<=16)=b3->Value.tuple #[I (Zs T x k aJ).1,.bool (Zs T x k aJ).2]=
     (if b1&&b2&&b3 then .tuple #[I (x.many*aJ.getD x.elem.toNat 0),.bool (decide (x.many*aJ.getD x.elem.toNat 0<=32))]else .tuple #[I 0,.bool false]):=by
    intro b1 b2 b3 h1 h2 h3;rw[zOG kO,hc,h1,h2,h3];cases b1<;>cases b2<;>cases b3<;>rfl
   have ah:yv k [x.elem]=true->0<=x.elem/\x.elem<(k:Int):=by
    intro hd;have:=QX.1 hd x.elem (by simp);simpa using this
   have gw:∀ n:Int,0<=n/\n<(k:Int)->0<=aJ.getD n.toNat 0/\aJ.getD n.toNat 0<=1000:=fun n hn=>aQ _ (zM (by omega));clear aQ hp hx EV o3 CV pC CX vP xG o5;refine go ?_;refine VJ (fun hd=> ?_) (fun hd=> ?_)<;>refine go ?_
   ·have ah:=ah hd;have hs:=gw _ ah;refine VJ (fun he=> ?_) (fun he=> ?_)<;>simp only[DB]at he<;>refine go ?_
    ·refine VE (fun hf=> ?_) (fun hf=> ?_)<;>simp only[DB]at hf<;>refine go ?_
     ·refine rt ?_;refine⟨?_,mg⟩;rw[hr hd (Qc he) (QY (by omega))];rfl
     ·have cH:x.many*aJ.getD x.elem.toNat 0<=16*1000:=Int.mul_le_mul (by omega) hs.2 hs.1 (by omega);have eo:0<=x.many*aJ.getD x.elem.toNat 0:=Int.mul_nonneg (by omega) hs.1;refine gr ?_;refine⟨?_,mg⟩;rw[hr hd (Qc he) (Qc (by omega))];rfl
    ·refine rt ?_;refine⟨?_,mg⟩;rw[hr hd (QY (by omega)) rfl];cases(decide (x.many<=16))<;>rfl
   ·refine rt ?_;refine⟨?_,mg⟩;rw[hr hd rfl rfl];rfl
  ·refine rt ?_;refine⟨?_,bV⟩;rw[zOG kO,hc];rfl
 ·refine rt ?_;exact⟨by simp[one,Zs,hb,aI,iz,kN,kO],bV⟩
end Go.Proofs.YtmejfcakhpihlaaGreatDoor
set_option maxRecDepth 100000
namespace Go.Proofs.YtmejfcakhpihlaaGreatDoor
open Go.Am
theorem zM5{T:List WE}{x:WE}{k:Nat}{s:List Int}(hs:∀ y∈s,0<=y/\y<=1000)(hk:s.length=k)(h:(Zs T x k s).2=true):0<=(Zs T x k s).1/\(Zs T x k s).1<=1000:=by
 unfold Zs at h |-;by_cases h1:x.kind=1
 ·rw[QF h1];simp
 rw[QC h1]at h |-;by_cases h2:x.kind=2
 ·rw[QF h2];simp
 rw[QC h2]at h |-;by_cases h3:x.kind=3
 ·rw[QF h3];simp
 rw[QC h3]at h |-;by_cases h4:x.kind=4
 ·rw[QF h4]at h |-;cases hc:(yd x&&yv k x.parts)with
  |false=>rw[hc]at h;simp at h
  |true=>
   rw[hc]at h;simp only[Q6]at h |-;simp only[QN,Qd]at h hc;have cC:∀ l:List Int,(∀ y∈l,0<=y)->0<=l.sum:=by
    intro l;induction l with
    |nil=>intro _;simp
    |cons a l ih=>intro hl;have:=ih fun y hy=>hl y (by simp[hy]);have:=hl a (by simp);simp;omega
   have:=cC (x.parts.map fun n=>s.getD n.toNat 0) fun y hy=>by
    obtain⟨n,hn,rfl⟩:=Qw.1 hy;have:=QX.1 hc.2 n hn;simp at this;exact(hs _ (zM (by omega))).1
   omega
 rw[QC h4]at h |-;by_cases h5:x.kind=5
 ·rw[QF h5]at h |-;cases hc:(yd x&&yv k [x.elem]&&decide (1<=x.many)&&decide (x.many<=16))with
  |false=>rw[hc]at h;simp at h
  |true=>
   rw[hc]at h;simp only[Q6]at h |-;simp only[QN,Qd]at h hc;have ah:0<=x.elem/\x.elem<(k:Int):=by
    have:=QX.1 hc.1.1.2 x.elem (by simp);simpa using this
   have:=Int.mul_nonneg (a:=x.many) (b:=s.getD x.elem.toNat 0) (by omega) (hs _ (zM (by omega))).1;omega
 rw[QC h5];simp
theorem zFM{T:List WE}:∀ {k:Nat} {s:List Int},YC T k=some s->s.length=k/\∀ y∈s,0<=y/\y<=1000
 |0,s,h=>by cases h;simp
 |k+1,s,h=>by
  unfold YC at h;cases hk:YC T k with
  |none=>rw[hk]at h;cases h
  |some s0=>
   rw[hk]at h;obtain⟨h1,h2⟩:=zFM hk;simp only at h;split at h
   ·cases h;rename_i hm;refine⟨by simp[h1],fun y hy=> ?_⟩;rcases Qs.1 hy with hy|hy
    ·exact h2 y hy
    ·simp at hy;subst hy;exact zM5 h2 h1 hm
   ·cases h
theorem zDm{T:List WE}:∀ {k m:Nat},YC T k=none->k<=m->YC T m=none
 |k,0,h,hm=>by have:k=0:=by omega
               subst this;exact h
 |k,m+1,h,hm=>by
  by_cases e:k=m+1
  ·subst e;exact h
  ·unfold YC;rw[zDm h (by omega)]
theorem zHU(h:WA)(tv:Value)(T:List WE)(st:Wu h tv T)(hT:T.length<=100)(hp:∀ x∈T,x.parts.length<=100):
  WC Tryz.prog tb 71 [tv] h fun r h'=>r=I (yS T)/\Ext h h':=by
 obtain⟨_,_,_,rfl⟩:=zD st;refine en ?_;refine VE (fun hb=> ?_) (fun hb=> ?_)<;>simp only[DB]at hb<;>refine go ?_
 ·refine rt ?_;refine⟨?_,Ext.refl h⟩;unfold yS;rw[QF (by omega)];rfl
 have cY:¬16<T.length:=by omega
 refine VD (fun i=>T.length-i) (fun i t h1=>Ext h h1/\zC t 12=I i/\i<=T.length/\∃ v s,zC t 3=v/\YC T i=some s/\WL h h1 v s) 0 ?_ ?_
 ·exact⟨Ext.refl _,WH,QK _,_,[],WH,rfl,.inl ⟨rfl,rfl⟩⟩
 rintro i t h1 ab ⟨e1,jV,hi,v,s,s3,hs,o⟩;have bL:=st.ext e1;obtain⟨hl,hr⟩:=zFM hs;refine go ?_;refine VE (fun hc=> ?_) (fun hc=> ?_)<;>simp only[DB]at hc<;>refine go ?_
 ·have ae:i<T.length:=by omega
  refine VA (zQC h1 _ v T i s bL o.sl ae hT hp hl hr) ?_;rintro _ h2 ⟨rfl,e2⟩;have o2:=o.ext e2;refine go ?_;have aX:YC T (i+1)=if(Zs T (T.getD i default) i s).2 then some (s++[(Zs T (T.getD i default) i s).1])else none:=by
   conv=>lhs;unfold YC
   rw[hs]
  refine VE (fun hd=> ?_) (fun hd=> ?_)<;>simp only[DB]at hd<;>refine go ?_
  ·refine rt ?_;refine⟨?_,e1.trans e2⟩;rw[hd,QC (by simp)]at aX;unfold yS;rw[QC cY,zDm aX (by omega)];rfl
  ·refine WO.bl [(Zs T (T.getD i default) i s).1] ?_;intro v3 h3 e3 o3;refine go ?_;refine VN (o2.ext e3) o3.sl ((e1.trans e2).trans e3) (by simp;omega) ?_;intro v4 h4 e4 o4;refine go ?_;rw[hd,QF rfl]at aX;exact zA (i+1) (by omega) ⟨e4,Wn,by omega,_,_,WH,aX,o4⟩
 ·refine rt ?_;refine⟨?_,e1⟩;have:i=T.length:=by omega
  subst this;unfold yS;rw[QC cY,hs];rfl
structure Wj where
 op:Int
 ty:Int
 a:Int
 b:Int
 n:Int
 args:List Int
 frm:List Int
structure Bl where
 kind:Int
 a:Int
 to:Int
 aE:Int
structure Wc where
 ins:List Wj
 fin:Bl
structure Wa where
 sig:Int
 blocks:List Wc
instance:Inhabited Wj:=⟨⟨0,0,0,0,0,[],[]⟩⟩
instance:Inhabited Wc:=⟨⟨[],⟨0,0,0,0⟩⟩⟩
instance:Inhabited Wa:=⟨⟨0,[]⟩⟩
def W8(h:WA)(cs:List Value)(x:Wj):Prop:=∃ va vf,cs=[.int .u8 x.op,I x.ty,I x.a,I x.b,I x.n,va,vf]/\WQ h va x.args/\WQ h vf x.frm/\(x.args.length:Int)<=1152921504606846976/\(x.frm.length:Int)<=1152921504606846976/\0<=x.op/\x.op<=255
theorem W8.ext{h h' cs x}(r:W8 h cs x)(e:Ext h h'):W8 h' cs x:=let⟨va,vf,a,b,c,d⟩:=r;⟨va,vf,a,b.ext e,c.ext e,d⟩
def Bc(h:WA)(cs:List Value)(x:Wc):Prop:=∃ vi,cs=[vi,.int .u8 x.fin.kind,I x.fin.a,I x.fin.to,I x.fin.aE]/\BE 7 W8 h vi x.ins/\(x.ins.length:Int)<=1152921504606846976
theorem Bc.ext{h h' cs x}(r:Bc h cs x)(e:Ext h h'):Bc h' cs x:=let⟨va,a,b,c⟩:=r;⟨va,a,BE.ext (fun _ _ r=>W8.ext r e) b e,c⟩
def RFn(h:WA)(cs:List Value)(x:Wa):Prop:=∃ vb,cs=[I x.sig,vb]/\BE 5 Bc h vb x.blocks/\(x.blocks.length:Int)<=1152921504606846976
theorem RFn.ext{h h' cs x}(r:RFn h cs x)(e:Ext h h'):RFn h' cs x:=let⟨va,a,b,c⟩:=r;⟨va,a,BE.ext (fun _ _ r=>Bc.ext r e) b e,c⟩
abbrev BB(h:WA)(v:Value)(l:List Wj):Prop:=BE 7 W8 h v l
abbrev Wv(h:WA)(v:Value)(l:List Wc):Prop:=BE 5 Bc h v l
abbrev Wo(h:WA)(v:Value)(l:List Wa):Prop:=BE 2 RFn h v l
theorem BB.ext{h h' v T}(s:BB h v T)(e:Ext h h'):BB h' v T:=BE.ext (fun _ _ r=>W8.ext r e) s e
theorem Wv.ext{h h' v T}(s:Wv h v T)(e:Ext h h'):Wv h' v T:=BE.ext (fun _ _ r=>Bc.ext r e) s e
theorem Wo.ext{h h' v T}(s:Wo h v T)(e:Ext h h'):Wo h' v T:=BE.ext (fun _ _ r=>RFn.ext r e) s e
theorem zq{α:Type}[Inhabited α]{c:Nat}{R:WA->List Value->α->Prop}{h:WA}{v:Value}{T:List α}{i:Nat}(s:BE c R h v T)(hi:i<T.length):∃ cs,R h cs (T.getD i default)/\Wp h v (i*c) cs/\zIq v:=by
 obtain⟨cs,a,_,c⟩:=s.at hi;exact⟨cs,by simpa [List.getD,QB hi]using a,c,s.some hi⟩
def Br(h:WA):Prop:=yj h 0=some Yp/\0<h.n
theorem Br.ext{h h'}(t:Br h)(e:Ext h h'):Br h':=⟨e.row t.2 t.1,QI t.2 e.n⟩
theorem zQN:(cut Yp (0+0*6) 6).bind (zO true)=some (.agg (Ye (hasT.getD 0 (false,false,false,false,false,false))).toArray):=by kernel_rfl
theorem zRn:(cut Yp (0+1*6) 6).bind (zO true)=some (.agg (Ye (hasT.getD 1 (false,false,false,false,false,false))).toArray):=by kernel_rfl
theorem zRj:(cut Yp (0+2*6) 6).bind (zO true)=some (.agg (Ye (hasT.getD 2 (false,false,false,false,false,false))).toArray):=by kernel_rfl
theorem zRf:(cut Yp (0+3*6) 6).bind (zO true)=some (.agg (Ye (hasT.getD 3 (false,false,false,false,false,false))).toArray):=by kernel_rfl
theorem zRd:(cut Yp (0+4*6) 6).bind (zO true)=some (.agg (Ye (hasT.getD 4 (false,false,false,false,false,false))).toArray):=by kernel_rfl
theorem zRi:(cut Yp (0+5*6) 6).bind (zO true)=some (.agg (Ye (hasT.getD 5 (false,false,false,false,false,false))).toArray):=by kernel_rfl
theorem zRm:(cut Yp (0+6*6) 6).bind (zO true)=some (.agg (Ye (hasT.getD 6 (false,false,false,false,false,false))).toArray):=by kernel_rfl
theorem zRg:(cut Yp (0+7*6) 6).bind (zO true)=some (.agg (Ye (hasT.getD 7 (false,false,false,false,false,false))).toArray):=by kernel_rfl
theorem zRo:(cut Yp (0+8*6) 6).bind (zO true)=some (.agg (Ye (hasT.getD 8 (false,false,false,false,false,false))).toArray):=by kernel_rfl
theorem zRp:(cut Yp (0+9*6) 6).bind (zO true)=some (.agg (Ye (hasT.getD 9 (false,false,false,false,false,false))).toArray):=by kernel_rfl
theorem zRc:(cut Yp (0+10*6) 6).bind (zO true)=some (.agg (Ye (hasT.getD 10 (false,false,false,false,false,false))).toArray):=by kernel_rfl
theorem zRF:(cut Yp (0+11*6) 6).bind (zO true)=some (.agg (Ye (hasT.getD 11 (false,false,false,false,false,false))).toArray):=by kernel_rfl
theorem zRX:(cut Yp (0+12*6) 6).bind (zO true)=some (.agg (Ye (hasT.getD 12 (false,false,false,false,false,false))).toArray):=by kernel_rfl
theorem zRA:(cut Yp (0+13*6) 6).bind (zO true)=some (.agg (Ye (hasT.getD 13 (false,false,false,false,false,false))).toArray):=by kernel_rfl
theorem zRP:(cut Yp (0+14*6) 6).bind (zO true)=some (.agg (Ye (hasT.getD 14 (false,false,false,false,false,false))).toArray):=by kernel_rfl
theorem zRZ:(cut Yp (0+15*6) 6).bind (zO true)=some (.agg (Ye (hasT.getD 15 (false,false,false,false,false,false))).toArray):=by kernel_rfl
theorem zRW:(cut Yp (0+16*6) 6).bind (zO true)=some (.agg (Ye (hasT.getD 16 (false,false,false,false,false,false))).toArray):=by kernel_rfl
theorem zRU:(cut Yp (0+17*6) 6).bind (zO true)=some (.agg (Ye (hasT.getD 17 (false,false,false,false,false,false))).toArray):=by kernel_rfl
theorem zRG:(cut Yp (0+18*6) 6).bind (zO true)=some (.agg (Ye (hasT.getD 18 (false,false,false,false,false,false))).toArray):=by kernel_rfl
theorem zRS:(cut Yp (0+19*6) 6).bind (zO true)=some (.agg (Ye (hasT.getD 19 (false,false,false,false,false,false))).toArray):=by kernel_rfl
theorem zRN:(cut Yp (0+20*6) 6).bind (zO true)=some (.agg (Ye (hasT.getD 20 (false,false,false,false,false,false))).toArray):=by kernel_rfl
theorem zRI:(cut Yp (0+21*6) 6).bind (zO true)=some (.agg (Ye (hasT.getD 21 (false,false,false,false,false,false))).toArray):=by kernel_rfl
theorem zRD:(cut Yp (0+22*6) 6).bind (zO true)=some (.agg (Ye (hasT.getD 22 (false,false,false,false,false,false))).toArray):=by kernel_rfl
theorem zP8:∀ i,i<23->(cut Yp (0+i*6) 6).bind (zO true)=some (.agg (Ye (hasT.getD i (false,false,false,false,false,false))).toArray):=by
 intro i hi;match i,hi with
 |0,_=>exact zQN
 |1,_=>exact zRn
 |2,_=>exact zRj
 |3,_=>exact zRf
 |4,_=>exact zRd
 |5,_=>exact zRi
 |6,_=>exact zRm
 |7,_=>exact zRg
 |8,_=>exact zRo
 |9,_=>exact zRp
 |10,_=>exact zRc
 |11,_=>exact zRF
 |12,_=>exact zRX
 |13,_=>exact zRA
 |14,_=>exact zRP
 |15,_=>exact zRZ
 |16,_=>exact zRW
 |17,_=>exact zRU
 |18,_=>exact zRG
 |19,_=>exact zRS
 |20,_=>exact zRN
 |21,_=>exact zRI
 |22,_=>exact zRD
 |n+23,h=>exact absurd h (by omega)
def zd(n m:Int):Bool:=decide (0<=n)&&decide (n<m)
def zFb(l:List Int)(m:Int):Bool:=l.all fun n=>zd n m
structure By where
 types:Int
 funcs:Int
 aG:Int
 blocks:Int
def zAN(x:Wj)(s:By):Bool:=
 if x.op=3\/x.op=18 then decide (0<=x.n)&&decide (x.n<s.funcs)else if x.op=14 then decide (0<=x.n)&&decide (x.n<8)else true
def zJ(l:List Wc):Int:=(l.map fun b=>(b.ins.length:Int)).sum
def B4(x:Bl)(s:By):Bool:=
 if x.kind=1 then(decide (x.a=0)&&decide (x.aE=0))&&zd x.to s.blocks
 else if x.kind=2 then zd x.a s.aG&&zd x.to s.blocks&&zd x.aE s.blocks
 else if x.kind=3 then(decide (x.to=0)&&decide (x.aE=0))&&zd x.a s.aG
 else false
def zOt(x:Wj)(s:By):Bool:=
 let q:=zU x.op
 ((((decide (q=(false,false,false,false,false,false))||(q.1&& !zd x.a s.aG))||(q.2.1&& !zd x.b s.aG))|| !zFb x.args s.aG)|| !zAN x s)
def zKU(x:Wj):Bool:=
 let q:=zU x.op
 ((((!q.1&& !decide (x.a=0))||(!q.2.1&& !decide (x.b=0)))||(!q.2.2.1&& !decide (x.n=0)))||(!q.2.2.2.1&&decide (0<(x.args.length:Int))))||(!q.2.2.2.2.1&&decide (0<(x.frm.length:Int)))
def zKK(x:Wj)(s:By):Bool:=
 let q:=zU x.op
 (q.2.2.2.2.2&&zd x.ty s.types)||(!q.2.2.2.2.2&&decide (x.ty=0))
def B2(x:Wj)(s:By):Bool:=
 !zOt x s&&(if(zU x.op).2.2.2.2.1 then !zKU x&&zKK x s&&zFb x.frm s.blocks&&decide (x.frm.length=x.args.length)&&decide (1<=x.frm.length)&&decide (x.frm.length<=16)else !zKU x&&zKK x s&&decide (x.args.length<=4))
def Yv(b:Wc)(s:By):Bool:=(b.ins.any fun x=> !B2 x s)|| !B4 b.fin s
def B0(T:List WE)(nf:Int)(f:Wa):By:=⟨T.length,nf,((T.getD f.sig.toNat default).parts.length:Int)+zJ f.blocks,f.blocks.length⟩
def B6(T:List WE)(f:Wa):Bool:=
 (((!zd f.sig T.length|| !decide ((T.getD f.sig.toNat default).kind=3))|| !zd ((f.blocks.length:Int)-1) 16)||decide (128<zJ f.blocks))
def BW(T:List WE)(nf:Int)(f:Wa):Bool:=if B6 T f then false else !(f.blocks.any fun b=>Yv b (B0 T nf f))
def ZE(T:List WE)(F:List Wa):Int:=
 if yS T≠0 then yS T else if(!zd ((F.length:Int)-1) 8||F.any fun f=> !BW T F.length f)then 60 else 0
def yL(T:List WE)(F:List Wa)(f:Int):Int×Int:=
 if ZE T F≠0 then(0,ZE T F)else if zd f F.length then(((T.getD (F.getD f.toNat default).sig.toNat default).parts.length:Int),0)else(0,2)
def Y9(T:List WE)(F:List Wa)(f:Int):Int×Int:=
 if(yL T F f).2≠0 then(0,(yL T F f).2)else((yL T F f).1+zJ (F.getD f.toNat default).blocks,0)
structure BC(T:List WE)(F:List Wa):Prop where
 types:T.length<=100
 parts:∀ x∈T,x.parts.length<=100
 funcs:F.length<=1000
 blocks:∀ f∈F,f.blocks.length<=1000
 ins:∀ f∈F,∀ b∈f.blocks,b.ins.length<=1000
end Go.Proofs.YtmejfcakhpihlaaGreatDoor
set_option maxRecDepth 100000
namespace Go.Proofs.YtmejfcakhpihlaaGreatDoor
open Go.Am
theorem Zg(h:WA)(n m:Int):WC Tryz.prog tb 42 [I n,I m] h fun r h'=>r=.bool (zd n m)/\h=h':=by
 refine en ?_;repeat' (first|(refine VE (fun hb=> ?_) (fun hb=> ?_)<;>(try simp only[DB]at hb)<;>refine go ?_)|(refine VJ (fun hb=> ?_) (fun hb=> ?_)<;>(try simp only[DB]at hb)<;>refine go ?_))
 all_goals (refine rt ?_;exact⟨by simp[one,zd, *]<;>omega,rfl⟩)
theorem zOs(h h0:WA)(p:Value)(n m:Int)(o:WB h0 h p [I m]):WC Tryz.prog tb 214 [I n,p] h fun r h'=>r=.bool (!zd n m)/\Ext h h':=by
 refine en ?_;refine VA (Zg h n m) ?_;rintro _ _ ⟨rfl,rfl⟩;refine gr ?_;exact⟨rfl,Ext.refl h⟩
theorem zMp(h:WA)(v:Value)(m:Int)(l:List Int)(s:WQ h v l)(hl:(l.length:Int)<=9223372036854775807):WC Tryz.prog tb 171 [v,I m] h fun r h'=>r=.bool (zFb l m)/\Ext h h':=by
 refine en ?_;refine VF ?_;intro p h1 e1 o1;have s1:=s.ext e1;refine go ?_;refine VA (zAr h1 v _ l (fun n=> !zd n m) s1 hl ?_) ?_
 ·intro x hx h2 e2;exact WV.func (zOs h2 h p x m (o1.ext e2))
 rintro _ h2 ⟨rfl,e2⟩;refine gr ?_;refine⟨?_,e1.trans e2⟩;show Value.bool _=_;rw[List.not_any_eq_all_not];simp[zFb]
theorem zL0(h:WA)(x:Wj)(va vf:Value)(s:By):
  WC Tryz.prog tb 172 [.agg #[.int .u8 x.op,I x.ty,I x.a,I x.b,I x.n,va,vf],.agg #[I s.types,I s.funcs,I s.aG,I s.blocks]] h fun r h'=>r=.bool (zAN x s)/\Ext h h':=by
 refine en ?_;refine VF ?_;intro p2 h1 e1 o1;refine VF ?_;intro p3 h2 e2 o2;have o1:=o1.ext e2;refine go ?_;repeat' (first|(refine VE (fun hb=> ?_) (fun hb=> ?_)<;>(try simp only[DB]at hb)<;>refine go ?_)|(refine VJ (fun hb=> ?_) (fun hb=> ?_)<;>(try simp only[DB]at hb)<;>refine go ?_))
 all_goals (refine rt ?_;exact⟨by simp[one,zAN, *]<;>omega,e1.trans e2⟩)
theorem zNd(h:WA)(op:Int)(tb:Br h)(h0:0<=op)(NH:op<=255):
  WC Tryz.prog Go.Proofs.YtmejfcakhpihlaaGreatDoor.tb 136 [.int .u8 op] h fun r h'=>r=.agg (Ye (zU op)).toArray/\Ext h h':=by
 refine en ?_;refine WO.al ?_;intro p h1 e1 o1;have t1:=(tb.ext e1).1;refine go ?_;refine VE (fun hb=> ?_) (fun hb=> ?_)<;>simp only[DB]at hb
 ·have ht:=zP8 op.toNat (by omega);obtain⟨i,rfl⟩:∃ i:Nat,op=i:=⟨op.toNat,by omega⟩;rw[QL]at ht;refine go ?_;refine VH o1 e1 ?_;intro h2 e2 o2 _;refine gr ?_;exact⟨rfl,e2⟩
 ·refine go ?_;refine VH o1 e1 ?_;intro h2 e2 o2 _;refine gr ?_;refine⟨?_,e2⟩;unfold zU;have hl:hasT.length<=op.toNat:=by simp[hasT];omega
  rw[QG,JA hl];rfl
theorem zGd(h:WA)(sig:Int)(vb:Value)(l:List Wc)(s:Wv h vb l)(hl:l.length<=1000)(hb:∀ b∈l,b.ins.length<=1000):
  WC Tryz.prog tb 41 [.agg #[I sig,vb]] h fun r h'=>r=I (zJ l)/\Ext h h':=by
 refine en ?_;refine VF ?_;intro p h1 e1 o1;have s1:=s.ext e1;refine go ?_;refine VD (fun i=>l.length-i) (fun i t h2=>Ext h1 h2/\zC t 8=I i/\i<=l.length/\zC t 2=I (zJ (l.take i))/\0<=zJ (l.take i)/\zJ (l.take i)<=1000*i) 0 ?_ ?_
 ·exact⟨Ext.refl _,WH,QK _,WH,by simp[zJ],by simp[zJ]⟩
 rintro i t h2 ab ⟨e2,s8,hi,s2,hm,hn⟩;have s3:=s1.ext e2;refine go ?_;refine VE (fun hc=> ?_) (fun hc=> ?_)<;>simp only[DB]at hc
 ·have ae:i<l.length:=by omega
  obtain⟨cs,⟨vi,rfl,si,vQ⟩,pc,hs⟩:=zq s3 ae;obtain⟨_,_,_,rfl⟩:=zD si;have jW:(l.getD i default).ins.length<=1000:=hb _ (by simp[List.getD,QB ae]);refine go ?_;refine WO.al ?_;intro p4 h3 e3 o3;refine VH o3 e3 ?_;intro h4 e4 o4 _;have si:=BB.ext si e4;refine go ?_;have e:zJ (l.take (i+1))=zJ (l.take i)+((l.getD i default).ins.length:Int):=by
   unfold zJ;rw[Q1,Qx,Gq];simp[List.getD,QB ae]
  exact zA (i+1) (by omega) ⟨e2.trans e4,Wn,by omega,by rw[e];exact WH,by omega,by omega⟩
 ·refine gr ?_;have:i=l.length:=by omega
  subst this;exact⟨by simp[one],e1.trans e2⟩
end Go.Proofs.YtmejfcakhpihlaaGreatDoor
set_option maxRecDepth 100000
namespace Go.Proofs.YtmejfcakhpihlaaGreatDoor
open Go.Am
theorem zQJ(h:WA)(x:Bl)(s:By):
  WC Tryz.prog tb 116 [.agg #[.int .u8 x.kind,I x.a,I x.to,I x.aE],.agg #[I s.types,I s.funcs,I s.aG,I s.blocks]] h fun r h'=>r=.bool (B4 x s)/\Ext h h':=by
 refine en ?_;refine VF ?_;intro p2 h1 e1 o1;refine VF ?_;intro p3 h2 e2 o2;have o1:=o1.ext e2;refine go ?_;refine VE (fun hb=> ?_) (fun hb=> ?_)<;>simp only[DB]at hb<;>refine go ?_
 ·refine Vt (zJP (xs:=#[.int .u8 x.kind,I x.a,I x.to,I x.aE]) (ys:=#[.int .u8 x.kind,I 0,I x.to,I 0]) (b:=decide (x.a=0)&&decide (x.aE=0)) (by kernel_rfl) (by simp[zAs,zFT,I];rw[GZ];simp)) ?_;refine go ?_;refine VJ (fun hc=> ?_) (fun hc=> ?_)<;>refine go ?_
  ·refine VA (Zg h2 x.to s.blocks) ?_;rintro _ _ ⟨rfl,rfl⟩;refine gr ?_;exact⟨by simp only[B4,QF hb,hc,Qe];rfl,e1.trans e2⟩
  ·refine rt ?_;exact⟨by simp only[B4,QF hb,hc,Qf];rfl,e1.trans e2⟩
 refine VE (fun aI=> ?_) (fun aI=> ?_)<;>simp only[DB]at aI<;>refine go ?_
 ·refine VA (Zg h2 x.a s.aG) ?_;rintro _ _ ⟨rfl,rfl⟩;refine go ?_;refine VJ (fun hc=> ?_) (fun hc=> ?_)<;>refine go ?_
  ·refine VA (Zg h2 x.to s.blocks) ?_;rintro _ _ ⟨rfl,rfl⟩;refine go ?_;refine VJ (fun hd=> ?_) (fun hd=> ?_)<;>refine go ?_
   ·refine VA (Zg h2 x.aE s.blocks) ?_;rintro _ _ ⟨rfl,rfl⟩;refine gr ?_;exact⟨by simp only[B4,QC hb,QF aI,hc,hd,Qe];rfl,e1.trans e2⟩
   ·refine rt ?_;exact⟨by simp only[B4,QC hb,QF aI,hc,hd,Qe,Qf];rfl,e1.trans e2⟩
  ·refine rt ?_;exact⟨by simp only[B4,QC hb,QF aI,hc,Qe,Qf];rfl,e1.trans e2⟩
 refine VE (fun iz=> ?_) (fun iz=> ?_)<;>simp only[DB]at iz<;>refine go ?_
 ·refine Vt (zJP (xs:=#[.int .u8 x.kind,I x.a,I x.to,I x.aE]) (ys:=#[.int .u8 x.kind,I x.a,I 0,I 0]) (b:=decide (x.to=0)&&decide (x.aE=0)) (by kernel_rfl) (by simp[zAs,zFT,I];rw[GZ];simp)) ?_;refine go ?_;refine VJ (fun hc=> ?_) (fun hc=> ?_)<;>refine go ?_
  ·refine VA (Zg h2 x.a s.aG) ?_;rintro _ _ ⟨rfl,rfl⟩;refine gr ?_;exact⟨by simp only[B4,QC hb,QC aI,QF iz,hc,Qe];rfl,e1.trans e2⟩
  ·refine rt ?_;exact⟨by simp only[B4,QC hb,QC aI,QF iz,hc,Qf];rfl,e1.trans e2⟩
 ·refine rt ?_;exact⟨by simp only[B4,QC hb,QC aI,QC iz];rfl,e1.trans e2⟩
theorem zQT(h:WA)(x:Wj)(va vf:Value)(s:By)(T:Br h)(sa:WQ h va x.args)(sf:WQ h vf x.frm)(br:(x.args.length:Int)<=9223372036854775807)(dZ:(x.frm.length:Int)<=9223372036854775807)(ho:0<=x.op/\x.op<=255):
  WC Tryz.prog tb 112 [.agg #[.int .u8 x.op,I x.ty,I x.a,I x.b,I x.n,va,vf],.agg #[I s.types,I s.funcs,I s.aG,I s.blocks]] h fun r h'=>r=.bool (B2 x s)/\Ext h h':=by
 refine en ?_;refine VF ?_;intro p2 h1 e1 o1;refine VF ?_;intro p3 h2 e2 o2;have o1:=o1.ext e2;have T2:=(T.ext e1).ext e2;refine go ?_;refine VA (zNd h2 x.op T2 ho.1 ho.2) ?_;rintro _ h3 ⟨rfl,e3⟩;refine go ?_;refine WO.al ?_;intro p5 h4 e4 o5;refine VH o5 e4 ?_;intro h5 e5 o5 _;have o1:=(o1.ext e3).ext e5;have o2:=(o2.ext e3).ext e5;have er:=((e1.trans e2).trans e3).trans e5;have Fb:=sa.ext er;have tf:=sf.ext er;have bw:B2 x s=B2 x s:=rfl;conv at bw=>rhs;unfold B2 zOt zKU zKK
 generalize hq:zU x.op=q at *;obtain⟨qa,qb,qn,qg,qf,qw⟩:=q;simp only at bw;refine go ?_;refine Vt (zJP (xs:=#[.bool qa,.bool qb,.bool qn,.bool qg,.bool qf,.bool qw]) (ys:=#[.bool false,.bool false,.bool false,.bool false,.bool false,.bool false]) (b:=decide ((qa,qb,qn,qg,qf,qw)=(false,false,false,false,false,false))) (by kernel_rfl) (by cases qa<;>cases qb<;>cases qn<;>cases qg<;>cases qf<;>cases qw<;>rfl)) ?_;replace o5:WB h3 h5 p5 [.bool qa,.bool qb,.bool qn,.bool qg,.bool qf,.bool qw]:=o5;obtain⟨c0,aW⟩:∃ c:Bool,c=decide ((qa,qb,qn,qg,qf,qw)=(false,false,false,false,false,false)):=⟨_,rfl⟩;rw[<-aW]at bw;rw[<-aW];refine VT 12 (fun t' h'=>h5=h'/\zC t' 25=.bool (c0||(qa&& !zd x.a s.aG))) ?_ ?_<;>simp only[Qo,GC,GE,Q2]
 ·refine go ?_;refine VJ (fun hc=> ?_) (fun hc=> ?_)<;>refine go ?_
  ·exact⟨rfl,rfl,rfl,by simp only[hc,Qe,Qf,Qt,Qq,Q0,Q3,Qz,Q8,QW,Qh];exact WH⟩
  refine VJ (fun hd=> ?_) (fun hd=> ?_)<;>(try simp only[DB]at hd)<;>refine go ?_
  ·refine VA (Zg h5 x.a s.aG) ?_;rintro _ _ ⟨rfl,rfl⟩;refine go ?_;exact⟨rfl,rfl,rfl,by simp only[hc,hd,Qe,Qf,Qt,Qq,Q0,Q3,Qz,Q8,QW,Qh];exact WH⟩
  ·exact⟨rfl,rfl,rfl,by simp only[hc,hd,Qe,Qf,Qt,Qq,Q0,Q3,Qz,Q8,QW,Qh];exact WH⟩
 rintro t1 _ iA ⟨rfl,NI⟩;obtain⟨c1,nB⟩:∃ c:Bool,c=(c0||(qa&& !zd x.a s.aG)):=⟨_,rfl⟩;rw[<-nB]at NI bw;refine VT 12 (fun t' h'=>h5=h'/\zC t' 37=.bool (c1||(qb&& !zd x.b s.aG))) ?_ ?_<;>simp only[Qo,GC,GE,Q2]
 ·refine go ?_;refine VJ (fun hc=> ?_) (fun hc=> ?_)<;>refine go ?_
  ·exact⟨rfl,rfl,rfl,by simp only[hc,Qe,Qf,Qt,Qq,Q0,Q3,Qz,Q8,QW,Qh];exact WH⟩
  refine VJ (fun hd=> ?_) (fun hd=> ?_)<;>(try simp only[DB]at hd)<;>refine go ?_
  ·refine VA (Zg h5 x.b s.aG) ?_;rintro _ _ ⟨rfl,rfl⟩;refine go ?_;exact⟨rfl,rfl,rfl,by simp only[hc,hd,Qe,Qf,Qt,Qq,Q0,Q3,Qz,Q8,QW,Qh];exact WH⟩
  ·exact⟨rfl,rfl,rfl,by simp only[hc,hd,Qe,Qf,Qt,Qq,Q0,Q3,Qz,Q8,QW,Qh];exact WH⟩
 rintro t2 _ eW ⟨rfl,NJ⟩;obtain⟨c2,eC⟩:∃ c:Bool,c=(c1||(qb&& !zd x.b s.aG)):=⟨_,rfl⟩;rw[<-eC]at NJ bw;refine VT 8 (fun t' h'=>Ext h5 h'/\zC t' 45=.bool (c2|| !zFb x.args s.aG)) ?_ ?_<;>simp only[Qo,GC,GE,Q2]
 ·refine go ?_;refine VJ (fun hc=> ?_) (fun hc=> ?_)<;>refine go ?_
  ·exact⟨rfl,rfl,Ext.refl _,by simp only[hc,Qe,Qf,Qt,Qq,Q0,Q3,Qz,Q8,QW,Qh];exact WH⟩
  refine VA (zMp h5 va s.aG x.args Fb br) ?_;rintro _ h6 ⟨rfl,e6⟩;refine go ?_;exact⟨rfl,rfl,e6,by simp only[hc,Qe,Qf,Qt,Qq,Q0,Q3,Qz,Q8,QW,Qh];exact WH⟩
 rintro t3 h6 xB ⟨e6,NK⟩;obtain⟨c3,D3⟩:∃ c:Bool,c=(c2|| !zFb x.args s.aG):=⟨_,rfl⟩;rw[<-D3]at NK bw;have o1:=o1.ext e6;have o2:=o2.ext e6;have o5:=o5.ext e6;have NL:=Fb.ext e6;have pD:=tf.ext e6;have gG:=er.trans e6;refine VT 6 (fun t' h'=>Ext h6 h'/\zC t' 51=.bool (c3|| !zAN x s)) ?_ ?_<;>simp only[Qo,GC,GE,Q2]
 ·refine go ?_;refine VJ (fun hc=> ?_) (fun hc=> ?_)<;>refine go ?_
  ·exact⟨rfl,rfl,Ext.refl _,by simp only[hc,Qe,Qf,Qt,Qq,Q0,Q3,Qz,Q8,QW,Qh];exact WH⟩
  refine VA (zL0 h6 x va vf s) ?_;rintro _ h7 ⟨rfl,e7⟩;refine go ?_;exact⟨rfl,rfl,e7,by simp only[hc,Qe,Qf,Qt,Qq,Q0,Q3,Qz,Q8,QW,Qh];exact WH⟩
 rintro t4 h7 vU ⟨e7,Kn⟩;obtain⟨c4,D4⟩:∃ c:Bool,c=(c3|| !zAN x s):=⟨_,rfl⟩;rw[<-D4]at Kn bw;have o1:=o1.ext e7;have o2:=o2.ext e7;have o5:=o5.ext e7;have Fc:=NL.ext e7;have xH:=pD.ext e7;have et:=gG.trans e7;refine go ?_;refine VE (fun hz=> ?_) (fun hz=> ?_)<;>rw[hz]at bw
 ·refine gr ?_;exact⟨by rw[bw];rfl,et⟩
 refine goC ?_;refine goC ?_;refine VT 8 (fun t' h'=>h7=h'/\zC t' 59=.bool (!qa&& !decide (x.a=0))) ?_ ?_<;>simp only[Qo,GC,GE,Q2]
 ·refine go ?_;refine VJ (fun hd=> ?_) (fun hd=> ?_)<;>(try simp only[DB]at hd)<;>refine go ?_
  ·exact⟨rfl,rfl,rfl,by simp only[hd,Qe,Qf,Qt,Qq,Q0,Q3,Qz,Q8,QW,Qh];exact WH⟩
  ·exact⟨rfl,rfl,rfl,by simp only[hd,Qe,Qf,Qt,Qq,Q0,Q3,Qz,Q8,QW,Qh];exact WH⟩
 rintro t5 _ vV ⟨rfl,NM⟩;obtain⟨d0,hd0⟩:∃ c:Bool,c=(!qa&& !decide (x.a=0)):=⟨_,rfl⟩;rw[<-hd0]at NM bw;refine goC ?_;refine VT 10 (fun t' h'=>h7=h'/\zC t' 69=.bool (d0||(!qb&& !decide (x.b=0)))) ?_ ?_<;>simp only[Qo,GC,GE,Q2]
 ·refine go ?_;refine VJ (fun hc=> ?_) (fun hc=> ?_)<;>refine go ?_
  ·exact⟨rfl,rfl,rfl,by simp only[hc,Qe,Qf,Qt,Qq,Q0,Q3,Qz,Q8,QW,Qh];exact WH⟩
  refine VJ (fun hd=> ?_) (fun hd=> ?_)<;>(try simp only[DB]at hd)<;>refine go ?_
  ·exact⟨rfl,rfl,rfl,by simp only[hc,hd,Qe,Qf,Qt,Qq,Q0,Q3,Qz,Q8,QW,Qh];exact WH⟩
  ·exact⟨rfl,rfl,rfl,by simp only[hc,hd,Qe,Qf,Qt,Qq,Q0,Q3,Qz,Q8,QW,Qh];exact WH⟩
 rintro t6 _ vW ⟨rfl,NN⟩;obtain⟨d1,kF⟩:∃ c:Bool,c=(d0||(!qb&& !decide (x.b=0))):=⟨_,rfl⟩;rw[<-kF]at NN bw;refine goC ?_;refine VT 10 (fun t' h'=>h7=h'/\zC t' 79=.bool (d1||(!qn&& !decide (x.n=0)))) ?_ ?_<;>simp only[Qo,GC,GE,Q2]
 ·refine go ?_;refine VJ (fun hc=> ?_) (fun hc=> ?_)<;>refine go ?_
  ·exact⟨rfl,rfl,rfl,by simp only[hc,Qe,Qf,Qt,Qq,Q0,Q3,Qz,Q8,QW,Qh];exact WH⟩
  refine VJ (fun hd=> ?_) (fun hd=> ?_)<;>(try simp only[DB]at hd)<;>refine go ?_
  ·exact⟨rfl,rfl,rfl,by simp only[hc,hd,Qe,Qf,Qt,Qq,Q0,Q3,Qz,Q8,QW,Qh];exact WH⟩
  ·exact⟨rfl,rfl,rfl,by simp only[hc,hd,Qe,Qf,Qt,Qq,Q0,Q3,Qz,Q8,QW,Qh];exact WH⟩
 rintro t7 _ Fe ⟨rfl,NO⟩;obtain⟨d2,lR⟩:∃ c:Bool,c=(d1||(!qn&& !decide (x.n=0))):=⟨_,rfl⟩;rw[<-lR]at NO bw;refine goC ?_;refine VT 11 (fun t' h'=>h7=h'/\zC t' 90=.bool (d2||(!qg&&decide (0<(x.args.length:Int))))) ?_ ?_<;>simp only[Qo,GC,GE,Q2]
 ·refine go ?_;refine VJ (fun hc=> ?_) (fun hc=> ?_)<;>refine go ?_
  ·exact⟨rfl,rfl,rfl,by simp only[hc,Qe,Qf,Qt,Qq,Q0,Q3,Qz,Q8,QW,Qh];exact WH⟩
  refine VJ (fun hd=> ?_) (fun hd=> ?_)<;>(try simp only[DB]at hd)<;>refine go ?_
  ·exact⟨rfl,rfl,rfl,by simp only[hc,hd,Qe,Qf,Qt,Qq,Q0,Q3,Qz,Q8,QW,Qh];exact WH⟩
  ·exact⟨rfl,rfl,rfl,by simp only[hc,hd,Qe,Qf,Qt,Qq,Q0,Q3,Qz,Q8,QW,Qh];exact WH⟩
 rintro t8 _ xI ⟨rfl,NP⟩;obtain⟨d3,xJ⟩:∃ c:Bool,c=(d2||(!qg&&decide (0<(x.args.length:Int)))):=⟨_,rfl⟩;rw[<-xJ]at NP bw;refine goC ?_;refine VT 12 (fun t' h'=>h7=h'/\zC t' 6=.bool (d3||(!qf&&decide (0<(x.frm.length:Int))))) ?_ ?_<;>simp only[Qo,GC,GE,Q2]
 ·refine go ?_;refine VJ (fun hc=> ?_) (fun hc=> ?_)<;>refine go ?_
  ·exact⟨rfl,rfl,rfl,by simp only[hc,Qe,Qf,Qt,Qq,Q0,Q3,Qz,Q8,QW,Qh];exact WH⟩
  refine VJ (fun hd=> ?_) (fun hd=> ?_)<;>(try simp only[DB]at hd)<;>refine go ?_
  ·exact⟨rfl,rfl,rfl,by simp only[hc,hd,Qe,Qf,Qt,Qq,Q0,Q3,Qz,Q8,QW,Qh];exact WH⟩
  ·exact⟨rfl,rfl,rfl,by simp only[hc,hd,Qe,Qf,Qt,Qq,Q0,Q3,Qz,Q8,QW,Qh];exact WH⟩
 rintro t9 _ Ko ⟨rfl,s6⟩;obtain⟨d4,xK⟩:∃ c:Bool,c=(d3||(!qf&&decide (0<(x.frm.length:Int)))):=⟨_,rfl⟩;rw[<-xK]at s6 bw;refine goC ?_;refine VT 9 (fun t' h'=>h7=h'/\zC t' 110=.bool (qw&&zd x.ty s.types)) ?_ ?_<;>simp only[Qo,GC,GE,Q2]
 ·refine go ?_;refine VJ (fun hd=> ?_) (fun hd=> ?_)<;>(try simp only[DB]at hd)<;>refine go ?_
  ·refine VA (Zg h7 x.ty s.types) ?_;rintro _ _ ⟨rfl,rfl⟩;refine go ?_;exact⟨rfl,rfl,rfl,by simp only[hd,Qe,Qf,Qt,Qq,Q0,Q3,Qz,Q8,QW,Qh];exact WH⟩
  ·exact⟨rfl,rfl,rfl,by simp only[hd,Qe,Qf,Qt,Qq,Q0,Q3,Qz,Q8,QW,Qh];exact WH⟩
 rintro NQ _ Ff ⟨rfl,Fg⟩;obtain⟨k0,kA⟩:∃ c:Bool,c=(qw&&zd x.ty s.types):=⟨_,rfl⟩;rw[<-kA]at Fg bw;refine goC ?_;refine VT 11 (fun t' h'=>h7=h'/\zC t' 7=.bool (k0||(!qw&&decide (x.ty=0)))) ?_ ?_<;>simp only[Qo,GC,GE,Q2]
 ·refine go ?_;refine VJ (fun hc=> ?_) (fun hc=> ?_)<;>refine go ?_
  ·exact⟨rfl,rfl,rfl,by simp only[hc,Qe,Qf,Qt,Qq,Q0,Q3,Qz,Q8,QW,Qh];exact WH⟩
  refine VJ (fun hd=> ?_) (fun hd=> ?_)<;>(try simp only[DB]at hd)<;>refine go ?_
  ·exact⟨rfl,rfl,rfl,by simp only[hc,hd,Qe,Qf,Qt,Qq,Q0,Q3,Qz,Q8,QW,Qh];exact WH⟩
  ·exact⟨rfl,rfl,rfl,by simp only[hc,hd,Qe,Qf,Qt,Qq,Q0,Q3,Qz,Q8,QW,Qh];exact WH⟩
 rintro t11 _ NR ⟨rfl,s7⟩;obtain⟨k1,dj⟩:∃ c:Bool,c=(k0||(!qw&&decide (x.ty=0))):=⟨_,rfl⟩;rw[<-dj]at s7 bw;refine go ?_;refine VE (fun hf=> ?_) (fun hf=> ?_)<;>rw[hf]at bw<;>refine go ?_
 ·refine VJ (fun hd=> ?_) (fun hd=> ?_)<;>(try simp only[DB]at hd)<;>refine go ?_
  ·refine VJ (fun he=> ?_) (fun he=> ?_)<;>refine go ?_
   ·refine VA (zMp h7 vf s.blocks x.frm xH dZ) ?_;rintro _ h8 ⟨rfl,e8⟩;have o1:=o1.ext e8;have xL:=Fc.ext e8;have CY:=xH.ext e8;refine go ?_;refine VJ (fun hg=> ?_) (fun hg=> ?_)<;>refine go ?_
    ·refine VJ (fun hh=> ?_) (fun hh=> ?_)<;>simp only[DB]at hh<;>refine go ?_
     ·refine VJ (fun hi=> ?_) (fun hi=> ?_)<;>simp only[DB]at hi<;>refine go ?_
      ·refine rt ?_;refine⟨?_,et.trans e8⟩;have tg:decide ((x.frm.length:Int)<=16)=decide (x.frm.length<=16):=by rw[GZ];simp only[Qd];omega
       rw[tg,bw,hd,he,hg,Qc (show x.frm.length=x.args.length by omega),Qc (show 1<=x.frm.length by omega)];rfl
      ·refine rt ?_;refine⟨?_,et.trans e8⟩;rw[bw,hd,he,hg,Qc (show x.frm.length=x.args.length by omega),QY (show ¬1<=x.frm.length by omega)];rfl
     ·refine rt ?_;refine⟨?_,et.trans e8⟩;rw[bw,hd,he,hg,QY (show ¬x.frm.length=x.args.length by omega)];rfl
    ·refine rt ?_;refine⟨?_,et.trans e8⟩;rw[bw,hd,he,hg];rfl
   ·refine rt ?_;refine⟨?_,et⟩;rw[bw,hd,he];rfl
  ·refine rt ?_;refine⟨?_,et⟩;rw[bw,hd];rfl
 ·refine VJ (fun hd=> ?_) (fun hd=> ?_)<;>(try simp only[DB]at hd)<;>refine go ?_
  ·refine VJ (fun he=> ?_) (fun he=> ?_)<;>refine go ?_
   ·refine rt ?_;refine⟨?_,et⟩;have tg:decide ((x.args.length:Int)<=4)=decide (x.args.length<=4):=by rw[GZ];simp only[Qd];omega
    rw[tg,bw,hd,he];rfl
   ·refine rt ?_;refine⟨?_,et⟩;rw[bw,hd,he];rfl
  ·refine rt ?_;refine⟨?_,et⟩;rw[bw,hd];rfl
end Go.Proofs.YtmejfcakhpihlaaGreatDoor
