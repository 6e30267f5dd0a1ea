/- Walks of functions, plain laws; proves no statement. -/
import Derived.Test.YtfnndahpddkniaaGreatDoorJj
set_option linter.all false
set_option maxHeartbeats 4000000
set_option maxRecDepth 100000
namespace Go.Proofs.YtfnndahpddkniaaGreatDoor
open Go.Am
theorem En.env{h:U0}{vt vf:Value}{T:List U2}{F:List WM}(E:En h vt vf T F):Env h vt vf T F:=⟨E.tt,E.hm,E.sm,E.st,E.sf⟩
theorem zPH{nx:Int->List Int}{a b:Int}:Bu nx [0] a b↔Av nx a b:=by
 constructor
 ·intro h;induction h with
  |here h1 h2=>rw[Qb]at h1;subst h1;exact⟨0,.here h2⟩
  |step _ hc hne ih=>obtain⟨k,hk⟩:=ih;exact⟨k+1,.step hk hc hne⟩
 ·rintro⟨k,h⟩;induction h with
  |here h=>exact .here (by simp) h
  |step _ hc hne ih=>exact .step ih hc hne
theorem zQL{nx:Int->List Int}{a b:Int}(w:WU nx 0 b)(h:¬WU nx 0 a):Av nx a b:=by
 induction w with
 |here=>exact⟨0,.here (fun e=>h (by rw[<-e];exact .here))⟩
 |step w1 hc ih=>obtain⟨k,hk⟩:=ih;exact⟨k+1,.step hk hc (fun e=>h (by rw[<-e];exact .step w1 hc))⟩
theorem zHu{nx:Int->List Int}{a b:Int}(w:WU nx 0 b)(d:W6 nx a b):WU nx 0 a:=Gn fun h=>d (zQL w h)
def zMm(nx:Int->List Int)(a b:Int):Prop:=a=b\/(WU nx 0 a/\W6 nx a b)
theorem zKr{nx:Int->List Int}{a b:Int}(w:WU nx 0 b):zMm nx a b↔W6 nx a b:=
 ⟨fun h=>h.elim (fun e=>by rw[e];exact W6.self _ _) (·.2),fun d=> .inr ⟨zHu w d,d⟩⟩
theorem zNN(h:U0)(v:Value)(L:List WL)(a b:Int)(hm:h.mark<=h.n)(sb:Wi h v L)(hL:L.length<=16)(ha:0<=a/\a<(L.length:Int))(hb:0<=b/\b<(L.length:Int))(hin:∀ c,0<=c/\c<(L.length:Int)->∀ d∈WZ L c,0<=d/\d<(L.length:Int)):
  WC Tryz.prog tb 192 [v,I a,I b] h fun r h'=>(∃ q,r=.bool q/\(q=true↔zMm (WZ L) a b))/\Ext h h':=by
 have hf0:∀ c∈([0]:List Int),0<=c/\c<(L.length:Int):=fun c hc=>by rw[Qb]at hc;subst hc;omega
 have hw:Bu (WZ L) [0] (-1) a↔WU (WZ L) 0 a:=by
  rw[zJg hin hf0];exact⟨fun⟨c,hc,w⟩=>by rw[Qb]at hc;subst hc;exact w,fun w=>⟨0,by simp,w⟩⟩
 replace hw:=WE.mk hw;refine en ?_;by_cases hab:a=b
 ·refine gr ?_;exact⟨⟨_,rfl,⟨fun _=> .inl hab,fun _=>rfl⟩⟩,Ext.refl _⟩
 refine go ?_;refine WO.bl [0] ?_;intro v1 h1 e1 o1;have hm1:=zq e1 hm;refine go ?_;refine VA (zGD h1 v v1 L [0] (-1) hm1 (Wi.ext sb e1) o1.sl hL hin hf0 (by simp)) ?_;rintro r h2 ⟨⟨bs,ob,hbl,hbs⟩,e2⟩;have e02:=e1.trans e2;have sr:=ob.sl;have hA:=(hbs a ha).trans hw.out;obtain⟨cs1,hcs1,pc1,hs1⟩:=zb sr (i:=a.toNat) (by omega);have hcs1:cs1=[.bool (bO bs a)]:=hcs1;subst hcs1;replace hA:=WE.mk hA;clear hbs;cases hq:bO bs a with
 |false=>
  rw[hq]at hA pc1;refine gr ?_;exact⟨⟨_,rfl,⟨fun h=>(by cases h),fun h=>h.elim (fun e=>absurd e hab) fun h=>absurd (hA.out.2 h.1) Bool.noConfusion⟩⟩,e02⟩
 |true=>
  rw[hq]at hA pc1;refine go ?_;refine WO.bl [0] ?_;intro v3 h3 e3 o3;have e03:=e02.trans e3;refine go ?_;refine VA (zGD h3 v v3 L [0] a (zq e03 hm) (Wi.ext sb e03) o3.sl hL hin hf0 (by simp)) ?_;rintro r4 h4 ⟨⟨bs4,ob4,hbl4,hbs4⟩,e4⟩;have sr4:=ob4.sl;have hB:=(hbs4 b hb).trans zPH;obtain⟨cs4,hcs4,pc4,hs4⟩:=zb sr4 (i:=b.toNat) (by omega);have hcs4:cs4=[.bool (bO bs4 b)]:=hcs4;subst hcs4;replace hB:=WE.mk hB;clear hbs4;refine gr ?_;refine⟨⟨_,rfl,?_⟩,e03.trans e4⟩;have hw:=hA.out.1 rfl;cases hq4:bO bs4 b with
  |true=>exact⟨fun h=>(by cases h),fun h=>h.elim (fun e=>absurd e hab) fun h=>absurd (hB.out.1 hq4) h.2⟩
  |false=>exact⟨fun _=> .inr ⟨hw,fun hav=>by have:=hB.out.2 hav;rw[hq4]at this;cases this⟩,fun _=>rfl⟩
end Go.Proofs.YtfnndahpddkniaaGreatDoor
set_option maxRecDepth 100000
namespace Go.Proofs.YtfnndahpddkniaaGreatDoor
open Go.Am
theorem zNB{α:Type}{c i:Nat}{R:U0->List Value->α->Prop}{h:U0}{v:Value}{l:List α}(s:Ww c R h v l)(hl:0<l.length)(hi:i<=l.length):∃ r,ZY c v none (some i) none=some r/\Ww c R h r (l.take i):=by
 obtain⟨cells,⟨h1,⟨h2,_⟩|⟨g,off,row,rfl,h3,h4,h5⟩⟩,hR⟩:=s
 ·omega
 have hmul:i*c<=l.length*c:=GP _ hi;have hlen:(l.take i).length=i:=by rw[Qj];omega
 refine⟨.slice (some ⟨g,off+0*c,none⟩) (i-0) c,?_,cells.take (i*c),⟨by rw[Qj,hlen];omega,.inr ⟨g,off,row,by rw[hlen];simp,h3,?_,h5⟩⟩,fun j a ha=> ?_⟩
 ·have b1:Nat.ble 0 i=true:=QG (QK _);have b2:Nat.ble i l.length=true:=QG hi;simp only[ZY,Gq,GD,b1,b2,Qn,Qt,cond_true,GS]
 ·rw[hlen];obtain⟨c1,c2⟩:=zDs h4;rw[ZG (by omega),c2,List.take_take,Ge hmul]
 ·have hj:j<i:=by have:=(QS.1 ha).1;omega
  have hja:l[j]?=some a:=by rw[GL,QF hj]at ha;exact ha
  have:=hR j a hja;have h6:j*c+c<=i*c:=by rw[<-G4];exact GP _ hj
  rw[List.drop_take,List.take_take,Ge (by omega)];exact this
theorem zLM{l:List WL}:∀ {i:Nat} {k:Int},i<l.length->0<=k->k<((l.getD i default).ins.length:Int)->zx l (zN (l.take i)+k)=((i:Int),k):=by
 induction l with
 |nil=>intro i k hi;simp at hi
 |cons b l ih=>
  intro i k hi h0 h1;cases i with
  |zero=>
   simp only[Q5,List.getD_cons_zero]at h1 |-;unfold zx;rw[show zN []=0 from rfl,Int.zero_add,QC (by omega)];rfl
  |succ i=>
   simp only[Qm,List.getD_cons_succ,GE]at h1 hi |-;have hp:=zAI (l.take i);unfold zx;rw[Zt,QF (by omega),show(b.ins.length:Int)+zN (l.take i)+k-b.ins.length=zN (l.take i)+k by omega,ih (by omega) h0 h1];simp
def Zz(n:Int)(L:List WL)(r:Int):Int×Int:=if n<=r/\r<n+zN L then zx L (r-n)else(-1,r)
theorem zDw(h:U0)(vt vf:Value)(T:List U2)(F:List WM)(f k:Int)(i:Nat)(E:En h vt vf T F)(hf:0<=f/\f<(F.length:Int))(hsig:0<=(F.getD f.toNat default).sig/\(F.getD f.toNat default).sig<(T.length:Int))(hi:i<(F.getD f.toNat default).blocks.length)(hk:0<=k/\k<=1000000):
  WC Tryz.prog tb 68 [.agg #[vt,vf],I f,I i,I k] h fun r h'=>r=I (((T.getD (F.getD f.toNat default).sig.toNat default).parts.length:Int)+zN ((F.getD f.toNat default).blocks.take i)+k)/\Ext h h':=by
 have hF:=E.sm.funcs;have hmem:=zG (l:=F) (i:=f.toNat) (by omega);have hB:=E.sm.blocks _ hmem;have hI:=E.sm.ins _ hmem;have hpart:=E.sm.parts _ (zG (l:=T) (i:=(F.getD f.toNat default).sig.toNat) (by omega));have hIt:∀ b∈(F.getD f.toNat default).blocks.take i,b.ins.length<=1000:=fun b hb=>hI b (Qp hb);have hlt:((F.getD f.toNat default).blocks.take i).length<=1000:=by rw[Qj];omega
 have hmany:=zEq hIt;obtain⟨ta,tn,tk,rfl⟩:=zD E.st;obtain⟨ga,gn,gk,rfl⟩:=zD E.sf;refine en ?_;refine VF ?_;intro p h1 e1 o1;have E1:=E.ext e1;have sf1:=E1.sf;refine go ?_;refine VC 0 rfl rfl ?_;have o1X:U1 h (inC (zC 0 h1)) p [_,_]:=o1;have sfX:Wd (inC (zC 0 h1)) _ F:=sf1;obtain⟨cs,⟨vb,rfl,sb,hlb⟩,px,hs⟩:=zW sf1 (i:=f.toNat) (by omega);have pcX:=(px h1 (Ext.refl _)).2;have pcX:We (inC (zC 0 h1)) (.slice ga gn gk) (f.toNat*2) [I (F.getD f.toNat default).sig,vb]:=pcX;obtain⟨ba,bn,bk,rfl⟩:=zD sb;obtain⟨qa,qn,qk,hqv,hqb⟩:=YG sf1 (i:=f.toNat) (by omega);refine U9 ?_;refine VA (zEX (inC (zC 0 h1)) _ _ _ T F _ E1.inC.st sfX ⟨_,_,_,rfl⟩ hsig (by omega)) ?_;rintro _ h2 ⟨rfl,e2⟩;refine nE e2 ?_;have sfY:Wd (inC h2) (.slice ga gn gk) F:=by have:=Wd.ext sfX e2;exact this
 have e3:Ext h1 (outC h1 (inC h2)):=e2.reg;have pcY:We (inC h2) (.slice ga gn gk) (f.toNat*2) [I (F.getD f.toNat default).sig,.slice ba bn bk]:=by
  have:=(px _ e3).2;exact this
 have sbY:Wi (inC h2) (.slice ba bn bk) (F.getD f.toNat default).blocks:=by
  have:=Wi.ext sb e3;exact this
 obtain⟨vs,hvs,sbs⟩:=zNB (i:=i) sbY (by omega) (by omega);have o1Y:U1 h (inC h2) p [.slice ta tn tk,.slice ga gn gk]:=by have:=o1X.ext e2;exact this
 refine U9 ?_;refine zDc o1 (QE _) ?_;refine U9 ?_;refine zLw ⟨qa,qn,qk,hqv,hqb⟩ ?_;refine U9 ?_;refine Vu (i:=i) hvs ?_;refine nQ ?_;refine U9 ?_;refine VA (zD6 (inC h2) _ _ sbs hlt hIt) ?_;rintro _ _ ⟨rfl,rfl⟩;refine nQ ?_;refine U9 ?_;refine gr ?_;exact⟨rfl,e1.trans e3⟩
theorem zG4(h:U0)(vt vf:Value)(T:List U2)(F:List WM)(f r:Int)(E:En h vt vf T F)(hf:0<=f/\f<(F.length:Int))(hsig:0<=(F.getD f.toNat default).sig/\(F.getD f.toNat default).sig<(T.length:Int)):
  WC Tryz.prog tb 188 [.agg #[vt,vf],I f,I r] h fun q h'=>q=.tuple #[I (Zz ((T.getD (F.getD f.toNat default).sig.toNat default).parts.length:Int) (F.getD f.toNat default).blocks r).1,I (Zz ((T.getD (F.getD f.toNat default).sig.toNat default).parts.length:Int) (F.getD f.toNat default).blocks r).2]/\Ext h h':=by
 have hF:=E.sm.funcs;have hmem:=zG (l:=F) (i:=f.toNat) (by omega);have hB:=E.sm.blocks _ hmem;have hI:=WE.mk (E.sm.ins _ hmem);obtain⟨ta,tn,tk,rfl⟩:=zD E.st;obtain⟨ga,gn,gk,rfl⟩:=zD E.sf;refine en ?_;refine VF ?_;intro p h1 e1 o1;have E1:=E.ext e1;have num:∀ (i:Nat) (k:Int) (h2:U0),En h2 (.slice ta tn tk) (.slice ga gn gk) T F->i<(F.getD f.toNat default).blocks.length->0<=k/\k<=1000000->_:=fun i k h2 E2 hi hk=>zDw h2 _ _ T F f k i E2 hf hsig hi hk;replace num:=WE.mk num;refine go ?_;obtain⟨csF,⟨vb,rfl,sb,hlb⟩,px,hsF⟩:=zW E1.sf (i:=f.toNat) (by omega);obtain⟨ba,bn,bk,rfl⟩:=zD sb;generalize hnn:((T.getD (F.getD f.toNat default).sig.toNat default).parts.length:Int)=n at *;generalize hL:(F.getD f.toNat default).blocks=L at *;generalize(F.getD f.toNat default).sig=sg at *;refine VD (fun i=>L.length-i) (fun i t h2=>Ext h1 h2/\zB t 8=I i/\i<=L.length/\WE (r<n\/n+zN (L.take i)<=r)) 0 ?_ ?_
 ·exact⟨Ext.refl _,U6,QK _,⟨by rw[Q5,show zN []=0 from rfl];omega⟩⟩
 rintro i t h2 hsame ⟨e2,s8,hi,hno⟩;have o2:=o1.ext e2;have sf2:=Wd.ext E1.sf e2;have sb2:=Wi.ext sb e2;have pc2:=(px _ e2).1;refine go ?_;refine VE (fun hc=> ?_) (fun hc=> ?_)<;>simp only[DB]at hc;case refine_2=>
  have hii:i=L.length:=by omega
  subst hii;have hno:=hno.out;rw[Qk]at hno;have hp:Zz n L r=(-1,r):=by unfold Zz;rw[QC (by omega)]
  rw[hp];refine gr ?_;exact⟨rfl,e1.trans e2⟩
 have hi':i<L.length:=by omega
 have hil:=hI.out _ (zG (l:=L) hi');have hmt:=zEf L hi';refine go ?_;refine VD (fun k=>(L.getD i default).ins.length-k) (fun k t h3=>Ext h1 h3/\zB t 9=I k/\k<=(L.getD i default).ins.length/\WE (r<n\/n+zN (L.take i)+k<=r)) 0 ?_ ?_
 ·exact⟨e2,U6,QK _,⟨by have:=hno.out;omega⟩⟩
 rintro k t3 h3 hsame3 ⟨e3,s9,hk,hno3⟩;have o3:=o1.ext e3;have E3:=E1.ext e3;have sf3:=E3.sf;have sb3:=Wi.ext sb e3;have pc3:=(px _ e3).1;obtain⟨csB,⟨vi,rfl,si,hli⟩,pcB,hsB⟩:=zb sb3 hi';obtain⟨ia,iN,ik,rfl⟩:=zD si;refine go ?_;refine VE (fun hd=> ?_) (fun hd=> ?_)<;>simp only[DB]at hd;case refine_2=>
  have hkk:k=(L.getD i default).ins.length:=by omega
  refine go ?_;refine zA (i+1) (by omega) ⟨e3,Wc,by omega,⟨?_⟩⟩;have:=hno3.out;rw[hmt];omega
 have hk':k<(L.getD i default).ins.length:=by omega
 refine go ?_;refine VA (num.out i (k:Int) h3 E3 hi' (by omega)) ?_;rintro _ h4 ⟨rfl,e4⟩;have e14:=e3.trans e4;have hno3:=hno3.out;by_cases he:n+zN (L.take i)+(k:Int)=r
 ·have hp:Zz n L r=((i:Int),(k:Int)):=by
   have hmp:=zAI (L.take i);have hle:zN (L.take (i+1))<=zN L:=by
    have:zN L=zN (L.take (i+1))+zN (L.drop (i+1)):=by
     conv=>lhs;rw[<-GN (i+1) L]
     unfold zN;rw[GB,G5]
    have:=zAI (L.drop (i+1));omega
   unfold Zz;rw[QF (by rw[hmt]at hle;omega),show r-n=zN (L.take i)+(k:Int) by omega];exact zLM hi' (by omega) (by omega)
  rw[hp];refine gr ?_;exact⟨rfl,e1.trans e14⟩
 ·refine go ?_;exact zA (k+1) (by omega) ⟨e14,Wc,by omega,⟨by omega⟩⟩
end Go.Proofs.YtfnndahpddkniaaGreatDoor
set_option maxRecDepth 100000
namespace Go.Proofs.YtfnndahpddkniaaGreatDoor
open Go.Am
theorem zNV{T:List U2}{F:List WM}{f r:Int}(h:(zz T F f).2=0):yx T F f r=if r<0\/((T.getD (F.getD f.toNat default).sig.toNat default).parts.length:Int)+zN (F.getD f.toNat default).blocks<=r then(0,0,2)
  else((Zz ((T.getD (F.getD f.toNat default).sig.toNat default).parts.length:Int) (F.getD f.toNat default).blocks r).1,(Zz ((T.getD (F.getD f.toNat default).sig.toNat default).parts.length:Int) (F.getD f.toNat default).blocks r).2,0):=by
 have hn:=(zEE h).2.2.2;unfold yx Zz;rw[QC (fun e=>e h),hn];simp only;split
 ·rfl
 ·rename_i h1;split
  ·rename_i h2;rw[QC (by omega)]
  ·rename_i h2;rw[QF (by omega)]
theorem zG3(h:U0)(vt vf:Value)(T:List U2)(F:List WM)(f r block at':Int)(E:En h vt vf T F)(hp:(yx T F f r).2.2=0)(ha:YN T F f block=0):
  WC Tryz.prog tb 159 [.agg #[vt,vf],I f,I r,I block,I at'] h fun q h'=>(∃ bb,q=.bool bb/\(bb=true↔zOJ T F f r block at'))/\Ext h h':=by
 obtain⟨hask,hpin⟩:=zLH hp;have hin:=zEE hask;have hsig:=zPa hask;have hF:=E.sm.funcs;have hf:0<=f/\f<(F.length:Int):=⟨hin.1,hin.2.1⟩;have hpl:=zNV (r:=r) hask;have hpl2:(yx T F f r).1=(Zz ((T.getD (F.getD f.toNat default).sig.toNat default).parts.length:Int) (F.getD f.toNat default).blocks r).1/\(yx T F f r).2.1=(Zz ((T.getD (F.getD f.toNat default).sig.toNat default).parts.length:Int) (F.getD f.toNat default).blocks r).2:=by
  rw[hpl]at hp |-;split at hp
  ·cases hp
  ·rename_i h1;rw[QC h1];exact⟨rfl,rfl⟩
 obtain⟨hz,wb⟩:=zJt ha;have hbb:=zPM hz wb;obtain⟨h1z,h2z,hzb,h4z⟩:=ZA hz;obtain⟨hlen,hnx⟩:=ZP hz;have hrd:=WE.mk (zKr (a:=(yx T F f r).1) wb);unfold zOJ;unfold nxF at hrd |-;rw[hzb]at hlen hnx hbb hrd |-;rw[hpl2.1]at hpin hrd |-;rw[hpl2.2]at hpin |-;clear hpl hpl2 hp hzb h2z;obtain⟨ta,tn,tk,rfl⟩:=zD E.st;obtain⟨ga,gn,gk,rfl⟩:=zD E.sf;refine en ?_;refine VF ?_;intro p h1 e1 o1;have E1:=E.ext e1;refine go ?_;refine VA (zG4 h1 _ _ T F f r E1 hf hsig) ?_;rintro _ h2 ⟨rfl,e2⟩;have o1:=o1.ext e2;have e02:=e1.trans e2;have E2:=E1.ext e2;have sf2:=E2.sf;obtain⟨csF,⟨vb,rfl,sb,hlb⟩,pcF,hsF⟩:=zb (i:=f.toNat) sf2 (by omega);obtain⟨_,_,_,rfl⟩:=zD sb;generalize(Zz ((T.getD (F.getD f.toNat default).sig.toNat default).parts.length:Int) (F.getD f.toNat default).blocks r).1=pb at *;generalize(Zz ((T.getD (F.getD f.toNat default).sig.toNat default).parts.length:Int) (F.getD f.toNat default).blocks r).2=pn at *;generalize(F.getD f.toNat default).blocks=L at *;by_cases c1:pb= -1
 ·refine gr ?_;exact⟨⟨_,rfl,by simp[c1]⟩,e02⟩
 have hpb:0<=pb/\pb<(L.length:Int):=by
  rcases hpin with h|h
  ·exact absurd h c1
  ·exact⟨h.1,h.2.1⟩
 by_cases c2:pb=block
 ·refine gr ?_;refine⟨⟨_,rfl,?_⟩,e02⟩;rw[GZ];exact⟨fun h=> .inr (.inl ⟨c2,h⟩),fun h=>by
   rcases h with h|h|h
   ·exact absurd h c1
   ·exact h.2
   ·exact absurd c2 h.2.1⟩
 ·refine go ?_;refine VA (zNN h2 _ L pb block E2.hm sb hlen hpb hbb hnx) ?_;rintro _ h3 ⟨⟨q,rfl,hq⟩,e3⟩;refine gr ?_;refine⟨⟨_,rfl,?_⟩,e02.trans e3⟩;rw[hq,hrd.out];exact⟨fun h=> .inr (.inr ⟨c1,c2,h⟩),fun h=>by
   rcases h with h|h|h
   ·exact absurd h c1
   ·exact absurd h.1 c2
   ·exact h.2.2⟩
end Go.Proofs.YtfnndahpddkniaaGreatDoor
set_option maxRecDepth 100000
namespace Go.Proofs.YtfnndahpddkniaaGreatDoor
open Go.Am
theorem zCg{T:List U2}{k t:Int}(h:t≠ -1):Wh T k t=decide ((T.getD t.toNat default).kind=k):=by unfold Wh;rw[QT h,Qd]
section
variable {vt vf:Value}{T:List U2}{F:List WM}
theorem En.go{h X:U0}(E:En h vt vf T F)(e:Ext h X):En (Am.inC X) vt vf T F:=let E':=E.ext e;⟨E'.tt,QE _,E'.sm,E'.si,E'.st,E'.sf⟩
theorem En.lenT{h:U0}(E:En h vt vf T F):(T.length:Int)<=1000:=by have:=E.sm.types;omega
theorem yy(h:U0)(t k:Int)(E:En h vt vf T F)(ht:Wu T t):WC Tryz.prog tb 67 [.agg #[vt,vf],I t,.int .u8 k] h fun r h'=>r=.bool (Wh T k t)/\Ext h h':=by
 refine en ?_;refine VF ?_;intro p h1 e1 o1;replace o1:U1 h h1 p [vt,vf]:=o1;have st:=(E.ext e1).st;by_cases h1:t= -1
 ·subst h1;refine gr ?_;exact⟨rfl,e1⟩
 ·obtain⟨t0,t1⟩:=ht.resolve_left h1;obtain⟨cs,⟨va,rfl,sa,hla⟩,pc,hs⟩:=yH (i:=t.toNat) st (by omega);rw[zCg h1];refine gr ?_;exact⟨rfl,e1⟩
theorem zJp(h:U0)(t:Int)(E:En h vt vf T F)(ht:Wu T t):WC Tryz.prog tb 189 [.agg #[vt,vf],I t] h fun r h'=>r=I (BK T t)/\Ext h h':=by
 unfold BK;refine en ?_;refine VF ?_;intro p h1 e1 o1;replace o1:U1 h h1 p [vt,vf]:=o1;have E1:=E.ext e1;refine go ?_;refine VA (yy h1 t 2 E1 ht) ?_;rintro _ h2 ⟨rfl,e2⟩;have o2:=o1.ext e2;have st:=(E1.ext e2).st;cases c:Wh T 2 t with
 |false=>
  refine gr ?_;exact⟨rfl,e1.trans e2⟩
 |true=>
  obtain⟨t0,t1⟩:=ht.resolve_left (zAj c);obtain⟨cs,⟨va,rfl,sa,hla⟩,pc,hs⟩:=yH (i:=t.toNat) st (by omega);refine gr ?_;exact⟨rfl,e1.trans e2⟩
theorem zFH(h:U0)(t to:Int)(E:En h vt vf T F)(ht:Wu T t)(hto:Wu T to):WC Tryz.prog tb 190 [.agg #[vt,vf],I t,I to] h fun r h'=>r=.bool (decide (to≠ -1)&&decide (BK T t=to))/\Ext h h':=by
 refine en ?_;refine VF ?_;intro p h1 e1 o1;replace o1:U1 h h1 p [vt,vf]:=o1;have E1:=E.ext e1;by_cases c:to= -1
 ·subst c;refine gr ?_;exact⟨rfl,e1⟩
 ·have c0:=(hto.resolve_left c).1;refine go ?_;refine VA (zJp h1 t E1 ht) ?_;rintro _ h2 ⟨rfl,e2⟩;refine gr ?_;exact⟨by rw[QT c,Qd];rfl,e1.trans e2⟩
theorem zEW(h:U0)(t:Int)(E:En h vt vf T F)(ht:Wu T t):WC Tryz.prog tb 157 [.agg #[vt,vf],I t] h fun r h'=>r=.bool (zBq T t)/\Ext h h':=by
 refine en ?_;refine VF ?_;intro p h1 e1 o1;replace o1:U1 h h1 p [vt,vf]:=o1;have E1:=E.ext e1;by_cases c:t= -1
 ·subst c;refine gr ?_;exact⟨rfl,e1⟩
 ·have c0:=(ht.resolve_left c).1;refine go ?_;refine VA (zCi h1 vt T t E1.st E1.lenT) ?_;rintro _ h2 ⟨⟨b,rfl,hb⟩,rfl⟩;refine gr ?_;refine⟨?_,e1⟩;have:=zOa ht;show Value.bool _=_;congr 1;cases b<;>cases hs:zBq T t<;>simp_all
theorem zDL(h:U0)(sig t:Int)(v:Value)(l:List Int)(E:En h vt vf T F)(hs:Wu T sig)(s:WJ h v l)(hl:l.length<=1000):WC Tryz.prog tb 156 [.agg #[vt,vf],I sig,v,I t] h fun r h'=>r=.bool (zC9 T sig l t)/\Ext h h':=by
 unfold zC9;refine en ?_;refine VF ?_;intro p h1 e1 o1;replace o1:U1 h h1 p [vt,vf]:=o1;have E1:=E.ext e1;refine go ?_;refine VA (yy h1 sig 3 E1 hs) ?_;rintro _ h2 ⟨rfl,e2⟩;have o2:=o1.ext e2;have E2:=E1.ext e2;have st:=E2.st;cases c:Wh T 3 sig with
 |false=>
  refine gr ?_;exact⟨rfl,e1.trans e2⟩
 |true=>
  obtain⟨t0,t1⟩:=hs.resolve_left (zAj c);obtain⟨cs,⟨va,rfl,sa,hla⟩,pc,hs⟩:=yH (i:=sig.toNat) st (by omega);have hpl:=E.sm.parts _ (zG (l:=T) (i:=sig.toNat) (by omega));refine go ?_;refine VA (Y3 h2 va v _ l sa (s.ext (e1.trans e2)) (by omega)) ?_;rintro _ _ ⟨rfl,rfl⟩;cases c2:decide ((T.getD sig.toNat default).parts=l)with
  |false=>
   refine gr ?_;exact⟨rfl,e1.trans e2⟩
  |true=>
   refine gr ?_;exact⟨rfl,e1.trans e2⟩
theorem zLO(h:U0)(x:U2)(cs:List Value)(n:Int)(r:RTy h cs x)(hk:x.kind=4)(hn:0<=n):WC Tryz.prog tb 191 [.agg cs.toArray,I n] h fun r h'=>r=I (if n<(x.parts.length:Int)then x.parts.getD n.toNat 0 else -1)/\Ext h h':=by
 obtain⟨va,rfl,sa,hla⟩:=r;obtain⟨a1,a2,a3,rfl⟩:=WW.shape sa;refine en ?_;refine VF ?_;intro p h1 e1 o1;replace o1:U1 h h1 p [.int .u8 x.kind,I x.elem,I x.many,.slice a1 a2 a3]:=o1;have sa1:=WJ.ext sa e1;by_cases c:n<(x.parts.length:Int)
 ·rw[QF c];refine gr ?_;exact⟨rfl,e1⟩
 ·rw[QC c];have k5:¬x.kind=5:=by omega
  refine gr ?_;exact⟨rfl,e1⟩
end
end Go.Proofs.YtfnndahpddkniaaGreatDoor
set_option maxRecDepth 100000
namespace Go.Proofs.YtfnndahpddkniaaGreatDoor
open Go.Am
theorem zPd{T:List U2}{s n:Int}(h:Wh T 4 s=true):Zu T s n=if n<((T.getD s.toNat default).parts.length:Int)then(T.getD s.toNat default).parts.getD n.toNat 0 else -1:=by
 have h1:=zAj h;have hk:(T.getD s.toNat default).kind=4:=by rw[zCg h1]at h;simpa using h
 have h5:Wh T 5 s=false:=by rw[zCg h1,hk];rfl
 unfold Zu;rw[QC h1,h,h5,Qd];simp only[Qc,QZ,GX]
theorem zPq{T:List U2}{s n:Int}(h:Wh T 5 s=true):Zu T s n=(T.getD s.toNat default).elem:=by
 have h1:=zAj h;have hk:(T.getD s.toNat default).kind=5:=by rw[zCg h1]at h;simpa using h
 have h4:Wh T 4 s=false:=by rw[zCg h1,hk];rfl
 unfold Zu;rw[QC h1,h4,h,Qf];rfl
section
variable {vt vf:Value}{T:List U2}{F:List WM}
theorem zHV(h:U0)(x:WY)(cs:List Value)(v:Value)(l:List Int)(E:En h vt vf T F)(hc:yQ T=0)(hR:Wt h cs x)(s:WJ h v l)(hl:l.length<=1000)(hin:∀ t∈l,Wu T t)(hty:Wu T x.ty)(hop:x.op=14\/x.op=15\/x.op=16\/x.op=17)(hn:x.op=14->0<=x.n)(h1:1<=l.length)(h2:x.op=15\/x.op=17->2<=l.length):
  WC Tryz.prog tb 155 [.agg #[vt,vf],.agg cs.toArray,v] h fun r h'=>r=.bool (zJF T x l)/\Ext h h':=by
 obtain⟨xa,xf,rfl,sxa,sxf,hla,hlf,ho⟩:=hR;obtain⟨a1,a2,a3,rfl⟩:=WW.shape sxa;obtain⟨f1,f2,f3,rfl⟩:=WW.shape sxf;obtain⟨b1,b2,b3,rfl⟩:=WW.shape s;have ht0:=YD hin (show 0<l.length by omega);have hs0:=zEa hc ht0;have hpc:∀ n,0<=n->Wu T (Zu T (BK T (l.getD 0 0)) n):=fun n hn=>zFX hc hs0 hn;unfold zJF zHa;generalize hsd:BK T (l.getD 0 0)=sd at *;refine en ?_;refine VF ?_;intro p3 h3 e3 o3;replace o3:U1 h h3 p3 [vt,vf]:=o3;refine go ?_;refine VF ?_;intro p4 h4 e4 o4;replace o4:U1 h3 h4 p4 [.int .u8 x.op,I x.ty,I x.a,I x.b,I x.n,.slice a1 a2 a3,.slice f1 f2 f3]:=o4;have E4:=E.ext (e3.trans e4);have o34:=o3.ext e4;have s4:=s.ext (e3.trans e4);refine go ?_;refine VC 0 rfl rfl ?_;have o34X:=VG (o34.ext (zI 0 h4));have s4X:=VM (s4.ext (zI 0 h4));refine U9 ?_;refine VA (zJp _ _ E4.inC ht0) ?_;rintro _ X5 ⟨rfl,e5⟩;rw[hsd];refine nE e5 ?_;have e5'0:=(zI 0 h4).trans (zV (h:=h4) e5);have e5':Ext h4 (outC h4 (inC X5)):=e5'0;refine U9 ?_;generalize outC h4 (inC X5)=h5 at *;have E5:=E4.ext e5';have o35:=o34.ext e5';have o45:=o4.ext e5';have s5:=s4.ext e5';have e05:=(e3.trans e4).trans e5';clear o34X s4X;have o35X:=VG (o35.ext (zI 0 h5));have o45X:=VG (o45.ext (zI 0 h5));have s5X:=VM (s5.ext (zI 0 h5));have ea:=zI 0 h5;by_cases c14:x.op=14
 ·rw[QF c14];refine go ?_;refine VC 0 rfl rfl ?_;refine U9 ?_;refine VA (yy _ sd 4 E5.inC hs0) ?_;rintro _ X6 ⟨rfl,e6⟩;refine nE e6 ?_;have e6':=ea.trans (zV (h:=h5) e6);cases c4:Wh T 4 sd with
  |false=>
   refine U9 ?_;refine zBJ ZT ?_;refine BM ?_;exact⟨rfl,e05.trans e6'⟩
  |true=>
   obtain⟨t0,t1⟩:=hs0.resolve_left (zAj c4);have E6:=E5.inC.go e6;have o36:=VG (o35X.ext e6);have o46:=VG (o45X.ext e6);have st6:=E6.st;obtain⟨ct,rT,pc,hs⟩:=yH (i:=sd.toNat) st6 (by omega);have hk4:(T.getD sd.toNat default).kind=4:=by rw[zCg (zAj c4)]at c4;simpa using c4
   have hP:=zLO (inC X6) _ ct x.n rT hk4 (hn c14);obtain⟨va,rfl,sa,hla⟩:=rT;obtain⟨va1,va2,va3,rfl⟩:=WW.shape sa;have hp0:=hpc x.n (hn c14);rw[zPd c4]at hp0 |-;refine U9 ?_;refine VA hP ?_;rintro _ X7 ⟨rfl,e7⟩;refine nE e7 ?_;have e7':=e6'.trans (zV (h:=h5) e7);generalize(if x.n<((T.getD sd.toNat default).parts.length:Int)then(T.getD sd.toNat default).parts.getD x.n.toNat 0 else -1)=to at *;refine U9 ?_;refine VA (zFH _ x.ty to (E6.go e7) hty hp0) ?_;rintro _ X8 ⟨rfl,e8⟩;refine nE e8 ?_;have e8':=e7'.trans (zV (h:=h5) e8);refine BM ?_;exact⟨rfl,e05.trans e8'⟩
 rw[QC c14];refine go ?_;by_cases c15:x.op=15
 ·have h2:=h2 (.inl c15);have ht1:=YD hin (show 1<l.length by omega);rw[QF c15];refine go ?_;refine VC 0 rfl rfl ?_;refine U9 ?_;refine VA (yy _ sd 5 E5.inC hs0) ?_;rintro _ X6 ⟨rfl,e6⟩;refine nE e6 ?_;have e6':=ea.trans (zV (h:=h5) e6);cases c5:Wh T 5 sd with
  |false=>
   refine BM ?_;exact⟨rfl,e05.trans e6'⟩
  |true=>
   obtain⟨t0,t1⟩:=hs0.resolve_left (zAj c5);have E6:=E5.inC.go e6;have o36:=VG (o35X.ext e6);have s6:=VM (s5X.ext e6);refine U9 ?_;refine VA (yy _ (l.getD 1 0) 1 E6 ht1) ?_;rintro _ X7 ⟨rfl,e7⟩;refine nE e7 ?_;have e7':=e6'.trans (zV (h:=h5) e7);cases c1:Wh T 1 (l.getD 1 0)with
   |false=>
    refine BM ?_;exact⟨rfl,e05.trans e7'⟩
   |true=>
    have E7:=E6.go e7;have o37:=VG (U1.ext o36 e7);have o47:=VG (U1.ext (VG (o45X.ext e6)) e7);have st7:=E7.st;obtain⟨ct,⟨va,rfl,sa,hla⟩,pc,hs⟩:=yH (i:=sd.toNat) st7 (by omega);have hp0:=hpc 0 (Qe 0);rw[zPq c5]at hp0 |-;refine U9 ?_;refine VA (zFH _ x.ty (T.getD sd.toNat default).elem E7 hty hp0) ?_;rintro _ X8 ⟨rfl,e8⟩;refine nE e8 ?_;have e8':=e7'.trans (zV (h:=h5) e8);refine BM ?_;exact⟨rfl,e05.trans e8'⟩
 rw[QC c15];refine go ?_;by_cases c16:x.op=16
 ·rw[QF c16];refine go ?_;refine VA (zEW h5 sd E5 hs0) ?_;rintro _ h6 ⟨rfl,e6⟩;have o46:=o45.ext e6;cases c6:zBq T sd with
  |false=>
   refine gr ?_;exact⟨rfl,e05.trans e6⟩
  |true=>
   refine gr ?_;exact⟨rfl,e05.trans e6⟩
 ·rw[QC c16];have h2:=h2 (.inr (by omega));refine go ?_;refine VA (zEW h5 sd E5 hs0) ?_;rintro _ h6 ⟨rfl,e6⟩;have s6:=s5.ext e6;cases c6:zBq T sd with
  |false=>
   refine gr ?_;exact⟨rfl,e05.trans e6⟩
  |true=>
   refine gr ?_;exact⟨rfl,e05.trans e6⟩
end
end Go.Proofs.YtfnndahpddkniaaGreatDoor
set_option maxRecDepth 100000
namespace Go.Proofs.YtfnndahpddkniaaGreatDoor
open Go.Am
theorem zPO{T:List U2}{F:List WM}{f:WM}{x:WY}(h:Bo x (Bq T F.length f)=true):((x.op=1\/x.op=20)->(yJ x).length=0)/\((4<=x.op/\x.op<=10)->(yJ x).length=2)/\((x.op=13\/x.op=21)->(yJ x).length=1):=by
 have ho:=zI7 h;have m:=(zA2 (by omega)).1 h;have ha:=YR (op:=x.op) (by omega);obtain⟨h2,h1,hg,_⟩:=ha;have b1:∀ {b:Bool} {p:Prop},(b=true↔p)->¬p->b=false:=fun {b p} h hn=>by cases b;rfl;exact absurd (h.1 rfl) hn
 unfold yJ;refine⟨fun e=> ?_,fun e=> ?_,fun e=> ?_⟩
 ·rw[b1 h1 (by unfold zBf zBa;omega),b1 h2 (by unfold zBa;omega),b1 hg (by unfold zBb;omega)];rfl
 ·rw[h1.2 (by unfold zBf zBa;omega),h2.2 (by unfold zBa;omega),b1 hg (by unfold zBb;omega)];rfl
 ·rw[h1.2 (by unfold zBf zBa;omega),b1 h2 (by unfold zBa;omega),b1 hg (by unfold zBb;omega)];rfl
theorem zMD{T:List U2}{k:Int}{l:List Int}(h:l.length=0):isL T k l=true:=by rw[Gs h];rfl
theorem zNE{T:List U2}{k:Int}{l:List Int}(h:l.length=1):isL T k l=Wh T k (l.getD 0 0):=by
 match l,h with
 |[a],_=>simp[isL]
theorem zOi{T:List U2}{k:Int}{l:List Int}(h:l.length=2):isL T k l=(Wh T k (l.getD 0 0)&&Wh T k (l.getD 1 0)):=by
 match l,h with
 |[a,b],_=>simp[isL]
section
variable {vt vf:Value}{T:List U2}{F:List WM}
theorem zMM(h:U0)(x:WY)(cs:List Value)(v:Value)(l:List Int)(E:En h vt vf T F)(hc:yQ T=0)(hR:Wt h cs x)(s:WJ h v l)(hl:l.length<=1000)(hin:∀ t∈l,Wu T t)(hty:Wu T x.ty)(hop:1<=x.op/\x.op<=22)
  (hF:∀ f∈F,Wu T f.sig) (hn:x.op=14->0<=x.n) (hn2:x.op=3\/x.op=18->0<=x.n/\x.n<(F.length:Int)) (h1:(x.op=14\/x.op=15\/x.op=16\/x.op=17\/x.op=19)->1<=l.length) (h2:x.op=15\/x.op=17->2<=l.length)
  (l0:x.op=1\/x.op=20->l.length=0) (l2:4<=x.op/\x.op<=10->l.length=2) (l1:x.op=13\/x.op=21->l.length=1) (hg:(x.op=1\/x.op=20)\/x.op=2\/x.op=3\/x.op=10\/x.op=19\/x.op=22):
  WC Tryz.prog tb 116 [.agg #[vt,vf],.agg cs.toArray,v] h fun r h'=>r=.bool (z9 T F x l)/\Ext h h':=by
 replace hin:=WE.mk hin;replace hF:=WE.mk hF;replace hn2:=WE.mk hn2;replace hn:=WE.mk hn;replace h1:=WE.mk h1;replace h2:=WE.mk h2;replace l0:=WE.mk l0;replace l2:=WE.mk l2;replace l1:=WE.mk l1;obtain⟨xa,xf,rfl,sxa,sxf,hla,hlf,ho⟩:=id hR;obtain⟨a1,a2,a3,rfl⟩:=WW.shape sxa;obtain⟨f1,f2,f3,rfl⟩:=WW.shape sxf;obtain⟨b1,b2,b3,rfl⟩:=WW.shape s;refine en ?_;refine VF ?_;intro p3 h3 e3 o3;replace o3:U1 h h3 p3 [vt,vf]:=o3;refine go ?_;refine VF ?_;intro p4 h4 e4 o4;replace o4:U1 h3 h4 p4 [.int .u8 x.op,I x.ty,I x.a,I x.b,I x.n,.slice a1 a2 a3,.slice f1 f2 f3]:=o4;have E4:=E.ext (e3.trans e4);have o34:=o3.ext e4;have e04:=e3.trans e4;have s4:=s.ext e04;have R4:=hR.ext e04;have ea:=zI 0 h4;have o34X:=VG (o34.ext ea);have o4X:=VG (o4.ext ea);have s4X:=VM (s4.ext ea);have sf4X:=E4.inC.sf;rcases hg with cA|c2|c3|c10|c19|c22
 ·have hr:z9 T F x l=Wh T 1 x.ty:=by unfold z9;rcases cA with c|c<;>simp[c,zMD (l0.out (by omega))]
  rw[hr];rcases cA with c|c;all_goals
   refine go ?_
   refine VA (yy h4 x.ty 1 E4 hty) ?_
   rintro _ h5 ⟨rfl,e5⟩
   refine gr ?_
   exact⟨rfl,e04.trans e5⟩
 ·have hr:z9 T F x l=(Wh T 2 x.ty||Wh T 3 x.ty):=by unfold z9;simp[c2]
  rw[hr];refine go ?_;refine VA (yy h4 x.ty 2 E4 hty) ?_;rintro _ h5 ⟨rfl,e5⟩;have o35:=o34.ext e5;have o45:=o4.ext e5;cases k:Wh T 2 x.ty with
  |true=>
   refine gr ?_;exact⟨rfl,e04.trans e5⟩
  |false=>
   refine go ?_;refine VA (yy h5 x.ty 3 (E4.ext e5) hty) ?_;rintro _ h6 ⟨rfl,e6⟩;refine gr ?_;exact⟨rfl,e04.trans (e5.trans e6)⟩
 ·have hr:z9 T F x l=decide (x.ty=sigF F x.n):=by unfold z9;simp[c3]
  rw[hr];obtain⟨n0,n1⟩:=hn2.out (.inl c3);have sf4:=E4.sf;obtain⟨csF,⟨vb,rfl,sb,hlb⟩,pcF,hsF⟩:=zb (i:=x.n.toNat) sf4 (by omega);refine gr ?_;exact⟨rfl,e04⟩
 ·have hll:=l2.out (by omega);have ht0:=YD hin.out (show 0<l.length by omega);have ht1:=YD hin.out (show 1<l.length by omega);have hr:z9 T F x l=(Wh T 2 (l.getD 0 0)&&decide (l.getD 0 0=l.getD 1 0)&&Wh T 1 x.ty):=by
   unfold z9;by_cases q:l.getD 0 0=l.getD 1 0
   ·rw[QC (by omega),QC (by omega),QF c10,zOi hll,<-q,Qt]
   ·rw[QC (by omega),QC (by omega),QF c10,QQ q];simp
  rw[hr];refine go ?_;refine VC 0 rfl rfl ?_;refine U9 ?_;refine VA (yy _ (l.getD 0 0) 2 E4.inC ht0) ?_;rintro _ X5 ⟨rfl,e5⟩;refine nE e5 ?_;have e5':=ea.trans (zV (h:=h4) e5);cases k0:Wh T 2 (l.getD 0 0)with
  |false=>
   refine BM ?_;exact⟨rfl,e04.trans e5'⟩
  |true=>
   have E5:=E4.inC.go e5;have o35:=VG (o34X.ext e5);have o45:=VG (o4X.ext e5);have s5:=VM (s4X.ext e5);by_cases q:l.getD 0 0=l.getD 1 0
   ·rw[QT q];refine U9 ?_;refine VA (yy _ x.ty 1 E5 hty) ?_;rintro _ X6 ⟨rfl,e6⟩;refine nE e6 ?_;have e6':=e5'.trans (zV (h:=h4) e6);refine BM ?_;exact⟨rfl,e04.trans e6'⟩
   ·rw[QQ q];refine BM ?_;exact⟨rfl,e04.trans e5'⟩
 ·have hr:z9 T F x l=zC9 T (l.getD 0 0) (l.drop 1) x.ty:=by unfold z9;simp[c19]
  rw[hr];have hl1:=h1.out (by omega);refine go ?_;refine VC 0 rfl rfl ?_;obtain⟨r,hsl,sr⟩:=zHo (i:=1) s4X (by omega) hl1;refine U9 ?_;refine Vi (i:=1) (hy:=rfl) hsl ?_;refine U9 ?_;refine VA (zDL _ (l.getD 0 0) x.ty _ (l.drop 1) E4.inC (YD hin.out (by omega)) sr (by simp;omega)) ?_;rintro _ X5 ⟨rfl,e5⟩;refine nE e5 ?_;have e5':=ea.trans (zV (h:=h4) e5);refine BM ?_;exact⟨rfl,e04.trans e5'⟩
 ·have hr:z9 T F x l=(zBq T x.ty&&l.all fun t=>decide (t=x.ty)):=by unfold z9;simp[c22]
  rw[hr];refine go ?_;refine VD (fun i=>l.length-i) (fun i t h'=>h4=h'/\zB t 7=I i/\i<=l.length/\WE (∀ j,j<i->l.getD j 0=x.ty)) 0 ?_ ?_
  ·exact⟨rfl,U6,QK _,⟨fun j hj=>absurd hj (Qh _)⟩⟩
  rintro i t h5 hsame ⟨rfl,s7,hi,hI⟩;refine go ?_;refine VE (fun hb=> ?_) (fun hb=> ?_)<;>simp only[DB]at hb
  ·have hi':i<l.length:=by omega
   refine go ?_;refine VE (fun hb=> ?_) (fun hb=> ?_)<;>simp only[DB]at hb
   ·refine gr ?_;refine⟨?_,e04⟩;have:l.all (fun t=>decide (t=x.ty))=false:=by
     rw[List.all_eq_false];exact⟨l.getD i 0,zO hi',by simpa using hb⟩
    rw[this,Qo];rfl
   ·refine go ?_;refine zA (i+1) (by omega) ⟨rfl,Wc,by omega,⟨fun j hj=> ?_⟩⟩;by_cases e:j=i
    ·subst e;exact hb
    ·exact hI.out j (by omega)
  ·have hii:i=l.length:=by omega
   subst hii;have:l.all (fun t=>decide (t=x.ty))=true:=by
    rw[QY];intro t ht;obtain⟨j,hj,rfl⟩:=JD ht;have:=hI.out j hj;rw[QH,QB hj]at this;simpa using this
   rw[this,Qs];refine go ?_;refine VA (zEW h4 x.ty E4 hty) ?_;rintro _ h6 ⟨rfl,e6⟩;refine gr ?_;exact⟨rfl,e04.trans e6⟩
theorem zMS(h:U0)(x:WY)(cs:List Value)(v:Value)(l:List Int)(E:En h vt vf T F)(hc:yQ T=0)(hR:Wt h cs x)(s:WJ h v l)(hl:l.length<=1000)(hin:∀ t∈l,Wu T t)(hty:Wu T x.ty)(hop:1<=x.op/\x.op<=22)
  (hF:∀ f∈F,Wu T f.sig) (hn:x.op=14->0<=x.n) (hn2:x.op=3\/x.op=18->0<=x.n/\x.n<(F.length:Int)) (h1:(x.op=14\/x.op=15\/x.op=16\/x.op=17\/x.op=19)->1<=l.length) (h2:x.op=15\/x.op=17->2<=l.length)
  (l0:x.op=1\/x.op=20->l.length=0) (l2:4<=x.op/\x.op<=10->l.length=2) (l1:x.op=13\/x.op=21->l.length=1) (hg:(x.op=4\/x.op=5\/x.op=6\/x.op=7\/x.op=8\/x.op=9)):
  WC Tryz.prog tb 116 [.agg #[vt,vf],.agg cs.toArray,v] h fun r h'=>r=.bool (z9 T F x l)/\Ext h h':=by
 replace hin:=WE.mk hin;replace hF:=WE.mk hF;replace hn2:=WE.mk hn2;replace hn:=WE.mk hn;replace h1:=WE.mk h1;replace h2:=WE.mk h2;replace l0:=WE.mk l0;replace l2:=WE.mk l2;replace l1:=WE.mk l1;obtain⟨xa,xf,rfl,sxa,sxf,hla,hlf,ho⟩:=id hR;obtain⟨a1,a2,a3,rfl⟩:=WW.shape sxa;obtain⟨f1,f2,f3,rfl⟩:=WW.shape sxf;obtain⟨b1,b2,b3,rfl⟩:=WW.shape s;refine en ?_;refine VF ?_;intro p3 h3 e3 o3;replace o3:U1 h h3 p3 [vt,vf]:=o3;refine go ?_;refine VF ?_;intro p4 h4 e4 o4;replace o4:U1 h3 h4 p4 [.int .u8 x.op,I x.ty,I x.a,I x.b,I x.n,.slice a1 a2 a3,.slice f1 f2 f3]:=o4;have E4:=E.ext (e3.trans e4);have o34:=o3.ext e4;have e04:=e3.trans e4;have s4:=s.ext e04;have R4:=hR.ext e04;have ea:=zI 0 h4;have o34X:=VG (o34.ext ea);have o4X:=VG (o4.ext ea);have s4X:=VM (s4.ext ea);have sf4X:=E4.inC.sf;have hx:=hg;have hll:=l2.out (by omega);have ht0:=YD hin.out (show 0<l.length by omega);have ht1:=YD hin.out (show 1<l.length by omega);have hr:z9 T F x l=(Wh T 1 (l.getD 0 0)&&Wh T 1 (l.getD 1 0)&&Wh T 1 x.ty):=by
  unfold z9;rcases hx with c|c|c|c|c|c<;>simp[c,zOi hll]
 rw[hr];rcases hx with c|c|c|c|c|c;all_goals
  refine go ?_
  refine VC 0 rfl rfl ?_
  refine U9 ?_
  refine VA (yy _ (l.getD 0 0) 1 E4.inC ht0) ?_
  rintro _ X5 ⟨rfl,e5⟩
  refine nE e5 ?_
  have e5':=ea.trans (zV (h:=h4) e5)
  cases k0:Wh T 1 (l.getD 0 0)with
  |false=>
   refine BM ?_;exact⟨rfl,e04.trans e5'⟩
  |true=>
   have E5:=E4.inC.go e5;have o35:=VG (o34X.ext e5);have o45:=VG (o4X.ext e5);have s5:=VM (s4X.ext e5);refine U9 ?_;refine VA (yy _ (l.getD 1 0) 1 E5 ht1) ?_;rintro _ X6 ⟨rfl,e6⟩;refine nE e6 ?_;have e6':=e5'.trans (zV (h:=h4) e6);cases k1:Wh T 1 (l.getD 1 0)with
   |false=>
    refine BM ?_;exact⟨rfl,e04.trans e6'⟩
   |true=>
    have E6:=E5.go e6;have o36:=VG (o35.ext e6);have o46:=VG (o45.ext e6);refine U9 ?_;refine VA (yy _ x.ty 1 E6 hty) ?_;rintro _ X7 ⟨rfl,e7⟩;refine nE e7 ?_;have e7':=e6'.trans (zV (h:=h4) e7);refine BM ?_;exact⟨rfl,e04.trans e7'⟩
theorem zNI(h:U0)(x:WY)(cs:List Value)(v:Value)(l:List Int)(E:En h vt vf T F)(hc:yQ T=0)(hR:Wt h cs x)(s:WJ h v l)(hl:l.length<=1000)(hin:∀ t∈l,Wu T t)(hty:Wu T x.ty)(hop:1<=x.op/\x.op<=22)
  (hF:∀ f∈F,Wu T f.sig) (hn:x.op=14->0<=x.n) (hn2:x.op=3\/x.op=18->0<=x.n/\x.n<(F.length:Int)) (h1:(x.op=14\/x.op=15\/x.op=16\/x.op=17\/x.op=19)->1<=l.length) (h2:x.op=15\/x.op=17->2<=l.length)
  (l0:x.op=1\/x.op=20->l.length=0) (l2:4<=x.op/\x.op<=10->l.length=2) (l1:x.op=13\/x.op=21->l.length=1) (hg:(x.op=11\/x.op=12)\/x.op=13\/x.op=21\/(x.op=14\/x.op=15\/x.op=16\/x.op=17)\/x.op=18):
  WC Tryz.prog tb 116 [.agg #[vt,vf],.agg cs.toArray,v] h fun r h'=>r=.bool (z9 T F x l)/\Ext h h':=by
 replace hin:=WE.mk hin;replace hF:=WE.mk hF;replace hn2:=WE.mk hn2;replace hn:=WE.mk hn;replace h1:=WE.mk h1;replace h2:=WE.mk h2;replace l0:=WE.mk l0;replace l2:=WE.mk l2;replace l1:=WE.mk l1;obtain⟨xa,xf,rfl,sxa,sxf,hla,hlf,ho⟩:=id hR;obtain⟨a1,a2,a3,rfl⟩:=WW.shape sxa;obtain⟨f1,f2,f3,rfl⟩:=WW.shape sxf;obtain⟨b1,b2,b3,rfl⟩:=WW.shape s;refine en ?_;refine VF ?_;intro p3 h3 e3 o3;replace o3:U1 h h3 p3 [vt,vf]:=o3;refine go ?_;refine VF ?_;intro p4 h4 e4 o4;replace o4:U1 h3 h4 p4 [.int .u8 x.op,I x.ty,I x.a,I x.b,I x.n,.slice a1 a2 a3,.slice f1 f2 f3]:=o4;have E4:=E.ext (e3.trans e4);have o34:=o3.ext e4;have e04:=e3.trans e4;have s4:=s.ext e04;have R4:=hR.ext e04;have ea:=zI 0 h4;have o34X:=VG (o34.ext ea);have o4X:=VG (o4.ext ea);have s4X:=VM (s4.ext ea);have sf4X:=E4.inC.sf;rcases hg with c11|c13|c21|c14|c18
 ·have hr:z9 T F x l=Wh T 2 x.ty:=by unfold z9;rcases c11 with c|c<;>simp[c]
  rw[hr];rcases c11 with c|c;all_goals
   refine go ?_
   refine VA (yy h4 x.ty 2 E4 hty) ?_
   rintro _ h5 ⟨rfl,e5⟩
   refine gr ?_
   exact⟨rfl,e04.trans e5⟩
 ·have hll:=l1.out (.inl c13);have ht0:=YD hin.out (show 0<l.length by omega);have hr:z9 T F x l=Wh T 2 (l.getD 0 0):=by unfold z9;simp[c13,zNE hll]
  rw[hr];refine go ?_;refine VC 0 rfl rfl ?_;refine U9 ?_;refine VA (yy _ (l.getD 0 0) 2 E4.inC ht0) ?_;rintro _ X5 ⟨rfl,e5⟩;refine nE e5 ?_;have e5':=ea.trans (zV (h:=h4) e5);refine BM ?_;exact⟨rfl,e04.trans e5'⟩
 ·have hll:=l1.out (.inr c21);have ht0:=YD hin.out (show 0<l.length by omega);have hr:z9 T F x l=Wh T 1 (l.getD 0 0):=by unfold z9;simp[c21,zNE hll]
  rw[hr];refine go ?_;refine VC 0 rfl rfl ?_;refine U9 ?_;refine VA (yy _ (l.getD 0 0) 1 E4.inC ht0) ?_;rintro _ X5 ⟨rfl,e5⟩;refine nE e5 ?_;have e5':=ea.trans (zV (h:=h4) e5);refine BM ?_;exact⟨rfl,e04.trans e5'⟩
 ·have hr:z9 T F x l=zJF T x l:=by unfold z9;rcases c14 with c|c|c|c<;>simp[c]
  rw[hr];have hm:=zHV h4 x _ _ l E4 hc R4 s4 hl hin.out hty c14 hn.out (h1.out (by omega)) h2.out;rcases c14 with c|c|c|c;all_goals
   refine go ?_
   refine VA hm ?_
   rintro _ h5 ⟨rfl,e5⟩
   refine gr ?_
   exact⟨rfl,e04.trans e5⟩
 ·have hr:z9 T F x l=zC9 T (sigF F x.n) l x.ty:=by unfold z9;simp[c18]
  rw[hr];obtain⟨n0,n1⟩:=hn2.out (.inr c18);obtain⟨csF,⟨vb,rfl,sb,hlb⟩,pcF,hsF⟩:=zb (i:=x.n.toNat) sf4X (by omega);refine go ?_;refine VC 0 rfl rfl ?_;refine U9 ?_;refine VA (zDL _ (F.getD x.n.toNat default).sig x.ty _ l E4.inC (hF.out _ (zG (by omega))) s4X hl) ?_;rintro _ X5 ⟨rfl,e5⟩;refine nE e5 ?_;have e5':=ea.trans (zV (h:=h4) e5);refine BM ?_;exact⟨rfl,e04.trans e5'⟩
theorem zIv(h:U0)(x:WY)(cs:List Value)(v:Value)(l:List Int)(E:En h vt vf T F)(hc:yQ T=0)(hR:Wt h cs x)(s:WJ h v l)(hl:l.length<=1000)(hin:∀ t∈l,Wu T t)(hty:Wu T x.ty)(hop:1<=x.op/\x.op<=22)
  (hF:∀ f∈F,Wu T f.sig) (hn:x.op=14->0<=x.n) (hn2:x.op=3\/x.op=18->0<=x.n/\x.n<(F.length:Int)) (h1:(x.op=14\/x.op=15\/x.op=16\/x.op=17\/x.op=19)->1<=l.length) (h2:x.op=15\/x.op=17->2<=l.length)
  (l0:x.op=1\/x.op=20->l.length=0) (l2:4<=x.op/\x.op<=10->l.length=2) (l1:x.op=13\/x.op=21->l.length=1):
  WC Tryz.prog tb 116 [.agg #[vt,vf],.agg cs.toArray,v] h fun r h'=>r=.bool (z9 T F x l)/\Ext h h':=by
 rcases(show((x.op=1\/x.op=20)\/x.op=2\/x.op=3\/x.op=10\/x.op=19\/x.op=22)\/((x.op=4\/x.op=5\/x.op=6\/x.op=7\/x.op=8\/x.op=9))\/((x.op=11\/x.op=12)\/x.op=13\/x.op=21\/(x.op=14\/x.op=15\/x.op=16\/x.op=17)\/x.op=18)from by omega)with c|c|c
 ·exact zMM h x cs v l E hc hR s hl hin hty hop hF hn hn2 h1 h2 l0 l2 l1 c
 ·exact zMS h x cs v l E hc hR s hl hin hty hop hF hn hn2 h1 h2 l0 l2 l1 c
 ·exact zNI h x cs v l E hc hR s hl hin hty hop hF hn hn2 h1 h2 l0 l2 l1 c
end
end Go.Proofs.YtfnndahpddkniaaGreatDoor
set_option maxRecDepth 100000
namespace Go.Proofs.YtfnndahpddkniaaGreatDoor
open Go.Am
section
variable {vt vf:Value}{T:List U2}{F:List WM}
theorem zJ4(h:U0)(f r:Int)(E:En h vt vf T F)(Z:FnIn T F f)(h0:0<=r)(h1:r<zB0 ((yD T F f).parts.length:Int) (zJ F f)):WC Tryz.prog tb 154 [.agg #[vt,vf],I f,I r] h fun q h'=>q=I ((W2 T F f).getD r.toNat 0)/\Ext h h':=by
 have hf:=Z.hf;have hsg:=Z.sig;have hF:=E.sm.funcs;have hT:=E.lenT;rw[zPT h0 h1];refine en ?_;refine VF ?_;intro p h2 e2 o2;replace o2:U1 h h2 p [vt,vf]:=o2;have E2:=E.ext e2;refine go ?_;refine VA (zG4 h2 vt vf T F f r E2 hf hsg) ?_;rintro _ h3 ⟨rfl,e3⟩;have o3:=o2.ext e3;have E3:=E2.ext e3;have e03:=e2.trans e3;have sf3:=E3.sf;have st3:=E3.st;obtain⟨cs,⟨vb,rfl,sb,hlb⟩,pc,hs⟩:=zb (i:=f.toNat) sf3 (by omega);obtain⟨cst,⟨vat,rfl,sat,hlat⟩,pct,hst⟩:=yH (i:=(F.getD f.toNat default).sig.toNat) st3 (by omega);unfold Zz;by_cases c:r<((yD T F f).parts.length:Int)
 ·have c':r<((T.getD (F.getD f.toNat default).sig.toNat default).parts.length:Int):=c;rw[QF c,QC (by omega)];refine gr ?_;exact⟨rfl,e03⟩
 ·have c':¬r<((T.getD (F.getD f.toNat default).sig.toNat default).parts.length:Int):=c;unfold zB0 at h1;have h1':r<((T.getD (F.getD f.toNat default).sig.toNat default).parts.length:Int)+zN (F.getD f.toNat default).blocks:=h1;rw[QC c,QF (by omega)];have hw:=zBQ (l:=zJ F f) (a:=r-((yD T F f).parts.length:Int)) (by omega) (by omega);have sb:Wi h3 vb (zJ F f):=sb;have hwb:zx (F.getD f.toNat default).blocks (r-((T.getD (F.getD f.toNat default).sig.toNat default).parts.length:Int))=zx (zJ F f) (r-((yD T F f).parts.length:Int)):=rfl;rw[hwb];generalize zx (zJ F f) (r-((yD T F f).parts.length:Int))=w at *;obtain⟨wb,wi⟩:=w;simp only at hw |-;obtain⟨csb,⟨vi,rfl,si,hli⟩,pcb,hsb⟩:=zb (i:=wb.toNat) sb (by omega);obtain⟨csi,⟨xa,xf,rfl,sxa,sxf,hla,hlf,ho⟩,pci,hsi⟩:=zb (i:=wi.toNat) si (by omega);obtain⟨a1,a2,a3,rfl⟩:=WW.shape sxa;obtain⟨f1,f2,f3,rfl⟩:=WW.shape sxf;generalize((zJ F f).getD wb.toNat default).ins.getD wi.toNat default=x at *;refine go ?_;refine VL ?_;intro p4 h4 e4 o4;refine go ?_;refine VH (cs:=[.int .u8 x.op,I x.ty,I x.a,I x.b,I x.n,.slice a1 a2 a3,.slice f1 f2 f3]) o4 e4 ?_;intro h5 e5 o5 u5;refine go ?_;refine VA (zAc h5 x.op ho.1) ?_;rintro _ _ ⟨rfl,rfl⟩;have hk:Yv x=if(zZ x.op).2.2.2.2.2 then x.ty else -1:=rfl;rw[hk];cases hb2:(zZ x.op).2.2.2.2.2 with
  |true=>
   refine gr ?_;exact⟨rfl,e03.trans e5⟩
  |false=>
   refine gr ?_;exact⟨rfl,e03.trans e5⟩
theorem zDo(h:U0)(f:Int)(v:Value)(l:List Int)(E:En h vt vf T F)(Z:FnIn T F f)(s:WJ h v l)(hl:l.length<=1000)(hin:∀ r∈l,0<=r/\r<((W2 T F f).length:Int)):
  WC Tryz.prog tb 114 [.agg #[vt,vf],I f,v] h fun q h'=>(∃ w,q=.tuple #[w,.bool (!decide ((-1:Int)∈yo (W2 T F f) l))]/\(¬(-1:Int)∈yo (W2 T F f) l->U7 h h' w (yo (W2 T F f) l))/\∃ a n k,w=.slice a n k)/\Ext h h':=by
 have hks:=WE.mk Z.ks;have hreg:=Z.reg;have hin:=WE.mk hin;refine en ?_;refine VF ?_;intro p h2 e2 o2;replace o2:U1 h h2 p [vt,vf]:=o2;have E2:=E.ext e2;have s2:=s.ext e2;refine go ?_;refine VD (fun i=>l.length-i) (fun i t h'=>Ext h2 h'/\zB t 9=I i/\i<=l.length/\WE (¬(-1:Int)∈(l.take i).map fun r=>(W2 T F f).getD r.toNat 0)/\∃ w,zB t 8=w/\U7 h2 h' w ((l.take i).map fun r=>(W2 T F f).getD r.toNat 0)) 0 ?_ ?_
 ·exact⟨Ext.refl _,U6,QK _,⟨by simp⟩,_,U6,.inl ⟨rfl,rfl⟩⟩
 rintro i t h3 hsame ⟨e3,s9,hi,hI,w,s8,ow⟩;have E3:=E2.ext e3;have o3:=o2.ext e3;have s3:=s2.ext e3;refine go ?_;refine VE (fun hb=> ?_) (fun hb=> ?_)<;>simp only[DB]at hb
 ·have hi':i<l.length:=by omega
  have hr:=hin.out _ (zO hi');have hsucc:(l.take (i+1)).map (fun r=>(W2 T F f).getD r.toNat 0)=(l.take i).map (fun r=>(W2 T F f).getD r.toNat 0)++[(W2 T F f).getD (l.getD i 0).toNat 0]:=by
   rw[Q4,QB hi',GB,show l.getD i 0=l[i] by rw[QH,QB hi'];rfl];rfl
  have o3X:=VG (o3.ext (zI 0 h3));have s3X:=VM (s3.ext (zI 0 h3));have hkin:=hks.out _ (zO (l:=W2 T F f) (i:=(l.getD i 0).toNat) (by omega));refine go ?_;refine VC 0 rfl rfl ?_;refine U9 ?_;refine VA (zJ4 _ f (l.getD i 0) E3.inC Z hr.1 (by omega)) ?_;rintro _ X4 ⟨rfl,e4⟩;refine nE e4 ?_;have e4':=(zI 0 h3).trans (zV (h:=h3) e4);have e4'':Ext h3 (outC h3 (inC X4)):=e4';obtain⟨k,hk⟩:∃ k,(W2 T F f).getD (l.getD i 0).toNat 0=k:=⟨_,rfl⟩;rw[hk]at hsucc hkin |-;refine U9 ?_;generalize outC h3 (inC X4)=h5 at *;have e5:=e3.trans e4'';by_cases hk1:k= -1
  ·subst hk1;have hm:(-1:Int)∈yo (W2 T F f) l:=by
    unfold yo;have:(-1:Int)∈(l.take (i+1)).map fun r=>(W2 T F f).getD r.toNat 0:=by rw[hsucc];simp
    obtain⟨r,hr,e⟩:=Q8.1 this;exact Q8.2 ⟨r,Qp hr,e⟩
   refine gr ?_;refine⟨⟨_,by rw[QT hm];rfl,fun hn=>absurd hm hn,⟨_,_,_,rfl⟩⟩,e2.trans e5⟩
  ·have hk0:=(hkin.resolve_left hk1).1;refine go ?_;refine WO.bl [k] ?_;intro v6 h6 e6 o6;refine go ?_;refine VO ((ow.ext e4'').ext e6) o6.sl (e5.trans e6) (by simp;omega) ?_;intro v7 h7 e7 o7;refine go ?_;refine zA (i+1) (by omega) ⟨e7,Wc,by omega,⟨?_⟩,v7,U6,by rw[hsucc];exact o7⟩;rw[hsucc];intro hm;rcases Qu.1 hm with hm|hm
   ·exact hI.out hm
   ·rw[Qb]at hm;exact hk1 hm.symm
 ·have hii:i=l.length:=by omega
  subst hii;rw[Qk]at ow hI;have hn:¬(-1:Int)∈yo (W2 T F f) l:=hI.out;refine gr ?_;refine⟨⟨w,by rw[QQ hn];rfl,fun _=>ow.since e2,WW.shape ow.sl⟩,e2.trans e3⟩
theorem zDM(h:U0)(f:Int)(v:Value)(l:List Int)(block at':Int)(E:En h vt vf T F)(hp:yu T F=0)(Z:FnIn T F f)(hw:WU (WZ (zJ F f)) 0 block)(hb:0<=block/\block<((zJ F f).length:Int))(s:WJ h v l)(hl:l.length<=1000)(hin:∀ r∈l,0<=r/\r<((W2 T F f).length:Int)):
  WC Tryz.prog tb 118 [.agg #[vt,vf],I f,v,I block,I at'] h fun q h'=>(∃ bb,q=.bool bb/\(bb=true↔∀ r∈l,zBx (WZ (zJ F f)) ((Bi T F f).getD r.toNat default) block at'))/\Ext h h':=by
 have hreg:=Z.reg;have hin:=WE.mk hin;have hb0:=Z.bl 0 (Qe 0) (by have:=Z.n1;omega);have hbe:(zF T F f 0).2=0:=by rw[hb0]
 have hask:YN T F f block=0:=by
  unfold YN;rw[QC (fun e=>e hbe),QC (by rw[hb0];show ¬(_\/((zJ F f).length:Int)<=_);omega),QF ((Zl hbe).2 (by rw[hb0];exact hw))]
 refine en ?_;refine VF ?_;intro p h2 e2 o2;replace o2:U1 h h2 p [vt,vf]:=o2;have E2:=E.ext e2;have s2:=s.ext e2;refine go ?_;refine VD (fun i=>l.length-i) (fun i t h'=>Ext h2 h'/\zB t 11=I i/\i<=l.length/\WE (∀ j,j<i->zBx (WZ (zJ F f)) ((Bi T F f).getD (l.getD j 0).toNat default) block at')) 0 ?_ ?_
 ·exact⟨Ext.refl _,U6,QK _,⟨fun j hj=>absurd hj (Qh _)⟩⟩
 rintro i t h3 hsame ⟨e3,s11,hi,hI⟩;have E3:=E2.ext e3;have o3:=o2.ext e3;have s3:=s2.ext e3;refine go ?_;refine VE (fun hb=> ?_) (fun hb=> ?_)<;>simp only[DB]at hb
 ·have hi':i<l.length:=by omega
  have hr:=hin.out _ (zO hi');have o3X:=VG (o3.ext (zI 0 h3));have s3X:=VM (s3.ext (zI 0 h3));obtain⟨hpl,hSB⟩:=zL8 (at':=at') hp Z hr.1 (by omega) (by assumption);refine go ?_;refine VC 0 rfl rfl ?_;refine U9 ?_;refine VA (zG3 _ vt vf T F f (l.getD i 0) block at' E3.inC hpl hask) ?_;rintro _ X4 ⟨⟨bb,rfl,hbb⟩,e4⟩;rw[hSB]at hbb;refine nE e4 ?_;have e4':=(zI 0 h3).trans (zV (h:=h3) e4);have e4'':Ext h3 (outC h3 (inC X4)):=e4';refine U9 ?_;cases bb with
  |false=>
   refine gr ?_;refine⟨⟨false,rfl,?_⟩,e2.trans (e3.trans e4'')⟩;simp only[QZ,Gl];exact fun hall=>absurd (hbb.2 (hall _ (zO hi'))) Bool.noConfusion
  |true=>
   refine go ?_;refine zA (i+1) (by omega) ⟨e3.trans e4'',Wc,by omega,⟨fun j hj=> ?_⟩⟩;by_cases e:j=i
   ·subst e;exact hbb.1 rfl
   ·exact hI.out j (by omega)
 ·have hii:i=l.length:=by omega
  refine gr ?_;refine⟨⟨true,rfl,?_⟩,e2.trans e3⟩;simp only[true_iff];intro r hr;obtain⟨j,hj,rfl⟩:=JD hr;have:=hI.out j (by omega);rw[show l.getD j 0=l[j] by rw[QH,QB hj];rfl]at this;exact this
end
end Go.Proofs.YtfnndahpddkniaaGreatDoor
