/- Walks of functions, plain laws; proves no statement. -/
import Derived.Test.YtndffgfnndoifaaGreatDoorJe
set_option linter.all false
set_option maxHeartbeats 2000000
set_option maxRecDepth 100000
namespace Go.Proofs.YtndffgfnndoifaaGreatDoor
open Go.Am
def zDk(h h':WA)(cs:List Value)(a:Int×Int)(r:RPl h cs a):RPl h' cs a:=r
structure FO(hB h:WA)(p:Value)(vt vf:Value)(f:Int)(ks:List Int)(ps:List (Int×Int))(rs:List Int)(vk vp vr:Value):Prop where
 own:WB hB h p [vt,vf,I f,vk,vp,vr]
 k:WP hB h vk ks
 q:WR 2 RPl hB.n h vp ps
 r:WP hB h vr rs
 kp:WY vk vp
 kr:WY vk vr
 pr:WY vp vr
 ok:WY p vk
 op:WY p vp
 or:WY p vr
 s:(∃ a n k,vk=.slice a n k)/\(∃ a n k,vp=.slice a n k)/\(∃ a n k,vr=.slice a n k)
section
variable {hB h h' h2:WA}{p vt vf:Value}{f:Int}{ks:List Int}{ps:List (Int×Int)}{rs:List Int}{vk vp vr v':Value}
def FO.ext(F:FO hB h p vt vf f ks ps rs vk vp vr)(e:WH h h'):FO hB h' p vt vf f ks ps rs vk vp vr:=⟨F.own.ext e,F.k.ext e,F.q.ext e,F.r.ext e,F.kp,F.kr,F.pr,F.ok,F.op,F.or,F.s⟩
def FO.putK{sU:List Int}(F:FO hB h p vt vf f ks ps rs vk vp vr)(u:Bm vk h h')(hn:hB.n<=h.n)(o:Wq h h' v' sU)(oc:WB hB h2 p [vt,vf,I f,v',vp,vr])(u2:Wo p h' h2):FO hB h2 p vt vf f sU ps rs v' vp vr:=by
 have hs:zB3 h v':=(WP.since' (.inr o));have u1:=u.upB;have u2:=u2.upB;have o1:=VF hs F.own.within;have o2:=VF hs F.q.within;have o3:=VF hs F.r.within;have ob:WP hB h' v' sU:= .inr (let⟨g,a,b⟩:=o;⟨g,QM hn a,b⟩);exact⟨oc,ob.upB u2 o1.symm,(F.q.upB zDk u1 F.kp).upB zDk u2 F.op,(F.r.upB u1 F.kr).upB u2 F.or,o2,o3,F.pr,o1.symm,F.op,F.or,⟨Wm.shape ob.sl,F.s.2⟩⟩
def FO.putP{IN:List (Int×Int)}(F:FO hB h p vt vf f ks ps rs vk vp vr)(u:UpB vp h h')(hs:zB3 h v')(bP:∃ a n k,v'=.slice a n k)(o:WR 2 RPl hB.n h' v' IN)(oc:WB hB h2 p [vt,vf,I f,vk,v',vr])(u2:Wo p h' h2):FO hB h2 p vt vf f ks IN rs vk v' vr:=by
 have u2:=u2.upB;have o1:=VF hs F.own.within;have o2:=VF hs F.k.within;have o3:=VF hs F.r.within;exact⟨oc,(F.k.upB u F.kp.symm).upB u2 F.ok,o.upB zDk u2 o1.symm,(F.r.upB u F.pr).upB u2 F.or,o2.symm,F.kr,o3,F.ok,o1.symm,F.or,⟨F.s.1,bP,F.s.2.2⟩⟩
end
def zSR{h:WA}{b g k:Nat}{x y:Int}(h1:b<=g)(h2:g<h.n)(hg:h.get g=some (.row (zi [I x,I y] k) true 0)):WR 2 RPl b h (.slice (some ⟨g,0,none⟩) k 2) (List.replicate k (x,y)):=by
 refine .inr ⟨g,zi [I x,I y] k,fun _=>False,h1,h2,by rw[Gk],hg,by rw[yA,Gk];rfl,id,fun _ h=>h.elim,fun i a ha hx _ _=> ?_⟩;rw[G3]at ha;split at ha;case isFalse=>cases ha
 rename_i hi;cases ha;show _=_;have h3:List.drop (i*2) (zi [I x,I y] k)=zi [I x,I y] (k-i):=zCQ (z:=[I x,I y]);rw[h3,show k-i=(k-i-1)+1 by omega];rfl
def zEt{L:List Wk}(h:∀ b∈L,b.ins.length<=1000):∀ n,n<=L.length->(Zl L n).length<=1000*n
 |0,_=>QQ _
 |n+1,hn=>by
  have:=zEt h n ω;have h2:=h _ (zH (l:=L) (i:=n) ω);show(Zl L n++_).length<=_;rw[QH,Qr,List.length_range];omega
def zFV{L:List Wk}(h:∀ b∈L,b.ins.length<=1000):∀ n,n<=L.length->(Zd (L.take n)).length<=1000*n
 |0,_=>by simp[Zd]
 |n+1,hn=>by
  have:=zFV h n ω;have h2:=h _ (zH (l:=L) (i:=n) ω);rw[zCB ω,QH,Qr];omega
def zLs{α:Type}[Inhabited α]{l:List α}{n:Nat}(h:n<l.length):l.take (n+1)=l.take n++[l.getD n default]:=by
 rw[GF,QB h,QD,QB h];rfl
def zKU(h:WA)(op:Int)(tt:SA h)(h0:0<=op)(h1:op<=255):G0 256 [.int .u8 op] h fun r h'=>r=.bool (zl op).2.2.2.2.2/\WH h h':=by
 refine en ?_;refine VA (zP1 h op tt h0 h1) ?_;rintro _ h2 ⟨rfl,e2⟩;refine gr ?_;exact⟨rfl,e2⟩
def zSh(h:WA)(vt vf:Value)(T:List WF)(F:List We)(f:Int)(E:SE h vt vf T F)(ha:SH T F f 0=0)(hf:0<=f/\f<(F.length:Int))(dV:0<=(F.getD f.toNat default).sig/\(F.getD f.toNat default).sig<(T.length:Int))(hL:(F.getD f.toNat default).blocks.length<=16):
  G0 229 [.agg #[vt,vf],I f] h fun r h'=>(∃ g xs,r=.pointer (some ⟨g,0,none⟩)/\Rul (nxF T F f) xs/\
   BT h' g vt vf T F f (zEF (T.getD (F.getD f.toNat default).sig.toNat default).parts (F.getD f.toNat default).blocks) (zIB (T.getD (F.getD f.toNat default).sig.toNat default).parts.length (F.getD f.toNat default).blocks) (Yk xs (F.getD f.toNat default).blocks.length))/\WH h h':=by
 have hI:=E.sm.ins _ (zH (l:=F) (i:=f.toNat) ω);have hP:=E.sm.parts _ (zH (l:=T) (i:=(F.getD f.toNat default).sig.toNat) ω);have hI:=Wi.mk hI;refine en ?_;refine VH ?_;intro p0 h1 e1 o1;have E1:=E.ext e1;refine go ?_;refine VC 1 rfl rfl ?_;have ea:=zG 1 h1;have NX:=Vl (o1.ext ea);obtain⟨cs,⟨vb,rfl,sb,fC⟩,pc,bP⟩:=zq (i:=f.toNat) E1.sf ω;have jq:=(pc _ ea).2;obtain⟨IB,⟨DV,rfl,sat,vM⟩,sT,mN⟩:=zq (i:=(F.getD f.toNat default).sig.toNat) E1.st ω;have qR:=(sT _ ea).2;have vU:=Vd (sat.ext ea);have kq:=BB.ext E1.st ea;have D4:BB (inC (zB 1 h1)) vt T:=kq;have ku:=BA.ext E1.sf ea;have D7:BA (inC (zB 1 h1)) vf F:=ku;refine WU ?_;refine VA (zGG _ DV _ vU ω) ?_;rintro vk X2 ⟨ok,e2⟩;obtain⟨k1,k2,k3,rfl⟩:=Wm.shape ok.sl;have aD:h1.n<X2.n:=e2.n;refine nE e2 ?_;refine WU ?_;refine Xi E1.hm ?_;intro X3 n3 g3;have e3:=zE6 ((zG 1 h1).trans (ZA (h:=h1) e2)) n3 g3 (QF _) aD;have o5:WB h1 (z9 h1 (inC X3)) (.pointer (some ⟨h1.n,0,none⟩)) [vt,vf,I f,(.slice k1 k2 k3),.slice none 0 0,.slice none 0 0]:=⟨h1.n,QF _,by show h1.n<X3.n;omega,rfl,by show X3.get _=_;rw[g3,QJ rfl];rfl⟩;have ok5:WP h1 (z9 h1 (inC X3)) (.slice k1 k2 k3) (T.getD (F.getD f.toNat default).sig.toNat default).parts:=by
  rcases ok with ok|⟨g,g1,g2,g4,g5⟩
  ·exact .inl ok
  ·have g1:h1.n+1<=g:=g1;exact .inr ⟨g,ω,by show g<X3.n;omega,g4,by show X3.get g=_;rw[g3,QC ω];exact g5⟩
 have f5:WY (.pointer (some ⟨h1.n,0,none⟩)) (.slice k1 k2 k3):=fun b hb hk=>by
  cases hb;have:=WP.since' ok _ hk;have:h1.n+1<=h1.n:=this;omega
 refine WU ?_;have e4:WH h1 (z9 h1 (inC X3)):=e3;generalize z9 h1 (inC X3)=h4 at *;clear g3 n3 e3 e2 ok aD X2;have E4:=E1.ext e4;have cg:=e1.trans e4;have qS:=o1.ext e4;refine go ?_;refine VA (zSF h4 vt vf T F f E4) ?_;rintro _ h5 ⟨⟨vr,rs,rfl,og,Hr,iP,_⟩,e5⟩;obtain⟨r1,r2,r3,rfl⟩:=Wm.shape og.sl;obtain⟨xs,D8,rfl⟩:=iP ha;have vP:=o5.ext e5;have NY:=e4.trans e5;rw[ha];refine go ?_;refine VX (cs:=[.slice r1 r2 r3]) (j:=5) (hl:=by simp) vP NY ?_;intro h6 e6 o6 u6;replace o6:WB h1 h6 (.pointer (some ⟨h1.n,0,none⟩)) [vt,vf,I f,.slice k1 k2 k3,.slice none 0 0,.slice r1 r2 r3]:=o6;have fr:=VF (WP.since' og) o5.within;have ok6:=(ok5.ext e5).upB u6.upB f5;have D9:=og.upB u6.upB fr.symm;have IP:=(VF (WP.since' og) ok5.within).symm;refine go ?_;refine Ul (cs:=[I (-1),I (-1)]) ?_;intro h7 e7 n7 s7 _;have ok7:=ok6.ext e7;have o7:=o6.ext e7;refine go ?_;refine VA (zLK h7 _ (-1) (-1) (T.getD (F.getD f.toNat default).sig.toNat default).parts.length s7 (yV (e6.trans e7) E1.hm) ω) ?_;rintro _ h8 ⟨⟨gp,mj,pZ,rfl,nJ⟩,e8⟩;have qT:=e7.trans e8;have vV:=e6.trans qT;have o8:=o6.ext qT;have T6:h1.n<=h7.n:=(e6.trans e7).n;have IQ:=zSR (b:=h1.n) ω pZ nJ;have ok8:=ok6.ext qT;have IS:=D9.ext qT;have dZ:zB3 h7 (.slice (some ⟨gp,0,none⟩) (T.getD (F.getD f.toNat default).sig.toNat default).parts.length 2):=fun b hb=>by cases hb;exact mj
 have Ea:=VF dZ (o6.ext e7).within;have IT:=VF dZ (ok6.ext e7).within;have IU:=VF dZ (D9.ext e7).within;refine go ?_;refine VX (cs:=[.slice (some ⟨gp,0,none⟩) (T.getD (F.getD f.toNat default).sig.toNat default).parts.length 2]) (j:=4) (hl:=by simp) o8 vV ?_;intro h9 e9 o9 u9;have n4:h1.n<=h4.n:=e4.n;have NZ:FO h1 h9 (.pointer (some ⟨h1.n,0,none⟩)) vt vf f (T.getD (F.getD f.toNat default).sig.toNat default).parts (List.replicate (T.getD (F.getD f.toNat default).sig.toNat default).parts.length (-1,-1)) (Yk xs (F.getD f.toNat default).blocks.length) (.slice k1 k2 k3) (.slice (some ⟨gp,0,none⟩) (T.getD (F.getD f.toNat default).sig.toNat default).parts.length 2) (.slice r1 r2 r3):=
  ⟨o9,ok8.upB u9.upB f5,IQ.upB zDk u9.upB Ea.symm,(IS.since e4).upB u9.upB fr.symm,IT.symm,IP,IU,f5,Ea.symm,fr.symm,⟨⟨_,_,_,rfl⟩,⟨_,_,_,rfl⟩,⟨_,_,_,rfl⟩⟩⟩
 have N1:=o1.ext e9;have T7:=(pc _ e9).1;have IV:=Bb.ext sb e9;have T8:=BA.ext E1.sf e9;clear o9 u9 o8 IQ ok8 IS Ea IT IU dZ nJ mj pZ o7 ok7 s7 o6 ok6 D9 u6 vP og ok5 o5 E4 qS fr IP f5 jq qR vU D4 D7 kq ku NX ea sT mN sat;have Eb:=hI.out;generalize T9:(F.getD f.toNat default).blocks=L at *;generalize lh:(T.getD (F.getD f.toNat default).sig.toNat default).parts=par at *;refine go ?_;refine VD (fun i=>L.length-i) (fun i t h'=>WH h1 h'/\zC t 54=I i/\i<=L.length/\∃ vk vp,FO h1 h' (.pointer (some ⟨h1.n,0,none⟩)) vt vf f (par++Zd (L.take i)) (List.replicate par.length (-1,-1)++Zl L i) (Yk xs L.length) vk vp (.slice r1 r2 r3)) 0 ?_ ?_
 ·exact⟨e9,WJ,QQ _,_,_,by simpa [Zd,Zl]using NZ⟩
 rintro i t gV ab ⟨dR,s54,hi,vk,vp,sV⟩;refine F0 ?_ ?_<;>intro hb;rotate_left 1
 ·have bj:i=L.length:=ω
  subst bj;rw[Qs]at sV;refine gr ?_;exact⟨⟨h1.n,xs,rfl,D8,⟨h1,_,_,_,sV.own,sV.k.sl,sV.q.sl,sV.r.sl⟩,BB.ext E1.st dR,BA.ext E1.sf dR,yV dR E1.hm⟩,e1.trans dR⟩
 have af:i<L.length:=ω
 obtain⟨csb,⟨vi,rfl,si,qo⟩,mP,oh⟩:=zq (i:=i) sb ω;have IW:=(mP _ dR).1;have N2:=Bb.ext sb dR;have gb:=Eb _ (zH af);have As:=zFV Eb i ω;have ed:=zEt Eb i ω;generalize IX:L.getD i default=B at *;obtain⟨ia,iN,ik,rfl⟩:=zD si;refine go ?_;refine WO.al ?_;intro p7 jo gj o7;refine go ?_;refine VG (cs:=[.slice ia iN ik,.int .u8 B.fin.kind,I B.fin.a,I B.fin.to,I B.fin.aK]) o7 gj ?_;intro gi aQ o7 u7;have oi:=dR.trans aQ;have N3:=Bx.ext si oi;refine go ?_;refine VD (fun j=>B.ins.length-j) (fun j t h'=>WH h1 h'/\zC t 62=I j/\j<=B.ins.length/\∃ vk vp,FO h1 h' (.pointer (some ⟨h1.n,0,none⟩)) vt vf f (par++Zd (L.take i)++(B.ins.take j).map zBk) (List.replicate par.length (-1,-1)++Zl L i++(List.range j).map fun(a:Nat)=>((i:Int),(a:Int))) (Yk xs L.length) vk vp (.slice r1 r2 r3)) 0 ?_ ?_
 ·exact⟨oi,WJ,QQ _,_,_,by simpa using sV.ext aQ⟩
 rintro j t sO br ⟨df,s62,hj,vk,vp,vW⟩;refine F0 ?_ ?_<;>intro hb;rotate_left 1
 ·have mK:j=B.ins.length:=ω
  subst mK;refine go ?_;refine zA (i+1) ω ⟨df,Wy,ω,vk,vp,?_⟩;rw[zCB af,IX,show Zl L (i+1)=Zl L i++(List.range B.ins.length).map fun(a:Nat)=>((i:Int),(a:Int)) by rw[<-IX];rfl];rw[Qs,Qd,Qd]at vW;exact vW
 have dY:j<B.ins.length:=ω
 obtain⟨csx,hR,DY,NN⟩:=zq (i:=j) si ω;have IY:=(DY _ df).1;have N4:=Bx.ext si df;have bq:(B.ins.take (j+1)).map zBk=(B.ins.take j).map zBk++[zBk (B.ins.getD j default)]:=by rw[zLs dY,Q5];rfl
 generalize hxd:B.ins.getD j default=x at *;obtain⟨xa,xf,rfl,fW,gy,dP,mw,ho⟩:=id hR;obtain⟨lI,lJ,lK,rfl⟩:=Wm.shape fW;obtain⟨lM,lN,lO,rfl⟩:=Wm.shape gy;refine go ?_;refine WO.al ?_;intro p9 gw cB o9;refine go ?_;refine VG (cs:=[.int .u8 x.op,I x.ty,I x.a,I x.b,I x.n,.slice lI lJ lK,.slice lM lN lO]) o9 cB ?_;intro lP cH o9 u9;have Au:=vW.ext cH;have oj:=df.trans cH;have vX:=Au.own;refine go ?_;refine UM (a:=((i:Int),(j:Int))) (Dn:=fun _=>False) Au.q oj (QF _) oj.n (by decide) (by simp only[QH,Gk,Qr,List.length_range];omega) (fun hx _ _=>rfl) (fun _ h=>h.elim) (fun _ _ _ _ h=>h) ?_;intro v8 kf lit dD Ec sW Iw vY;have Ed:zB3 lP v8:=fun b hb=>by obtain⟨n,k,g,rfl,hg⟩:=vY;cases hb;exact hg
 have Ee:∃ a n k,v8=.slice a n k:=let⟨n,k,g,e,_⟩:=vY;⟨_,n,k,e⟩;have qU:=zSV sW Iw;have vZ:=vX.upB qU Au.op.symm;have we:=o9.upB qU (VF o9.since' vW.q.within).symm;obtain⟨w1,w2,w3,rfl⟩:=Ee;refine go ?_;refine VX (cs:=[.slice w1 w2 w3]) (j:=4) (hl:=by simp) vZ dD ?_;intro Ef eU kv Eg;replace kv:WB h1 Ef (.pointer (some ⟨h1.n,0,none⟩)) [vt,vf,I f,vk,.slice w1 w2 w3,.slice r1 r2 r3]:=kv;have N5:=Au.putP qU Ed ⟨_,_,_,rfl⟩ Ec kv Eg;have wg:=we.upB Eg.upB (VF o9.since' vW.own.within).symm;refine go ?_;refine VA (zKU Ef x.op (E1.ext eU).tt ho.1 ho.2) ?_;rintro _ N6 ⟨rfl,vV⟩;have qV:=N5.ext vV;have ot:=qV.own;have IZ:=wg.ext vV;have iy:=eU.trans vV;have hk:zBk x=if(zl x.op).2.2.2.2.2 then x.ty else -1:=rfl;have wh:=qV.k;obtain⟨⟨q1,q2,q3,rfl⟩,_⟩:=qV.s;cases aI:(zl x.op).2.2.2.2.2 with
 |true=>
  have cV:zBk x=x.ty:=by rw[hk,aI];rfl
  refine go ?_;refine WO.bl [x.ty] ?_;intro N7 I1 iZ qW;refine go ?_;refine XA (wh.ext iZ) qW.sl (iy.trans iZ) (by simp) (by simp only[QH,Qr,Qp,Qb];omega) ?_;intro v20 CZ Eh kz wi;have kA:=(ot.ext iZ).upB wi.upB qV.ok.symm;obtain⟨y1,y2,y3,rfl⟩:=Wm.shape kz.sl;refine go ?_;refine VX (cs:=[.slice y1 y2 y3]) (j:=3) (hl:=by simp) kA Eh ?_;intro xE Ei dX Ej;replace dX:WB h1 xE (.pointer (some ⟨h1.n,0,none⟩)) [vt,vf,I f,.slice y1 y2 y3,.slice w1 w2 w3,.slice r1 r2 r3]:=dX;have Ek:=(qV.ext iZ).putK wi (iy.trans iZ).n kz dX Ej;refine go ?_;refine zA (j+1) ω ⟨Ei,Wy,ω,.slice y1 y2 y3,.slice w1 w2 w3,?_⟩;rw[bq,cV,JC,Q5,<-Qd,<-Qd];exact Ek
 |false=>
  have cV:zBk x= -1:=by rw[hk,aI];rfl
  refine go ?_;refine WO.bl [-1] ?_;intro N7 I1 iZ qW;refine go ?_;refine XA (wh.ext iZ) qW.sl (iy.trans iZ) (by simp) (by simp only[QH,Qr,Qp,Qb];omega) ?_;intro v20 CZ Eh kz wi;have kA:=(ot.ext iZ).upB wi.upB qV.ok.symm;obtain⟨y1,y2,y3,rfl⟩:=Wm.shape kz.sl;refine go ?_;refine VX (cs:=[.slice y1 y2 y3]) (j:=3) (hl:=by simp) kA Eh ?_;intro xE Ei dX Ej;replace dX:WB h1 xE (.pointer (some ⟨h1.n,0,none⟩)) [vt,vf,I f,.slice y1 y2 y3,.slice w1 w2 w3,.slice r1 r2 r3]:=dX;have Ek:=(qV.ext iZ).putK wi (iy.trans iZ).n kz dX Ej;refine go ?_;refine zA (j+1) ω ⟨Ei,Wy,ω,.slice y1 y2 y3,.slice w1 w2 w3,?_⟩;rw[bq,cV,JC,Q5,<-Qd,<-Qd];exact Ek
def zFo{O:List Int}{n:Nat}(h:O.Nodup)(hr:∀ c∈O,0<=c/\c<(n:Int)):O.length<=n:=by
 have hs:O ⊆ (List.range n).map fun(i:Nat)=>(i:Int):=fun c hc=>by
  have:=hr c hc;exact Qw.2 ⟨c.toNat,Q4.2 ω,ω⟩
 have:=h.length_le_of_subset hs;simpa using this
def zNP(n:Nat):((List.range n).map fun(i:Nat)=>(i:Int)).Nodup:=by
 exact List.Pairwise.map (R:=(·≠·)) (S:=(·≠·)) (fun(i:Nat)=>(i:Int)) (fun a b ah (e:(a:Int)=b)=>ah ω) List.nodup_range
def zNm{T:List WF}{F:List We}{f:Int}(h:(zF T F f 0).2=0):(yY T F f).1.length=(zF T F f 0).1.length↔∀ c,0<=c->c<((zF T F f 0).1.length:Int)->Wx (W5 (zF T F f 0).1) 0 c:=by
 obtain⟨h1,_,_,h4,_,h6,_⟩:=zCU h;have hnd:=zEe h;have hle:=zFo hnd h6;rw[<-h1];constructor
 ·intro he c c0 c1;refine(zAU h).1 (JB fun hc=> ?_);have N8:c∉(zh T F f).1:=fun hm=>hc (by
   unfold zh at hm;unfold yY;rw[QC (fun e=>e h)]at hm |-;exact zEK.2 (List.mem_reverse.1 hm))
  have:=zFo (O:=c::(zh T F f).1) (n:=(zF T F f 0).1.length) (List.nodup_cons.2 ⟨N8,hnd⟩) (fun d hd=>by
   rcases Qt.1 hd with rfl|hd
   ·exact⟨c0,c1⟩
   ·exact h6 d hd)
  rw[Qn]at this;omega
 ·intro hw;have hs:((List.range (zF T F f 0).1.length).map fun(i:Nat)=>(i:Int)) ⊆ (zh T F f).1:=fun c hc=>by
   obtain⟨i,hi,rfl⟩:=Qw.1 hc;exact h4 _ ((zAU h).2 (hw _ ω (by have:=Q4.1 hi;omega)))
  have:=(zNP _).length_le_of_subset hs;simp at this;omega
def zR(F:List We)(f:Int):List Wk:=(F.getD f.toNat default).blocks
def yb(T:List WF)(F:List We)(f:Int):WF:=T.getD (F.getD f.toNat default).sig.toNat default
def B7(T:List WF)(F:List We)(f:Int):List Int:=zEF (yb T F f).parts (zR F f)
def psF(T:List WF)(F:List We)(f:Int):List (Int×Int):=zIB (yb T F f).parts.length (zR F f)
def zTF(T:List WF)(F:List We)(f b:Int):Prop:=
 (∀ i,i<((zR F f).getD b.toNat default).ins.length->Yn T F (B7 T F f) (psF T F f) (W5 (zR F f)) (zR F f) (zY (zR F f) b (zR F f).length) b i)/\zAe T F f (B7 T F f) (psF T F f) (W5 (zR F f)) (zR F f) b
def zLH(T:List WF)(F:List We)(f:Int):Prop:=
 (∀ c,0<=c->c<((zR F f).length:Int)->Wx (W5 (zR F f)) 0 c)/\(f=0->(yb T F f).parts=[]/\BD T 1 (yb T F f).elem=true)/\∀ b,0<=b->b<((zR F f).length:Int)->zTF T F f b
def WfP(T:List WF)(F:List We):Prop:=∀ f,0<=f->f<(F.length:Int)->zLH T F f
def zHa(L:List Wk):∀ n,n<=L.length->(Zd (L.take n)).length=(Zl L n).length
 |0,_=>by simp[Zd,Zl]
 |n+1,hn=>by
  rw[zCB ω,QH,zHa L n ω];show _=(Zl L n++_).length;rw[QH,Qr,Qr,List.length_range]
def zLr(L:List Wk):((Zd L).length:Int)=zL L:=by
 unfold Zd zL;induction L with
 |nil=>rfl
 |cons b L ih=>rw[List.flatMap_cons,QH,Qi,G8,Qr,<-ih];omega
def zHH{L:List Wk}:∀ n,∀ p∈Zl L n,(0<=p.1/\p.1<(n:Int))/\0<=p.2/\p.2<((L.getD p.1.toNat default).ins.length:Int)
 |0,p,hp=>by cases hp
 |n+1,p,hp=>by
  have hp:p∈Zl L n++(List.range (L.getD n default).ins.length).map fun(i:Nat)=>((n:Int),(i:Int)):=hp;rcases Qf.1 hp with hp|hp
  ·have:=zHH n p hp;omega
  ·obtain⟨i,hi,rfl⟩:=Qw.1 hp;have:=Q4.1 hi;exact⟨⟨by show(0:Int)<=(n:Int);omega,by show(n:Int)<_;omega⟩,by show(0:Int)<=(i:Int);omega,by show(i:Int)<((L.getD (n:Int).toNat default).ins.length:Int);rw[QZ];omega⟩
structure FnIn(T:List WF)(F:List We)(f:Int):Prop where
 hf:0<=f/\f<(F.length:Int)
 hc:y8 T=0
 bl:∀ b,0<=b->b<((zR F f).length:Int)->zF T F f b=(zR F f,0)
 n1:1<=(zR F f).length
 sW:(zR F f).length<=16
 many:zL (zR F f)<=128
 sig:0<=(F.getD f.toNat default).sig/\(F.getD f.toNat default).sig<(T.length:Int)
 sigF:∀ g∈F,Bj T g.sig
 ks:∀ t∈B7 T F f,Bj T t
 par:∀ t∈(yb T F f).parts,PlT T t
 el:PlT T (yb T F f).elem
 par4:(yb T F f).parts.length<=4
 len:(B7 T F f).length=(psF T F f).length
 reg:((B7 T F f).length:Int)=zJ9 ((yb T F f).parts.length:Int) (zR F f)
 U:∀ B∈zR F f,BlkU B (B7 T F f).length (zR F f).length
 V:∀ B∈zR F f,∀ x∈B.ins,InsT T F x
 pl:∀ i,i<(psF T F f).length->((psF T F f).getD i default).1= -1\/0<=((psF T F f).getD i default).1
 nx:∀ c,0<=c/\c<((zR F f).length:Int)->∀ d∈W5 (zR F f) c,0<=d/\d<((zR F f).length:Int)
def zC5{T:List WF}{F:List We}{f:Int}(h:Yl T F=0)(hf:0<=f/\f<(F.length:Int)):FnIn T F f:=by
 obtain⟨hc,l5,lQ,hfn⟩:=yg h;have hm:=zH (l:=F) (i:=f.toNat) ω;have fX:=hfn _ hm;have hlen:=zUR fX;have gx:=zIb fX;have kC:ZW T F f=(((yb T F f).parts.length:Int),0):=by
  unfold ZW;rw[QC (fun e=>e h),QJ (by unfold zp;simp;omega)];rfl
 have dc:(zAc T F f).2=0:=by unfold zAc;rw[kC];rfl
 have pW:∀ b,0<=b->b<((zR F f).length:Int)->zF T F f b=(zR F f,0):=fun b b0 b1=>by
  unfold zF;rw[QC (fun e=>e dc),QC (by unfold zR at b1;omega)];rfl
 have Em:=zBY hc gx.1 gx.2;have cG:(yb T F f).kind=3:=by
  unfold B8 at fX;split at fX
  ·cases fX
  ·rename_i hb;unfold zDM at hb;simp only[GM,Ge,GS,not_or,Bool.not_eq_false,Gz,Decidable.not_not]at hb;exact hb.1.1.2
 have mQ:zJf T (yb T F f):=by
  have N9:(T.getD (F.getD f.toNat default).sig.toNat default).kind=3:=cG;rcases Em with⟨k,_⟩|⟨k,_⟩|⟨_,k⟩|⟨k,_⟩|⟨k,_⟩
  ·omega
  ·omega
  ·exact k
  ·omega
  ·omega
 have hV:∀ B∈zR F f,∀ x∈B.ins,InsT T F x:=fun B hB x hx=>by
  refine zUX (f:=F.getD f.toNat default) ω ?_;have h0:B8 T F.length (F.getD f.toNat default)=true:=fX;unfold B8 at h0;split at h0
  ·cases h0
  ·have h0:((F.getD f.toNat default).blocks.any fun b=>zD4 b (szL T F.length (F.getD f.toNat default)))=false:=by simpa using h0
   have hb:=G4.1 h0 B hB;have hb:zD4 B (szL T F.length (F.getD f.toNat default))=false:=by simpa using hb
   unfold zD4 at hb;rw[Bool.or_eq_false_iff]at hb;have:=G4.1 hb.1 x hx;simpa using this
 have I2:((B7 T F f).length:Int)=zJ9 ((yb T F f).parts.length:Int) (zR F f):=by
  unfold B7 zEF zJ9;rw[QH,<-zLr];omega
 have As:(B7 T F f).length=(psF T F f).length:=by
  unfold B7 psF zEF zIB;rw[QH,QH,Gk,<-zHa _ _ (QF _),Qs]
 refine⟨hf,hc,pW,hlen.1,hlen.2.1,hlen.2.2,gx,fun g hg=> .inr (zIb (hfn g hg)),?_,mQ.1,mQ.2.1,mQ.2.2.1,As,I2,?_,hV,?_,?_⟩
 ·intro t ht;rcases Qf.1 ht with ht|ht
  ·have:=mQ.1 t ht;exact .inr ⟨this.1,this.2.1⟩
  ·obtain⟨B,hB,ht⟩:=GA.1 ht;obtain⟨x,hx,rfl⟩:=Qw.1 ht;unfold zBk;split
   ·exact(hV B hB x hx).ty
   ·exact .inl rfl
 ·intro B hB;rw[I2];exact zVF fX B hB
 ·intro i hi;have hp:=zH (l:=psF T F f) hi;rcases Qf.1 hp with hp|hp
  ·rw[(List.mem_replicate.1 hp).2];exact .inl rfl
  ·exact .inr (zHH _ _ hp).1.1
 ·intro c fJ d hd;have hU:=zVF fX _ (zH (l:=zR F f) (i:=c.toNat) ω);exact hU.next d hd
def zIR(h:WA)(vt vf:Value)(T:List WF)(F:List We)(f:Int)(E:SE h vt vf T F)(hp:Yl T F=0)(hf:0<=f/\f<(F.length:Int)):
  G0 169 [.agg #[vt,vf],I f] h fun r h'=>(r=.nilIface/\zLH T F f\/(∃ b,r=SO f b)/\¬zLH T F f)/\WH h h':=by
 have Z:=zC5 hp hf;have aW:=Z.bl 0 (Q1 0) (by have:=Z.n1;omega);have Aw:(zF T F f 0).2=0:=by rw[aW]
 have ha:SH T F f 0=0:=by
  unfold SH;rw[QC (fun e=>e Aw),QC (by rw[aW];have:=Z.n1;show ¬(_\/((zR F f).length:Int)<=0);omega),QJ ((zAU Aw).2 (by rw[aW];exact Wx.here))]
 have nF:=zNm Aw;have kW:(yY T F f).2=0:=by rw[zG2];exact Aw
 have wj:=Z.sW;have eh:=Z.n1;have gx:=Z.sig;have dL:=Z.par4;have gh:nxF T F f=W5 (zR F f):=by unfold nxF;rw[aW]
 rw[aW]at nF;replace nF:(yY T F f).1.length=(zR F f).length↔∀ c,0<=c->c<((zR F f).length:Int)->Wx (W5 (zR F f)) 0 c:=nF;refine en ?_;refine VH ?_;intro p2 h1 e1 o1;replace o1:WB h h1 p2 [vt,vf]:=o1;have E1:=E.ext e1;refine go ?_;refine VA (zSh h1 vt vf T F f E1 ha hf Z.sig wj) ?_;rintro _ h2 ⟨⟨g,xs,rfl,hR,M⟩,e2⟩;rw[gh]at hR;have E2:=E1.ext e2;have o2:=o1.ext e2;refine go ?_;refine VA (zI4 h2 vt vf T F f E2.tt E2.hm E2.sm E2.st E2.sf) ?_;rintro _ h3 ⟨⟨vr,rfl,og⟩,e3⟩;rw[kW];have E3:=E2.ext e3;have o3:=o2.ext e3;have M3:=M.ext e3;refine go ?_;refine VC 1 rfl rfl ?_;have ea:=zG 1 h3;have Oa:=Vl (o3.ext ea);obtain⟨cs,⟨vb,rfl,sb,fC⟩,pc,bP⟩:=zq (i:=f.toNat) E3.sf ω;have jq:=(pc _ ea).2;obtain⟨IB,⟨DV,rfl,sat,vM⟩,sT,mN⟩:=zq (i:=(F.getD f.toNat default).sig.toNat) E3.st ω;have qR:=(sT _ ea).2;have kq:=BB.ext E3.st ea;have D4:BB (inC (zB 1 h3)) vt T:=kq;have ku:=BA.ext E3.sf ea;have D7:BA (inC (zB 1 h3)) vf F:=ku;obtain⟨sZ,jr,tc,rfl⟩:=Wm.shape sat;refine WU ?_;refine XJ (X:=inC (zB 1 h3)) (cs:=[.int .u8 (yb T F f).kind,I (yb T F f).elem,I (yb T F f).many,.slice sZ jr tc]) (WH.refl _) E3.hm ?_;intro h4 p8 e4 o8;have E4:=E3.ext e4;have o4:=o3.ext e4;have M4:=M3.ext e4;have Ob:=og.ext e4;have pc4:=(pc _ e4).1;have Ay:=Bb.ext sb e4;have vI:=E4.sf;have En:=Wc.ext sat e4;have nM:=E4.st;have cg:=e1.trans (e2.trans (e3.trans e4));have bad:∀ (b:Int) {h'},¬zLH T F f->WH h h'->(SO f b=.nilIface/\zLH T F f\/(∃ b',SO f b=SO f b')/\¬zLH T F f)/\WH h h':=fun b h' hn e=>⟨.inr ⟨⟨b,rfl⟩,hn⟩,e⟩;have bad:=Wi.mk @bad;clear kq ku D4 D7 Oa jq qR ea sT sat mN;have Oc:(F.getD f.toNat default).blocks=zR F f:=rfl;rw[Oc]at Ay;have fe:(f=0->(yb T F f).parts=[]/\BD T 1 (yb T F f).elem=true)\/¬(f=0->(yb T F f).parts=[]/\BD T 1 (yb T F f).elem=true):=Classical.em _;refine Yg ?_;refine VL (fun t h'=>WH h4 h'/\(yY T F f).1.length=(zR F f).length/\(f=0->(yb T F f).parts=[]/\BD T 1 (yb T F f).elem=true)) ?_ ?_
 ·by_cases hr:(yY T F f).1.length=(zR F f).length;case neg=>
   have Od:¬(((yY T F f).1.length:Int)=((zR F f).length:Int)):=ω
   refine go ?_;refine VS ?_;refine go ?_;refine zDd ?_;refine gr ?_;exact bad.out 0 (fun q=>hr (nF.2 q.1)) cg
  have Od:(((yY T F f).1.length:Int)=((zR F f).length:Int)):=ω
  refine go ?_;by_cases f0:f=0;case neg=>
   refine go ?_;exact zJ ⟨WH.refl _,hr,fun e=>absurd e f0⟩
  refine go ?_;by_cases ed:((T.getD (F.getD f.toNat default).sig.toNat default).parts.length:Int)>0
  ·refine go ?_;refine VS ?_;refine go ?_;refine zDd ?_;refine gr ?_;exact bad.out 0 (fun q=>by have q1:(T.getD (F.getD f.toNat default).sig.toNat default).parts=[]:=(q.2.1 f0).1;rw[q1]at ed;simp at ed) cg
  ·have lF:(T.getD (F.getD f.toNat default).sig.toNat default).parts=[]:=Gq ω;refine go ?_;refine WO.bl [(T.getD (F.getD f.toNat default).sig.toNat default).elem] ?_;intro v5 h5 e5 o5;refine go ?_;refine VA (ZB h5 1 v5 [(T.getD (F.getD f.toNat default).sig.toNat default).elem] (M4.ext e5) o5.sl (by simp) (fun t ht=>by rw[QO.1 ht];exact .inr ⟨Z.el.1,Z.el.2.1⟩)) ?_;rintro _ h6 ⟨rfl,e6⟩;rw[ZI];cases c1:BD T 1 (T.getD (F.getD f.toNat default).sig.toNat default).elem with
   |false=>
    refine go ?_;refine VS ?_;refine go ?_;refine zDd ?_;refine gr ?_;exact bad.out 0 (fun q=>by have q1:BD T 1 (T.getD (F.getD f.toNat default).sig.toNat default).elem=true:=(q.2.1 f0).2;rw[q1]at c1;cases c1) (cg.trans (e5.trans e6))
   |true=>
    refine go ?_;exact zJ ⟨e5.trans e6,hr,fun _=>⟨lF,c1⟩⟩
 rintro t h5 ab ⟨e5,hr,wq⟩;have eD:=nF.1 hr;have aq:∀ c,Wx (W5 (zR F f)) 0 c->0<=c/\c<((zR F f).length:Int):=fun c w=>by
  induction w with
  |here=>omega
  |step _ hm ih=>exact Z.nx _ ih _ hm
 have G:Gr F f (W5 (zR F f)) xs (psF T F f) (zR F f):=⟨hf,rfl,wj,hR,eD,aq,Z.pl⟩;have gb:∀ i,i<(zR F f).length->((zR F f).getD i default).ins.length<=1000:=fun i hi=>E.sm.ins _ (zH (l:=F) (i:=f.toNat) ω) _ (zH (l:=zR F f) hi);have Oe:=Bb.ext Ay e5;have uF:=BA.ext vI e5;have o5:=o4.ext e5;have pc5:=(pc _ (e4.trans e5)).1;have M5:BT h5 g vt vf T F f (B7 T F f) (psF T F f) (Yk xs (zR F f).length):=M4.ext e5;have E5:=E4.ext e5;have bh:=cg.trans e5;replace eD:=Wi.mk eD;replace aq:=Wi.mk aq;replace gb:=Wi.mk gb;clear pc Ay vI nM En o4 M4 E4 Ob o8 og E3 E2 E1;refine go ?_;refine VD (fun i=>(zR F f).length-i) (fun i t h'=>WH h5 h'/\zC t 68=I i/\i<=(zR F f).length/\Wi (∀ b:Int,0<=b->b<(i:Int)->zTF T F f b)) 0 ?_ ?_
 ·exact⟨WH.refl _,WJ,QQ _,⟨fun b b0 b1=>by omega⟩⟩
 rintro i t6 h6 Eo ⟨e6,s68,hi,hI⟩;have M6:=M5.ext e6;have c9:=bh.trans e6;refine F0 ?_ ?_<;>intro hb
 ·have af:i<(zR F f).length:=ω
  refine go ?_;refine VA (zOE h6 i M6 G (E5.ext e6) Z.hc Z.ks Z.sigF Z.sig Z.len Z.U Z.V ⟨ω,ω⟩ (by rw[QZ];exact gb.out i af)) ?_;have hP:(Yp T F f (i:Int)).1=zY (zR F f) i (zR F f).length:=by
   have:=Z.bl i ω ω;unfold Yp;rw[this];rfl
  rw[hP];rintro q h7 ⟨hq,e7⟩;rcases hq with⟨rfl,Of,ly⟩|⟨rfl,hq⟩
  ·refine go ?_;simp only[Qz,Qe];refine go ?_;refine zA (i+1) ω ⟨e6.trans e7,Wy,ω,⟨fun b b0 b1=> ?_⟩⟩;by_cases xI:b=i
   ·subst xI;exact⟨Of,ly⟩
   ·exact hI.out b b0 ω
  ·unfold SO;refine go ?_;simp only[Qz,Ql];refine gr ?_;exact bad.out i (fun q=>hq (q.2.2 i ω ω)) (c9.trans e7)
 ·have bj:i=(zR F f).length:=ω
  refine gr ?_;exact⟨.inl ⟨rfl,eD.out,wq,fun b b0 b1=>hI.out b b0 ω⟩,c9⟩
section
variable {P:Program}{tab:Ws}{t:WG Value}{ds:List Deferred}{rd:Option Nat}{h:WA}{Q:WM->WA->Prop}{l:List WE}{d:Nat}{ty:TypeId}{x:Operand}{v r:Value}
def Ua{ok:Bool}(hr:zE9 P ty ok v=some r)(k:WO P tab l ⟨t.set d r,ds,rd⟩ h Q)(hx:WN t x v:=by exact zN):WO P tab (⟨some d,none,.assert ty ok x⟩::l) ⟨t,ds,rd⟩ h Q:=
 WO.op _ _ rfl (by unfold WN at *;simp only[WK,hx,hr,QL]) k
def UT(hr:zFF P ty v=some r)(k:WO P tab l ⟨t.set d r,ds,rd⟩ h Q)(hx:WN t x v:=by exact zN):WO P tab (⟨some d,none,.typeOf ty x⟩::l) ⟨t,ds,rd⟩ h Q:=
 WO.op _ _ rfl (by unfold WN at *;simp only[WK,hx,hr,QL]) k
def U4{f:FuncId}{name:String}{u:Value}(hm:zAF P ty name=some f)(k:WC P tab f [u] h fun v h'=>WO P tab l ⟨t.set d v,ds,rd⟩ h' Q)(hx:WN t x (.iface ty u):=by exact zN):WO P tab (⟨some d,none,.invoke x name []⟩::l) ⟨t,ds,rd⟩ h Q:=
 WO.invoke hx hm rfl k
def Uo{G rt:Nat}{b:Bool}(hb:Y4 P G rt ty=some b)(k:WO P tab l ⟨t.set d (.bool b),ds,rd⟩ h Q)(hx:WN t x (zIA G rt ty):=by exact zN):WO P tab (⟨some d,none,.invoke x "Comparable" []⟩::l) ⟨t,ds,rd⟩ h Q:=
 XF hx hb k
end
abbrev tyE:Nat:=32
abbrev zNT:Value:= .iface tyE (I 120)
def zKn(h:WA)(f b:Int):G0 336 [.agg #[I f,I b,I 120]] h fun r h'=>r=zNT/\WH h h':=by
 refine en ?_;refine VH ?_;intro p h1 e1 o1;replace o1:WB h h1 p [I f,I b,I 120]:=o1;refine go ?_;refine VS ?_;refine gr ?_;exact⟨rfl,e1⟩
def zUa(h:WA)(f b:Int):G0 234 [SO f b,zNT,.bool true] h fun r h'=>r=.bool true/\WH h h':=by
 refine en ?_;refine VD (fun i=>2-i) (fun i t h'=>WH h h'/\((i=0/\zC t 0=SO f b)\/(i=1/\zC t 0=zNT))) 0 ?_ ?_
 ·exact⟨WH.refl _,.inl ⟨rfl,WJ⟩⟩
 rintro i t h1 ab ⟨e1,⟨rfl,s0⟩|⟨rfl,s0⟩⟩
 ·unfold SO at s0;refine go ?_;refine V2 (v:= .bool false) (by kernel_rfl) ?_;refine go ?_;refine Ua (r:= .tuple #[.nilIface,.bool false]) (by kernel_rfl) ?_;refine go ?_;refine Ua (r:= .tuple #[.iface tyF (.agg #[I f,I b,I 120]),.bool true]) (by kernel_rfl) ?_;refine go ?_;refine U4 (f:=336) (by kernel_rfl) ?_;refine WC.mono (zKn h1 f b) ?_;rintro _ h2 ⟨rfl,e2⟩;refine go ?_;simp only[Gt,Qy];refine go ?_;exact zA 1 ω ⟨e1.trans e2,.inr ⟨rfl,WJ⟩⟩
 ·refine go ?_;refine V2 (v:= .bool true) (by kernel_rfl) ?_;refine gr ?_;exact⟨rfl,e1⟩
def zUA(h:WA)(f b:Int):G0 170 [SO f b,zNT] h fun r h'=>r=.bool true/\WH h h':=by
 unfold SO;refine en ?_;simp only[Gt,Qy];refine go ?_;simp only[Gt,Qy];refine go ?_;refine UT (v:=zNT) rfl ?_;refine go ?_;refine Uo (b:=true) (by kernel_rfl) ?_;refine go ?_;have hk:=zUa h f b;unfold SO at hk;refine VA hk ?_;rintro _ h2 ⟨rfl,e2⟩;refine gr ?_;exact⟨rfl,e2⟩
def zSO(h:WA):G0 170 [.nilIface,zNT] h fun r h'=>r=.bool false/\h=h':=by
 refine en ?_;simp only[Gt,Qy];refine go ?_;refine V2 (v:= .bool false) (by kernel_rfl) ?_;refine gr ?_;exact⟨rfl,rfl⟩
noncomputable def zb(T:List WF)(F:List We):Int:=open Classical in if Yl T F≠0 then Yl T F else if WfP T F then 0 else 120
def zOP(h:WA)(vt vf:Value)(T:List WF)(F:List We)(E:SE h vt vf T F):
  G0 114 [.agg #[vt,vf]] h fun r h'=>r=I (zb T F)/\WH h h':=by
 unfold zb;have hF:=E.sm.funcs;refine en ?_;refine VH ?_;intro p1 h1 e1 o1;replace o1:WB h h1 p1 [vt,vf]:=o1;have E1:=E.ext e1;refine go ?_;refine VA (zNA h1 vt vf T F E1.tt E1.hm E1.sm E1.st E1.sf) ?_;rintro _ h2 ⟨rfl,e2⟩;have o2:=o1.ext e2;have E2:=E1.ext e2;have eV:=E2.sf;by_cases hp:Yl T F=0;case neg=>
  rw[QJ hp];refine gr ?_;exact⟨rfl,e1.trans e2⟩
 rw[QC (fun e=>e hp),hp];refine go ?_;refine VD (fun i=>F.length-i) (fun i t h'=>WH h2 h'/\zC t 14=I i/\i<=F.length/\Wi (∀ f:Int,0<=f->f<(i:Int)->zLH T F f)) 0 ?_ ?_
 ·exact⟨WH.refl _,WJ,QQ _,⟨fun f f0 f1=>by omega⟩⟩
 rintro i t h3 ab ⟨e3,Ak,hi,hI⟩;have o3:=o2.ext e3;have bQ:=e1.trans (e2.trans e3);refine F0 ?_ ?_<;>intro hb
 ·have af:i<F.length:=ω
  refine go ?_;refine VA (zIR h3 vt vf T F i (E2.ext e3) hp ⟨ω,ω⟩) ?_;rintro q h4 ⟨⟨rfl,hq⟩|⟨⟨b,rfl⟩,hq⟩,e4⟩
  ·refine go ?_;refine VS ?_;refine go ?_;refine VA (zSO h4) ?_;rintro _ _ ⟨rfl,rfl⟩;refine go ?_;refine zA (i+1) ω ⟨e3.trans e4,Wy,ω,⟨fun f f0 f1=> ?_⟩⟩;by_cases cI:f=i
   ·subst cI;exact hq
   ·exact hI.out f f0 ω
  ·refine go ?_;refine VS ?_;refine go ?_;refine VA (zUA h4 i b) ?_;rintro _ h5 ⟨rfl,e5⟩;refine gr ?_;refine⟨?_,bQ.trans (e4.trans e5)⟩;rw[QC (fun w=>hq (w i ω ω))];rfl
 ·have bj:i=F.length:=ω
  refine gr ?_;refine⟨?_,bQ⟩;rw[QJ (show WfP T F from fun f f0 f1=>hI.out f f0 ω)];rfl
def z8{T:List WF}{F:List We}(h:zb T F=0):Yl T F=0/\WfP T F:=by
 unfold zb at h;split at h
 ·rename_i hp;exact absurd h hp
 ·rename_i hp;split at h
  ·rename_i hw;exact⟨Classical.not_not.1 hp,hw⟩
  ·cases h
def zHV{α:Type}{a b:List α}{i:Nat}{d:α}(h:i<a.length):(a++b).getD i d=a.getD i d:=by
 rw[QD,QD,Qg h]
def zEJ{α:Type}{a b:List α}{i:Nat}{d:α}(h:a.length<=i):(a++b).getD i d=b.getD (i-a.length) d:=by
 rw[QD,QD,Qk h]
def zAO{α β:Type}{l:List α}{i:Nat}{f:α->β}{a:α}{b:β}(h:i<l.length):(l.map f).getD i b=f (l.getD i a):=by
 rw[QD,QD,GQ,QB h];rfl
def zJZ{α:Type}{l:List α}{f:α->List Int}(h:∀ x∈l,(f x).length<=32):(l.map f).flatten.length<=32*l.length:=by
 induction l with
 |nil=>simp
 |cons a l ih=>
  have:=h a (by simp);have:=ih fun x hx=>h x (by simp[hx]);simp only[Qi,Gd,QH,Qn];omega
def zNt{α:Type}[Inhabited α]{l:List α}{f:α->List Int}{i:Nat}(h:i<l.length):((l.take (i+1)).map f).flatten=((l.take i).map f).flatten++f (l.getD i default):=by
 rw[GF,QB h,Q5,List.flatten_append];simp[List.getD,QB h]
def zHF(h:WA)(vt:Value)(T:List WF)(k:Int)(st:BB h vt T)(hT:T.length<=100)(hp:∀ x∈T,x.parts.length<=100)(hc:y8 T=0)(hk:0<=k/\k<(T.length:Int)):
  G0 177 [vt,I k] h fun r h'=>r=I 0/\WH h h':=by
 obtain⟨t1,t2,t3,rfl⟩:=zD st;have ht:yl (T.length:Int) [k]=true:=by unfold yl;simp[hk.1,hk.2]
 refine en ?_;refine VA (zKF h _ T st hT hp) ?_;rintro _ h2 ⟨rfl,e2⟩;rw[hc];have cz:=BB.ext st e2;refine go ?_;refine WO.bl [k] ?_;intro v3 h3 e3 o3;refine go ?_;refine VA (zBJ h3 v3 (T.length:Int) [k] o3.sl (by simp)) ?_;rintro _ h4 ⟨rfl,e4⟩;rw[ht];refine gr ?_;exact⟨rfl,e2.trans (e3.trans e4)⟩
def trF{α:Type}(T:List WF)(a:Int->α)(s:List α->α)(m:Nat->α->α):Nat->Int->α
 |0,k=>a k
 |n+1,k=>let x:=T.getD k.toNat default
  if x.kind=4 then s (x.parts.map (trF T a s m n))else if x.kind=5 then m x.many.toNat (trF T a s m n x.elem)else a k
def trL{α:Type}(T:List WF)(a:Int->α)(s:List α->α)(m:Nat->α->α)(k:Nat):α:=trF T a s m (k+1) k
def zGV{T:List WF}{k:Nat}(h:ZY T k)(h4:(T.getD k default).kind=4):(T.getD k default).parts.length<=8/\∀ p∈(T.getD k default).parts,0<=p/\p<(k:Int):=by
 unfold ZY zGk at h;rcases h with h|h|h|h|h
 ·omega
 ·omega
 ·omega
 ·exact h.2.2.2.2
 ·omega
def zJp{T:List WF}{k:Nat}(h:ZY T k)(h5:(T.getD k default).kind=5):0<=(T.getD k default).elem/\(T.getD k default).elem<(k:Int)/\1<=(T.getD k default).many/\(T.getD k default).many<=16:=by
 unfold ZY zGk at h;rcases h with h|h|h|h|h<;>omega
section
variable {α:Type}{T:List WF}{a:Int->α}{s:List α->α}{m:Nat->α->α}
def zJw:∀ (n q:Nat) (k:Nat),k<n->k<q->(∀ j,j<=k->ZY T j)->trF T a s m n k=trF T a s m q k:=by
 intro n;induction n with
 |zero=>intro m k h;omega
 |succ n ih=>
  intro q k h1 h2 hM;obtain⟨q,rfl⟩:∃ r,q=r+1:=⟨q-1,ω⟩;have hk:=hM k (QF _);unfold trF;simp only[QZ];split
  ·rename_i h4;congr 1;refine Gj fun p hp=> ?_;have dN:=(zGV hk h4).2 p hp;obtain⟨r,rfl⟩:∃ r:Nat,p=r:=⟨p.toNat,ω⟩;exact ih q r ω ω fun j hj=>hM j ω
  ·split
   ·rename_i h4 h5;have dN:=zJp hk h5;obtain⟨r,hr⟩:∃ r:Nat,(T.getD k default).elem=r:=⟨(T.getD k default).elem.toNat,ω⟩;rw[hr,ih q r ω ω fun j hj=>hM j ω]
   ·rfl
def zAg{k:Nat}(hM:∀ j,j<=k->ZY T j):trL T a s m k=let x:=T.getD k default
  if x.kind=4 then s (x.parts.map fun p=>trL T a s m p.toNat)else if x.kind=5 then m x.many.toNat (trL T a s m x.elem.toNat)else a k:=by
 have hk:=hM k (QF _);conv=>lhs;unfold trL;rw[trF]
 simp only[QZ];split
 ·rename_i h4;congr 1;refine Gj fun p hp=> ?_;have dN:=(zGV hk h4).2 p hp;obtain⟨r,rfl⟩:∃ r:Nat,p=r:=⟨p.toNat,ω⟩;exact zJw _ _ r ω ω fun j hj=>hM j ω
 ·split
  ·rename_i h4 h5;have dN:=zJp hk h5;obtain⟨r,hr⟩:∃ r:Nat,(T.getD k default).elem=r:=⟨(T.getD k default).elem.toNat,ω⟩;rw[hr,QZ,zJw k (r+1) r ω ω fun j hj=>hM j ω];rfl
  ·rfl
end
def yF(T:List WF)(k:Nat):List Int:=trL T (fun k=>[k]) List.flatten (fun _ l=>l) k
def zDf:List (List Int×Nat)->List Int×Nat
 |[]=>([],0)
 |x::r=>(x.1++(zDf r).1.map (fun i=>(x.2:Int)+i),x.2+(zDf r).2)
def SU(T:List WF)(k:Nat):List Int×Nat:=trL T (fun _=>([0],1)) zDf (fun n p=>((List.replicate n p.1).flatten,p.2)) k
def zHk:∀ (l:List (List Int×Nat)) (x:List Int×Nat),zDf (l++[x])=((zDf l).1++x.1.map (fun i=>((zDf l).2:Int)+i),(zDf l).2+x.2)
 |[],x=>by simp[zDf]
 |y::l,x=>by
  simp only[JG,zDf,zHk l x,Q5,List.map_map,Qd,Nat.add_assoc];congr 3;refine Gj fun i _=> ?_;simp only[Function.comp];omega
def zMG{T:List WF}:∀ (n k:Nat),k<n->(∀ j,j<=k->ZY T j)->(SU T k).2=(yF T k).length/\(SU T k).1.length=(Br T k).length/\∀ i∈(SU T k).1,0<=i/\i<((yF T k).length:Int):=by
 intro n;induction n with
 |zero=>intro k h;omega
 |succ n ih=>
  intro k hk hM;have hm:=hM k (QF _);unfold SU yF;rw[zAg hM,zAg hM,zBV hM];simp only;split
  ·rename_i h4;have hp:=(zGV hm h4).2;generalize(T.getD k default).parts=l at *;have hI:∀ p∈l,_:=fun p dG=>ih p.toNat (by have:=hp p dG;omega) fun j hj=>hM j (by have:=hp p dG;omega);clear hp;induction l with
   |nil=>exact⟨rfl,rfl,fun i hi=>by cases hi⟩
   |cons p l cj=>
    obtain⟨a1,a2,a3⟩:=cj fun q hq=>hI q (QW _ hq);obtain⟨b1,b2,b3⟩:=hI p (QR ..);unfold SU yF at b1 b3;unfold SU at b2;simp only[Qi,zDf,Gd,QH,Qr];refine⟨ω,ω,fun i hi=> ?_⟩;rcases Qf.1 hi with hi|hi
    ·have:=b3 i hi;omega
    ·obtain⟨j,hj,rfl⟩:=Qw.1 hi;have:=a3 j hj;omega
  ·split
   ·rename_i h4 h5;have hp:=zJp hm h5;obtain⟨b1,b2,b3⟩:=ih (T.getD k default).elem.toNat ω fun j hj=>hM j ω;unfold SU yF at b1 b3;unfold SU at b2;refine⟨b1,?_,fun i hi=> ?_⟩
    ·simp only[zCV];rw[b2]
    ·obtain⟨l,hl,hi⟩:=List.mem_flatten.1 hi;rw[List.eq_of_mem_replicate hl]at hi;exact b3 i hi
   ·exact⟨rfl,rfl,fun i hi=>by simp at hi;subst hi;simp⟩
def zB2{T:List WF}:∀ (n k:Nat),k<n->(∀ j,j<=k->ZY T j)->(yF T k).length<=(Br T k).length:=by
 intro n;induction n with
 |zero=>intro k h;omega
 |succ n ih=>
  intro k hk hM;have hm:=hM k (QF _);unfold yF;rw[zAg hM,zBV hM];simp only;split
  ·rename_i h4;have hp:=(zGV hm h4).2;generalize(T.getD k default).parts=l at *;have hI:∀ p∈l,_:=fun p dG=>ih p.toNat (by have:=hp p dG;omega) fun j hj=>hM j (by have:=hp p dG;omega);clear hp;induction l with
   |nil=>exact QF _
   |cons p l cj=>
    have a:=cj fun q hq=>hI q (QW _ hq);have b:=hI p (QR ..);unfold yF at b;simp only[Qi,Gd,QH];omega
  ·split
   ·rename_i h4 h5;have hp:=zJp hm h5;have b:=ih (T.getD k default).elem.toNat ω fun j hj=>hM j ω;unfold yF at b;rw[zCV];refine QM b ?_;have:1<=(T.getD k default).many.toNat:=ω
    exact Nat.le_mul_of_pos_left _ this
   ·exact QF _
def wkL(T:List WF)(o:Bool)(s:Int)(k:Nat):List Int:=if o then yF T k else(SU T k).1.map fun i=>s+i
def zA0{T:List WF}{k:Nat}(hM:∀ j,j<=k->ZY T j):yF T k=if(T.getD k default).kind=4 then((T.getD k default).parts.map fun p=>yF T p.toNat).flatten else if(T.getD k default).kind=5 then yF T (T.getD k default).elem.toNat else[(k:Int)]:=zAg hM
def zKG{T:List WF}{k:Nat}(hM:∀ j,j<=k->ZY T j):SU T k=if(T.getD k default).kind=4 then zDf ((T.getD k default).parts.map fun p=>SU T p.toNat)else if(T.getD k default).kind=5 then((List.replicate (T.getD k default).many.toNat (SU T (T.getD k default).elem.toNat).1).flatten,(SU T (T.getD k default).elem.toNat).2)else([0],1):=zAg hM
def zGn(T:List WF)(o:Bool)(s:Int)(ps:List Int):List Int:=if o then(ps.map fun p=>yF T p.toNat).flatten else(zDf (ps.map fun p=>SU T p.toNat)).1.map fun i=>s+i
def zLo{T:List WF}{o:Bool}{s:Int}{k:Nat}(hM:∀ j,j<=k->ZY T j):wkL T o s k=if(T.getD k default).kind=4 then zGn T o s (T.getD k default).parts else if(T.getD k default).kind=5 then(if o then yF T (T.getD k default).elem.toNat else(List.replicate (T.getD k default).many.toNat (wkL T o s (T.getD k default).elem.toNat)).flatten)else[if o then(k:Int)else s]:=by
 conv=>lhs;unfold wkL
 rw[zA0 hM,zKG hM];cases o with
 |true=>unfold zGn;simp only[Qz]
 |false=>
  unfold zGn;simp only[Qy,Gt];split
  ·rfl
  ·split
   ·rw[List.map_flatten,List.map_replicate];rfl
   ·simp
def zMz{T:List WF}:∀ {ps:List Int},(∀ p∈ps,(SU T p.toNat).2=(yF T p.toNat).length)->(zDf (ps.map fun p=>SU T p.toNat)).2=(ps.map fun p=>yF T p.toNat).flatten.length
 |[],_=>rfl
 |p::ps,h=>by
  simp only[Qi,zDf,Gd,QH];rw[zMz fun q hq=>h q (QW _ hq),h p (QR ..)]
def zRC{T:List WF}{o:Bool}{s q:Int}{ps:List Int}(h:∀ p∈ps,(SU T p.toNat).2=(yF T p.toNat).length):
  zGn T o s (ps++[q])=zGn T o s ps++wkL T o (s+((ps.map fun p=>yF T p.toNat).flatten.length:Int)) q.toNat:=by
 unfold zGn wkL;cases o with
 |true=>simp
 |false=>
  simp only[Qy,Gt,Q5,Qi,Gc];rw[zHk,zMz h];simp only[Q5,List.map_map];congr 1;refine Gj fun i _=> ?_;simp only[Function.comp];omega
def zUM{T:List WF}{o:Bool}{s:Int}{k:Nat}(hM:∀ j,j<=k->ZY T j):(wkL T o s k).length<=(Br T k).length:=by
 unfold wkL;split
 ·exact zB2 (k+1) k (Q9 _) hM
 ·rw[Qr,(zMG (k+1) k (Q9 _) hM).2.1];exact QF _
def Wg(p v:Value)(h h':WA)(v':Value):Prop:=h.n<=h'.n/\(∀ g,g<h.n->BJ p≠some g->BJ v≠some g->h'.get g=h.get g)/\∀ b,BJ v'=some b->BJ v=some b\/h.n<=b
def Wg.refl(p v:Value)(h:WA):Wg p v h h v:=⟨QF _,fun _ _ _ _=>rfl,fun _ h=> .inl h⟩
def Wg.trans{p v v1 v2:Value}{h h1 h2:WA}(a:Wg p v h h1 v1)(b:Wg p v1 h1 h2 v2):Wg p v h h2 v2:=by
 refine⟨QM a.1 b.1,fun g hg h1 h2=> ?_,fun k hk=> ?_⟩
 ·rw[b.2.1 g (QG hg a.1) h1 fun e=> ?_,a.2.1 g hg h1 h2];rcases a.2.2 g e with e|e
  ·exact h2 e
  ·omega
 ·rcases b.2.2 k hk with e|e
  ·exact a.2.2 k e
  ·exact .inr (QM a.1 e)
def Wg.ext{p v:Value}{h h':WA}(e:WH h h'):Wg p v h h' v:=⟨e.n,fun g hg _ _=>e.get g hg,fun _ h=> .inl h⟩
def VN{h0 h h':WA}{p q v v':Value}{cs:List Value}(o:WB h0 h q cs)(k:Wg p v h h' v')(d1:WY p q)(d2:WY v q):WB h0 h' q cs/\WY v' q:=by
 have hw:=o.within;obtain⟨g,g1,g2,rfl,g3⟩:=o;refine⟨⟨g,g1,QG g2 k.1,rfl,(k.2.1 g g2 (fun e=>d1 g e rfl) fun e=>d2 g e rfl).trans g3⟩,fun b hb hq=> ?_⟩;cases hq;rcases k.2.2 _ hb with e|e
 ·exact d2 _ e rfl
 ·have e:h.n<=g:=e;omega
structure CW(hB h:WA)(vT pT pF pR vR:Value)(l:List Int):Prop where
 tT:WB hB h pT [vT]
 tF:WB hB h pF [.func (.func 236) #[] #[pT,pF,pR]]
 tR:WB hB h pR [vR]
 own:WP hB h vR l
 fT:WY pR pT
 fF:WY pR pF
 vt:WY vR pT
 vf:WY vR pF
 vr:WY vR pR
 ext:WH hB h
def CW.ext'{hB h h':WA}{vT pT pF pR vR:Value}{l:List Int}(w:CW hB h vT pT pF pR vR l)(e:WH h h'):CW hB h' vT pT pF pR vR l:=
 ⟨w.tT.ext e,w.tF.ext e,w.tR.ext e,w.own.ext e,w.fT,w.fF,w.vt,w.vf,w.vr,w.ext.trans e⟩
def zOK(hB:WA)(vT pT pF pR:Value)(T:List WF)(st:BB hB vT T)(hT:(T.length:Int)<=1000):∀ (n k:Nat) (h:WA) (vR:Value) (l:List Int),k<n->k<T.length->zOV T k->ZY T k->CW hB h vT pT pF pR vR l->l.length+(Br T k).length<=100->
  G0 236 [I k,pT,pF,pR] h fun r h'=>∃ gz,CW hB h' vT pT pF pR gz (l++Br T k)/\Wg pR vR h h' gz:=by
 obtain⟨t1,t2,t3,rfl⟩:=zD st;intro n;induction n with
 |zero=>intro k h vR l hk;omega
 |succ n ih=>
  intro k h vR l Ci hk au hM w hl;have fY:=zBV (T:=T) (k:=k) fun j hj=>by
   by_cases e:j=k
   ·subst e;exact hM
   ·exact(au j ω).1
  have Ep:=w.ext;have Er:=st.ext w.ext;have g9:=zGV hM;have Es:=zJp hM;obtain⟨cs,⟨va,rfl,sa,dP⟩,pc,hs⟩:=zq (i:=k) st hk;replace pc:=(pc _ Ep).1;rw[fY]at hl |-;clear fY;generalize T.getD k default=x at *;obtain⟨a1,a2,a3,rfl⟩:=Wm.shape sa;have oT:=w.tT;have oF:=w.tF;have oR:=w.tR;refine en ?_;refine WO.al ?_;intro p h1 e1 o1;refine go ?_;refine VG o1 e1 ?_;intro h2 e2 o2 _;have w2:=w.ext' e2;have Og:=sa.ext w2.ext;have f1:WY pR p:=(VF o2.since' w.tR.within).symm;have f2:WY vR p:=(VF o2.since' w.own.within).symm;by_cases h4:x.kind=4
  ·have hp:=g9 h4;simp only[h4,Qz]at hl |-;have I3:=hp.1;replace hp:=Wi.mk hp;replace au:=Wi.mk au;refine go ?_;refine VD (fun i=>x.parts.length-i) (fun i t h3=>zC t 23=I i/\i<=x.parts.length/\∃ gz,CW hB h3 (.slice t1 t2 t3) pT pF pR gz (l++((x.parts.take i).map fun p=>Br T p.toNat).flatten)/\Wg pR vR h2 h3 gz) 0 ?_ ?_
   ·exact⟨WJ,QQ _,vR,by simpa using w2,Wg.refl ..⟩
   rintro i t h3 ab ⟨s7,hi,gz,w3,k3⟩;have qJ:=sa.ext w3.ext;have Oh:=w3.tT;have Oi:=w3.tF;refine F0 ?_ ?_<;>intro hc
   ·have af:i<x.parts.length:=ω
    have pP:=hp.out.2 _ (zd af);have bq:=zNt (f:=fun p=>Br T p.toNat) af;have fP:((x.parts.take (i+1)).map fun p=>Br T p.toNat).flatten.length<=(x.parts.map fun p=>Br T p.toNat).flatten.length:=by
     conv=>rhs;rw[<-GR (i+1) x.parts]
     rw[Q5,List.flatten_append,QH];omega
    obtain⟨q,hq⟩:∃ q:Nat,x.parts.getD i 0=q:=⟨(x.parts.getD i 0).toNat,ω⟩;have lR:q<k:=ω
    have i4:x.parts.getD i default=(q:Int):=hq;rw[i4]at bq;simp only[QZ]at bq;rw[bq,QH]at fP;refine go ?_;rw[hq];refine VJ (WV.func (ih q h3 gz _ ω ω (fun j hj=>au.out j ω) (au.out q lR).1 w3 (by rw[QH];omega))) ?_;rintro r h4 ⟨Et,w4,k4⟩;refine go ?_;exact zA (i+1) ω ⟨Wy,ω,Et,by rw[bq,<-Qd];exact w4,k3.trans k4⟩
   ·have bj:i=x.parts.length:=ω
    subst bj;rw[Qs]at w3;refine go ?_;refine BN ?_;exact⟨gz,w3,(Wg.ext e2).trans k3⟩
  by_cases h5:x.kind=5
  ·have hp:=Es h5;obtain⟨q,hq⟩:∃ q:Nat,x.elem=q:=⟨x.elem.toNat,ω⟩;obtain⟨m,hm⟩:∃ m:Nat,x.many=m:=⟨x.many.toNat,ω⟩;have lR:q<k:=ω
   simp only[h5,Qz,Gt,show ¬((5:Int)=4) by decide,hq,hm,QZ]at hl |-;replace au:=Wi.mk au;rw[zCV]at hl;refine go ?_;refine VD (fun i=>m-i) (fun i t h3=>zC t 35=I i/\i<=m/\∃ gz,CW hB h3 (.slice t1 t2 t3) pT pF pR gz (l++(List.replicate i (Br T q)).flatten)/\Wg pR vR h2 h3 gz) 0 ?_ ?_
   ·exact⟨WJ,QQ _,vR,by simpa using w2,Wg.refl ..⟩
   rintro i t h3 ab ⟨s7,hi,gz,w3,k3⟩;have Oh:=w3.tT;have Oi:=w3.tF;have I4:=(VN o2 k3 f1 f2).1;refine go ?_;rw[hm];refine F0 ?_ ?_<;>intro hc
   ·have af:i<m:=ω
    have hmul:(i+1)*(Br T q).length<=m*(Br T q).length:=GH _ af;rw[Gw]at hmul;refine go ?_;rw[hq];refine VJ (WV.func (ih q h3 gz _ ω ω (fun j hj=>au.out j ω) (au.out q lR).1 w3 (by rw[QH,zCV];omega))) ?_;rintro r h4 ⟨Et,w4,k4⟩;refine go ?_;refine zA (i+1) ω ⟨Wy,ω,Et,?_,k3.trans k4⟩;rw[List.replicate_succ',List.flatten_append,<-Qd];simpa using w4
   ·have bj:i=m:=ω
    subst bj;refine go ?_;refine BN ?_;exact⟨gz,w3,(Wg.ext e2).trans k3⟩
  ·simp only[h4,h5,Gt]at hl |-;have o2T:=w2.tT;have o2F:=w2.tF;have o2R:=w2.tR;refine go ?_;refine WO.bl [(k:Int)] ?_;intro v h3 e3 o3;have w3:=w2.ext' e3;refine go ?_;refine XA w3.own o3.sl w3.ext (by simp) (by simp at hl |-;omega) ?_;intro v4 h4 e4 o4 u4;have Oj:=w3.tR.upB u4.upB w3.vr;have sn:=WP.since' (.inr o4);have Ol:=w3.tT.upB u4.upB w3.vt;have Az:=w3.tF.upB u4.upB w3.vf;obtain⟨g4,q1,q2,rfl,q3⟩:=id o4;refine go ?_;refine VG Oj e4 ?_;intro h5 e5 o5 u5;refine go ?_;refine BN ?_;have hv:WY _ pR:=VF sn w3.tR.within;refine⟨_,⟨Ol.upB u5.upB w3.fT,Az.upB u5.upB w3.fF,o5,WP.upB (.inr (o4.since w3.ext)) u5.upB hv.symm,w3.fT,w3.fF,VF sn w3.tT.within,VF sn w3.tF.within,hv,e5⟩,?_⟩;refine(Wg.ext (e2.trans e3)).trans ⟨QM u4.1 u5.1,fun g hg h1 h2=> ?_,fun b hb=> .inr (sn b hb)⟩;rw[u5.upB.2 g (QG hg u4.1) h1,u4.upB.2 g hg h2]
def zQf(h:WA)(vT:Value)(T:List WF)(k:Nat)(st:BB h vT T)(hT:(T.length:Int)<=1000)(hk:k<T.length)(au:∀ j,j<T.length->ZY T j/\(Br T j).length<=32):
  G0 178 [vT,I k] h fun r h'=>WP h h' r (Br T k)/\WH h h':=by
 obtain⟨t1,t2,t3,rfl⟩:=zD st;refine en ?_;refine VH ?_;intro pT h1 e1 oT;refine go ?_;refine WO.al ?_;intro pR h2 e2 oR;refine go ?_;refine WO.al ?_;intro pF h3 e3 oF;refine go ?_;refine VG (cs:=[.func (.func 236) #[] #[pT,pF,pR]]) oF e3 ?_;intro h4 e4 Az _;have cg:=e1.trans (e2.trans e4);have oT:WB h h1 pT [.slice t1 t2 t3]:=oT;have a1:=VF oR.since' oT.within;have a2:=VF Az.since' oR.within;have w:CW h h4 (.slice t1 t2 t3) pT pF pR (.slice none 0 0) []:=
  ⟨oT.ext (e2.trans e4),Az.since (e1.trans e2),(oR.ext e4).since e1,.inl ⟨rfl,rfl⟩,a1,a2.symm,(fun b hb=>by cases hb),(fun b hb=>by cases hb),(fun b hb=>by cases hb),cg⟩
 have hwF:=w.tF;have hl:=au k hk;refine go ?_;refine VJ (WV.func (zOK h _ pT pF pR T st hT (k+1) k h4 _ [] ω hk (fun j hj=>au j ω) hl.1 w (by simp;omega))) ?_;rintro r h5 ⟨vR,w5,k5⟩;rw[Gf]at w5;have ow:=w5.own;obtain⟨r1,r2,r3,rfl⟩:=Wm.shape ow.sl;have o5:=w5.tR;refine go ?_;refine VG o5 w5.ext ?_;intro h6 e6 o6 u6;refine go ?_;refine rt ?_ (VP WJ o6 rfl BI.nil);exact⟨ow.upB u6.upB w5.vr.symm,e6⟩
def zQG(h:WA)(vT:Value)(T:List WF)(k:Int)(st:BB h vT T)(hT:T.length<=100)(hp:∀ x∈T,x.parts.length<=100)(hc:y8 T=0)(hk:0<=k/\k<(T.length:Int)):
  G0 132 [vT,I k] h fun r h'=>(∃ v,r=.tuple #[v,I 0]/\WP h h' v (Br T k.toNat))/\WH h h':=by
 obtain⟨k,rfl⟩:∃ q:Nat,k=q:=⟨k.toNat,ω⟩;obtain⟨t1,t2,t3,rfl⟩:=zD st;have hl:∀ j,j<T.length->ZY T j/\(Br T j).length<=32:=by
  have h1:=hc;rw[zCy]at h1;split at h1
  ·cases h1
  ·split at h1
   ·assumption
   ·cases h1
 refine en ?_;refine VA (zHF h _ T k st hT hp hc hk) ?_;rintro _ h2 ⟨rfl,e2⟩;have cz:=BB.ext st e2;refine go ?_;refine VA (zQf h2 _ T k cz ω ω hl) ?_;rintro v h3 ⟨o3,e3⟩;refine gr ?_;exact⟨⟨v,rfl,o3.since e2⟩,e2.trans e3⟩
def zBu{T:List WF}(h1:y8 T=0):∀ j,j<T.length->ZY T j/\(Br T j).length<=32:=by
 rw[zCy]at h1;split at h1
 ·cases h1
 ·split at h1
  ·assumption
  ·cases h1
structure KW(hB h:WA)(vT p vA:Value)(b:Nat)(o:Bool)(iz:FuncId)(s:Int)(l:List Int):Prop where
 own:WB hB h p [vT,.bool o,.func (.func iz) #[] #[],I s,vA]
 qX:WR 1 RI b h vA l
 pb:∀ g,p=.pointer (some ⟨g,0,none⟩)->g<b
 bn:b<=h.n
 ext:WH hB h
def KW.off{hB h:WA}{vT p vA:Value}{b:Nat}{o:Bool}{iz:FuncId}{s:Int}{l:List Int}(w:KW hB h vT p vA b o iz s l):WY p vA:=by
 obtain⟨g,_,_,rfl,_⟩:=w.own;have hg:=w.pb g rfl;intro c hc hv;cases hc;rcases w.qX with⟨rfl,_⟩|⟨g2,_,_,g3,_,rfl,_⟩
 ·cases hv
 ·cases hv;exact Nat.lt_irrefl _ (QG hg g3)
def zRz(hB:WA)(bp:hB.mark<=hB.n)(vT p:Value)(b:Nat)(o:Bool)(iz:FuncId)(T:List WF)(st:BB hB vT T)(hT:(T.length:Int)<=1000)
  (hf:∀ (h:WA) (k:Nat) (s:Int),G0 iz [I k,I s] h fun r h'=>r=I (if o then(k:Int)else s)/\h=h'):∀ (n k:Nat) (h:WA) (vA:Value) (s:Int) (l:List Int),k<n->k<T.length->zOV T k->ZY T k->KW hB h vT p vA b o iz s l->hB.n<=b->0<=s->s+300*k<=1000000000->l.length+600*k<=90000->
  G0 134 [p,I k] h fun r h'=>∃ eE,KW hB h' vT p eE b o iz (s+(yF T k).length) (l++wkL T o s k)/\Wg p vA h h' eE:=by
 obtain⟨t1,t2,t3,rfl⟩:=zD st;intro n;induction n with
 |zero=>intro k h vA s l hk;omega
 |succ n ih=>
  intro k h vA s l Ci hk au hM w hb s0 s1 hl;have aP:∀ j,j<=k->ZY T j:=fun j hj=>by
   by_cases e:j=k
   ·subst e;exact hM
   ·exact(au j ω).1
  have Ep:=w.ext;have Er:=st.ext w.ext;have g9:=zGV hM;have Es:=zJp hM;obtain⟨cs,⟨va,rfl,sa,dP⟩,pc,hs⟩:=zq (i:=k) st hk;replace pc:=(pc _ Ep).1;have jQ:∀ q,q<k->(yF T q).length<=32/\(∀ s',(wkL T o s' q).length<=32)/\(SU T q).2=(yF T q).length:=fun q hq=>by
   have h1:=(au q hq).2;have h2:∀ j,j<=q->ZY T j:=fun j hj=>aP j ω;exact⟨QM (zB2 (q+1) q (Q9 _) h2) h1,fun s'=>QM (zUM h2) h1,(zMG (q+1) q (Q9 _) h2).1⟩
  rw[zA0 aP,zLo aP];generalize T.getD k default=x at *;obtain⟨a1,a2,a3,rfl⟩:=Wm.shape sa;have oW:=w.own;obtain⟨gp,_,_,rfl,_⟩:=id oW;refine en ?_;refine WO.al ?_;intro p4 h1 e1 o1;refine go ?_;refine VG o1 e1 ?_;intro h2 e2 o2 _;have Eu:=oW.ext e2;have w2:KW hB h2 (.slice t1 t2 t3) (.pointer (some ⟨gp,0,none⟩)) vA b o iz s l:=⟨Eu,WR.ext w.qX e2,w.pb,QM w.bn e2.n,w.ext.trans e2⟩;have Og:=sa.ext w2.ext;have f2:WY vA p4:=(VF o2.since' w.qX.within).symm;have f1:WY (.pointer (some ⟨gp,0,none⟩)) p4:=(VF o2.since' oW.within).symm;replace jQ:=Wi.mk jQ;replace aP:=Wi.mk aP;by_cases h4:x.kind=4
  ·have hp:=g9 h4;simp only[h4,Qz];have I3:=hp.1;replace hp:=Wi.mk hp;replace au:=Wi.mk au;have hN:Wi (∀ i,∀ p∈x.parts.take i,(SU T p.toNat).2=(yF T p.toNat).length):=⟨fun i p dG=>(jQ.out p.toNat (by have:=hp.out.2 p (GO dG);omega)).2.2⟩;refine go ?_;refine VD (fun i=>x.parts.length-i) (fun i t h3=>zC t 50=I i/\i<=x.parts.length/\∃ eE,KW hB h3 (.slice t1 t2 t3) (.pointer (some ⟨gp,0,none⟩)) eE b o iz (s+(((x.parts.take i).map fun p=>yF T p.toNat).flatten.length:Int)) (l++zGn T o s (x.parts.take i))/\Wg (.pointer (some ⟨gp,0,none⟩)) vA h2 h3 eE/\(zGn T o s (x.parts.take i)).length<=32*i) 0 ?_ ?_
   ·refine⟨WJ,QQ _,vA,?_,Wg.refl ..,?_⟩
    ·have:zGn T o s []=[]:=by cases o<;>rfl
     simpa [this]using w2
    ·have:zGn T o s []=[]:=by cases o<;>rfl
     simp[this]
   rintro i t h3 ab ⟨s7,hi,eE,w3,k3,Om⟩;have qJ:=sa.ext w3.ext;refine F0 ?_ ?_<;>intro hc
   ·have af:i<x.parts.length:=ω
    have pP:=hp.out.2 _ (zd af);obtain⟨q,hq⟩:∃ q:Nat,x.parts.getD i 0=q:=⟨(x.parts.getD i 0).toNat,ω⟩;have lR:q<k:=ω
    have mR:x.parts.take (i+1)=x.parts.take i++[(q:Int)]:=by
     rw[GF,QB af,<-hq];simp[List.getD,QB af]
    have cf:=zRC (o:=o) (s:=s) (q:=(q:Int)) (hN.out i);have bF:=zJZ (l:=x.parts.take i) (f:=fun p=>yF T p.toNat) fun p dG=>(jQ.out p.toNat (by have:=hp.out.2 p (GO dG);omega)).1;have I5:(x.parts.take i).length<=i:=List.length_take_le _ _;have wt:=jQ.out q lR;rw[QZ]at cf;have dz:((x.parts.take (i+1)).map fun p=>yF T p.toNat).flatten.length=((x.parts.take i).map fun p=>yF T p.toNat).flatten.length+(yF T q).length:=by
     rw[mR];simp
    refine go ?_;rw[hq];refine VA (ih q h3 eE _ _ ω ω (fun j hj=>au.out j ω) (au.out q lR).1 w3 hb ω ω (by rw[QH];omega)) ?_;rintro r h4 ⟨On,w4,k4⟩;refine go ?_;refine zA (i+1) ω ⟨Wy,ω,On,?_,k3.trans k4,?_⟩
    ·rw[dz,mR,cf,<-Qd,Int.natCast_add,<-Int.add_assoc];exact w4
    ·rw[mR,cf,QH];have:=wt.2.1 (s+(((x.parts.take i).map fun p=>yF T p.toNat).flatten.length:Int));omega
   ·have bj:i=x.parts.length:=ω
    subst bj;rw[Qs]at w3;refine go ?_;refine BN ?_;exact⟨eE,w3,(Wg.ext e2).trans k3⟩
  by_cases h5:x.kind=5
  ·have hp:=Es h5;obtain⟨q,hq⟩:∃ q:Nat,x.elem=q:=⟨x.elem.toNat,ω⟩;obtain⟨m,hm⟩:∃ m:Nat,x.many=m:=⟨x.many.toNat,ω⟩;have lR:q<k:=ω
   simp only[h5,Qz,Gt,show ¬((5:Int)=4) by decide,hq,hm,QZ];replace au:=Wi.mk au;refine go ?_;refine Vu ?_;refine go ?_;refine VD (fun i=>m-i) (fun i t h3=>zC t 68=I i/\i<=m/\(o=true->i<=1)/\∃ eE,KW hB h3 (.slice t1 t2 t3) (.pointer (some ⟨gp,0,none⟩)) eE b o iz (if i=0 then s else s+((yF T q).length:Int)) (l++if o then(if i=0 then[]else yF T q)else(List.replicate i (wkL T o s q)).flatten)/\Wg (.pointer (some ⟨gp,0,none⟩)) vA h2 h3 eE) 0 ?_ ?_
   ·exact⟨WJ,QQ _,fun _=>QQ _,vA,by cases o<;>simpa using w2,Wg.refl ..⟩
   rintro i t h3 ab ⟨s7,hi,I6,eE,w3,k3⟩;have I4:=(VN o2 k3 f1 f2).1;have I7:=w3.own;refine go ?_;rw[hm];refine F0 ?_ ?_<;>intro hc
   ·have af:i<m:=ω
    by_cases Ew:o=true/\i≠0
    ·obtain⟨rfl,j9⟩:=Ew;have nR:i=1:=by have:=I6 rfl;omega
     subst nR;refine go ?_;refine BN ?_;exact⟨eE,by simpa using w3,(Wg.ext e2).trans k3⟩
    ·have hw:(if o then(if i=0 then[]else yF T q)else(List.replicate i (wkL T o s q)).flatten)++wkL T o s q=(if o then(if i+1=0 then[]else yF T q)else(List.replicate (i+1) (wkL T o s q)).flatten)/\(if o then(if i=0 then[]else yF T q)else(List.replicate i (wkL T o s q)).flatten).length<=32*i:=by
      cases o with
      |true=>
       have:i=0:=by have:=I6 rfl;exact JB fun h=>Ew ⟨rfl,h⟩
       subst this;simp[wkL]
      |false=>
       simp only[Qy,Gt];rw[List.replicate_succ',List.flatten_append];have:=(jQ.out q lR).2.1 s;have h2:=zCV i (wkL T false s q);have h3:=Nat.mul_le_mul_left i this;exact⟨by simp,ω⟩
     have Oo:o=true->i=0:=fun h=>JB fun h2=>Ew ⟨h,h2⟩;have fY:=w3.off;have f3:=(VN o2 k3 f1 f2).2;have wt:=jQ.out q lR;cases o;all_goals
      first|(have j9:i=0:=Oo rfl)|skip
      refine go ?_
      refine VX (j:=3) (cs:=[I s]) (hl:=by simp) I7 w3.ext ?_
      intro h4 e4 Ey u4
      replace Ey:WB hB h4 (.pointer (some ⟨gp,0,none⟩)) [.slice t1 t2 t3,.bool _,.func (.func iz) #[] #[],I s,eE]:=Ey
      have o4p:=WB.upB I4 u4.upB f1
      have w4:=KW.mk Ey (WR.upB (fun _ _ _ _ h=>h) w3.qX u4.upB fY) w3.pb (QM w3.bn u4.1) e4
      refine go ?_
      rw[hq]
      refine VJ (WV.func (ih q h4 eE s _ ω ω (fun j hj=>au.out j ω) (au.out q lR).1 w4 hb s0 ω (by rw[QH];omega))) ?_
      rintro r h5 ⟨Oq,w5,k5⟩
      refine go ?_
      refine zA (i+1) ω ⟨Wy,ω,(fun h=>by first|omega|cases h),Oq,?_,k3.trans (Wg.trans ⟨u4.1,fun g hg h1 _=>u4.upB.2 g hg h1,fun _ h=> .inl h⟩ k5)⟩
      rw[Qd,hw.1]at w5
      simpa using w5
   ·have bj:i=m:=ω
    subst bj;refine go ?_;refine BN ?_;have gg:i≠0:=ω
    exact⟨eE,by simpa [gg]using w3,(Wg.ext e2).trans k3⟩
  ·simp only[h4,h5,Gt];refine go ?_;refine VC 1 rfl rfl ?_;have I8:=Eu.ext (zG 1 h2);have oWX:WB hB (inC (zB 1 h2)) (.pointer (some ⟨gp,0,none⟩)) [.slice t1 t2 t3,.bool o,.func (.func iz) #[] #[],I s,vA]:=I8;clear I8;have bP:∃ c1 c2 c3,vA=.slice c1 c2 c3:=by
    rcases w2.qX with⟨rfl,_⟩|⟨_,_,_,_,_,rfl,_⟩
    ·exact⟨_,_,_,rfl⟩
    ·exact⟨_,_,_,rfl⟩
   obtain⟨c1,c2,c3,rfl⟩:=bP;refine WU ?_;refine VJ (WV.func (hf _ k s)) ?_;rintro _ _ ⟨rfl,rfl⟩;refine nE (WH.refl _) ?_;refine XE (hB:=hB) (b:=b) (v:= .slice c1 c2 c3) (if o then(k:Int)else s) (fun _=>False) (WH.refl _) w2.qX w2.ext (by have:=w2.ext.mark;omega) hb w2.bn (by decide) ω Eu w2.pb (fun _ _ _=>rfl) (fun _ h=>h.elim) (fun _ _ _ _ h=>h) id (by simp) rfl ?_;intro H v' t' ab eH oH aT lH sH kH nH;replace oH:WB hB H (.pointer (some ⟨gp,0,none⟩)) [.slice t1 t2 t3,.bool o,.func (.func iz) #[] #[],I s,v']:=oH;have wH:=KW.mk oH lH w2.pb (QM w2.bn nH) eH;refine go ?_;refine VX (j:=3) (cs:=[I (s+1)]) (hl:=by simp) oH eH ?_;intro h5 e5 o5 u5;replace o5:WB hB h5 (.pointer (some ⟨gp,0,none⟩)) [.slice t1 t2 t3,.bool o,.func (.func iz) #[] #[],I (s+1),v']:=o5;refine go ?_;refine BN ?_;refine⟨v',⟨o5,WR.upB (fun _ _ _ _ h=>h) lH u5.upB wH.off,w2.pb,QM wH.bn u5.1,e5⟩,(Wg.ext e2).trans ⟨QM nH u5.1,fun g hg h1 h2=> ?_,fun b hb=> .inr (sH b hb)⟩⟩;rw[u5.upB.2 g (QG hg nH) h1];exact kH g hg (fun e=>by cases e;exact h1 rfl) (fun _ _ e=>by cases e;exact h2 rfl)
def zL5(h:WA)(k:Nat)(s:Int):G0 133 [I k,I s] h fun r h'=>r=I (if true then(k:Int)else s)/\h=h':=by
 refine en ?_;refine rt ?_;exact⟨rfl,rfl⟩
def zEQ(h:WA)(vT:Value)(T:List WF)(k:Int)(st:BB h vT T)(hT:T.length<=100)(hp:∀ x∈T,x.parts.length<=100)(hc:y8 T=0)(hk:0<=k/\k<(T.length:Int))(hm:h.mark<=h.n):
  G0 71 [vT,I k] h fun r h'=>(∃ v,r=.tuple #[v,I 0]/\WP h h' v (yF T k.toNat))/\WH h h':=by
 obtain⟨k,rfl⟩:∃ q:Nat,k=q:=⟨k.toNat,ω⟩;obtain⟨t1,t2,t3,rfl⟩:=zD st;have hl:=zBu hc;refine en ?_;refine VA (zQG h _ T k st hT hp hc hk) ?_;rintro _ h2 ⟨⟨v2,rfl,o2⟩,e2⟩;refine go ?_;refine VH ?_;intro p h3 e3 o3;obtain⟨gp,_,_,rfl,_⟩:=id o3;have bQ:=e2.trans e3;have uA:∀ g,Value.pointer (some ⟨gp,0,none⟩)=.pointer (some ⟨g,0,none⟩)->g<h3.n:=fun g e=>o3.within _ (by rw[e];rfl);have w:KW h h3 (.slice t1 t2 t3) (.pointer (some ⟨gp,0,none⟩)) (.slice none 0 0) h3.n true 133 0 []:=⟨o3.since e2,.inl ⟨rfl,rfl⟩,uA,QF _,bQ⟩;refine go ?_;refine VA (zRz h hm _ _ h3.n true 133 T st ω zL5 (k+1) k h3 _ 0 [] ω ω (fun j hj=>hl j ω) (hl k ω).1 w bQ.n ω ω (by simp;omega)) ?_;rintro _ h4 ⟨vA,w4,k4⟩;have o4:=w4.own;refine gr ?_;exact⟨⟨vA,rfl,zBx w4.qX bQ.n⟩,w4.ext⟩
structure W9 where
 fn:Int
 nr:Int
 ty:Int
instance:Inhabited W9:=⟨⟨0,0,0⟩⟩
def RSt(_:WA)(cs:List Value)(x:W9):Prop:=cs=[I x.fn,I x.nr,I x.ty]
abbrev SlS(h:WA)(v:Value)(l:List W9):Prop:=W7 3 RSt h v l
def zF2(h h':WA)(cs:List Value)(a:W9)(r:RSt h cs a):RSt h' cs a:=r
def SlS.ext{h h' v l}(s:SlS h v l)(e:WH h h'):SlS h' v l:=W7.ext (fun _ _ r=>zF2 _ _ _ _ r) s e
def Za(x:Wu):Bool:=decide (x.op=11)||decide (x.op=12)
def Zc(T:List WF)(f:Int):Int->List Wu->List W9
 |_,[]=>[]
 |n,x::l=>(if Za x then[⟨f,n,(T.getD x.ty.toNat default).elem⟩]else[])++Zc T f (n+1) l
def ZJ(T:List WF)(f:Int):Int->List Wk->List W9
 |_,[]=>[]
 |n,b::l=>Zc T f n b.ins++ZJ T f (n+b.ins.length) l
def ZZ(T:List WF):Int->List We->List W9
 |_,[]=>[]
 |f,g::l=>ZJ T f ((T.getD g.sig.toNat default).parts.length:Int) g.blocks++ZZ T (f+1) l
def zW(T:List WF)(F:List We):List W9:=ZZ T 0 F
section
variable {T:List WF}{f:Int}
def zEj{x:Wu}:∀ {l:List Wu} {n:Int},Zc T f n (l++[x])=Zc T f n l++(if Za x then[⟨f,n+l.length,(T.getD x.ty.toNat default).elem⟩]else[])
 |[],n=>by simp[Zc]
 |y::l,n=>by
  simp only[JG,Zc,zEj (l:=l),Qd,Qn];congr 3;rw[show n+1+(l.length:Int)=n+((l.length+1:Nat):Int) by omega]
def zC0:∀ {l:List Wu} {n:Int},(Zc T f n l).length<=l.length
 |[],_=>QF _
 |x::l,n=>by
  have:=zC0 (l:=l) (n:=n+1);simp only[Zc,QH,Qn];split<;>simp<;>omega
def zEn{b:Wk}:∀ {l:List Wk} {n:Int},ZJ T f n (l++[b])=ZJ T f n l++Zc T f (n+zL l) b.ins
 |[],n=>by simp[ZJ,zL]
 |c::l,n=>by
  simp only[JG,ZJ,zEn (l:=l),Qd];rw[zAj,Int.add_assoc]
def zC1:∀ {l:List Wk} {n:Int},((ZJ T f n l).length:Int)<=zL l
 |[],_=>by simp[ZJ,zL]
 |b::l,n=>by
  have h1:=zC1 (l:=l) (n:=n+b.ins.length);have h2:=zC0 (T:=T) (f:=f) (l:=b.ins) (n:=n);rw[zAj];simp only[ZJ,QH];omega
def zEa{g:We}:∀ {l:List We} {f:Int},ZZ T f (l++[g])=ZZ T f l++ZJ T (f+l.length) ((T.getD g.sig.toNat default).parts.length:Int) g.blocks
 |[],f=>by simp[ZZ]
 |c::l,f=>by
  simp only[JG,ZZ,zEa (l:=l),Qd,Qn];congr 3;omega
def zC8:∀ {l:List We} {f:Int},(∀ g∈l,zL g.blocks<=128)->(ZZ T f l).length<=128*l.length
 |[],_,_=>QF _
 |g::l,f,h=>by
  have h1:=zC8 (l:=l) (f:=f+1) fun q hq=>h q (QW _ hq);have h2:=zC1 (T:=T) (f:=f) (l:=g.blocks) (n:=((T.getD g.sig.toNat default).parts.length:Int));have h3:=h g (QR ..);simp only[ZZ,QH,Qn];omega
end
def zDT:∀ l:List Wk,0<=zL l
 |[]=>by simp[zL]
 |b::l=>by have:=zDT l;rw[zAj];omega
def zHL(l:List Wk)(j:Nat):0<=zL (l.take j)/\zL (l.take j)<=zL l:=by
 have h:zL l=zL (l.take j)+zL (l.drop j):=by
  conv=>lhs;rw[<-GR j l]
  unfold zL;rw[Q5,Gs]
 have h1:=zDT (l.take j);have h2:=zDT (l.drop j);omega
def yy{α:Type}[Inhabited α]{l:List α}{i:Nat}(h:i<l.length):l.take (i+1)=l.take i++[l.getD i default]:=by
 rw[GF,QB h];simp[List.getD,QB h]
def zO4(h:WA)(x:Wu):G0 171 [.int .u8 x.op] h fun r h'=>r=.bool (Za x)/\h=h':=by
 refine en ?_;by_cases h1:x.op=11
 ·refine gr ?_;exact⟨by unfold Za;simp[h1];rfl,rfl⟩
 ·refine gr ?_;exact⟨by unfold Za;simp[h1];rfl,rfl⟩
def zQZ(h:WA)(vt vf:Value)(T:List WF)(F:List We)(E:SE h vt vf T F)(dV:∀ g∈F,0<=g.sig/\g.sig<(T.length:Int))(iW:∀ g∈F,zL g.blocks<=128)(hF:F.length<=8)
  (cD:∀ g∈F,∀ B∈g.blocks,∀ x∈B.ins,Za x=true->0<=x.ty/\x.ty<(T.length:Int)):
  G0 115 [.agg #[vt,vf]] h fun r h'=>WR 3 RSt h.n h' r (zW T F)/\WH h h':=by
 have kD:∀ i,(ZZ T 0 (F.take i)).length<=1024:=fun i=>by
  have:=zC8 (T:=T) (l:=F.take i) (f:=0) fun g hg=>iW g (GO hg);have h2:(F.take i).length<=F.length:=by rw[Qp];omega
  omega
 have sm:=E.sm;have ud:=sm.funcs;replace kD:=Wi.mk kD;replace dV:=Wi.mk dV;replace iW:=Wi.mk iW;replace cD:=Wi.mk cD;have Er:=E.st;have I9:=E.sf;obtain⟨t1,t2,t3,rfl⟩:=zD Er;obtain⟨f1,f2,f3,rfl⟩:=zD I9;refine en ?_;refine VH ?_;intro p h1 e1 o1;replace o1:WB h h1 p [.slice t1 t2 t3,.slice f1 f2 f3]:=o1;have E1:=E.ext e1;have xP:=E1.sf;refine go ?_;refine VD (fun i=>F.length-i) (fun i t h2=>zC t 13=I i/\i<=F.length/\WH h1 h2/\∃ v,zC t 2=v/\WR 3 RSt h1.n h2 v (ZZ T 0 (F.take i))) 0 ?_ ?_
 ·exact⟨WJ,QQ _,WH.refl _,.slice none 0 0,WJ,.inl ⟨rfl,rfl⟩⟩
 rintro i t h2 ab ⟨Nd,hi,e2,v,s2,ov⟩;have o2:=o1.ext e2;have E2:=E1.ext e2;have eV:=E2.sf;have cz:=E2.st;refine F0 ?_ ?_<;>intro hb
 ·have af:i<F.length:=ω
  have il:=zH (l:=F) (i:=i) af;obtain⟨cs,⟨vb,rfl,sb,fC⟩,px,hs⟩:=zq (i:=i) xP af;have pc:=(px _ e2).1;have gx:=dV.out _ il;have pW:=sm.blocks _ il;have ed:=sm.parts _ (zH (l:=T) (i:=(F.getD i default).sig.toNat) ω);have cf:ZZ T 0 (F.take (i+1))=ZZ T 0 (F.take i)++ZJ T i ((T.getD (F.getD i default).sig.toNat default).parts.length:Int) (F.getD i default).blocks:=by
   rw[yy af,zEa,Qp,Gg ω,Int.zero_add]
  have qY:=sm.ins _ il;have qZ:=cD.out _ il;have Ot:=iW.out _ il;replace qY:=Wi.mk qY;replace qZ:=Wi.mk qZ;generalize F.getD i default=g at *;obtain⟨b1,b2,b3,rfl⟩:=zD sb;refine go ?_;refine WO.al ?_;intro p4 h3 e3 o3;refine go ?_;refine VG o3 e3 ?_;intro h4 e4 o4 _;have cB:=e2.trans e4;have Ay:=Bb.ext sb cB;have nM:=cz.ext e4;have qS:=o2.ext e4;obtain⟨nO,⟨va,rfl,sa,dP⟩,fB,qj⟩:=ZX (i:=g.sig.toNat) nM ω;obtain⟨a1,a2,a3,rfl⟩:=Wm.shape sa;have Ou:=WR.ext ov e4;refine go ?_;refine VD (fun j=>g.blocks.length-j) (fun j t h5=>zC t 29=I j/\j<=g.blocks.length/\WH h1 h5/\zC t 5=I ((T.getD g.sig.toNat default).parts.length+zL (g.blocks.take j))/\∃ v,zC t 2=v/\WR 3 RSt h1.n h5 v (ZZ T 0 (F.take i)++ZJ T i ((T.getD g.sig.toNat default).parts.length:Int) (g.blocks.take j))) 0 ?_ ?_
  ·exact⟨WJ,QQ _,e2.trans e4,by rw[show zL (g.blocks.take 0)=0 by simp[zL],Int.add_zero];exact WJ,v,WJ,by simpa [ZJ]using Ou⟩
  rintro j t' h5 gW ⟨s29,hj,e5,s5,v',s2',Ez⟩;have o5:=o1.ext e5;have E5:=E1.ext e5;have Oe:=Bb.ext sb e5;refine go ?_;refine VE (fun eK=> ?_) (fun eK=> ?_)<;>simp only[DB]at eK
  ·have dY:j<g.blocks.length:=ω
   have wu:=zH (l:=g.blocks) (i:=j) dY;obtain⟨xQ,⟨vi,rfl,si,qo⟩,Ov,uJ⟩:=zq (i:=j) sb dY;have su:=(Ov _ e5).1;have gb:=qY.out _ wu;have EA:ZJ T i ((T.getD g.sig.toNat default).parts.length:Int) (g.blocks.take (j+1))=ZJ T i ((T.getD g.sig.toNat default).parts.length:Int) (g.blocks.take j)++Zc T i ((T.getD g.sig.toNat default).parts.length+zL (g.blocks.take j)) (g.blocks.getD j default).ins:=by
    rw[yy dY,zEn]
   have bp:zL (g.blocks.take (j+1))=zL (g.blocks.take j)+((g.blocks.getD j default).ins.length:Int):=by
    rw[yy dY];unfold zL;simp
   have gg:0<=zL (g.blocks.take j)/\zL (g.blocks.take j)<=128:=by
    have:=zHL g.blocks j;omega
   have uJ:=zC1 (T:=T) (f:=(i:Int)) (l:=g.blocks.take j) (n:=((T.getD g.sig.toNat default).parts.length:Int));have rb:=qZ.out _ wu;replace rb:=Wi.mk rb;generalize g.blocks.getD j default=B at *;obtain⟨i1,i2,i3,rfl⟩:=zD si;refine go ?_;refine WO.al ?_;intro p7 h6 e6 o7;refine go ?_;refine VG o7 e6 ?_;intro h7 e7 o7 _;have eU:=e5.trans e7;have IM:=Bx.ext si eU;have Ow:=WR.ext Ez e7;refine go ?_;refine VD (fun q=>B.ins.length-q) (fun q t h8=>zC t 36=I q/\q<=B.ins.length/\WH h1 h8/\zC t 5=I ((T.getD g.sig.toNat default).parts.length+zL (g.blocks.take j)+q)/\∃ v,zC t 2=v/\WR 3 RSt h1.n h8 v (ZZ T 0 (F.take i)++ZJ T i ((T.getD g.sig.toNat default).parts.length:Int) (g.blocks.take j)++Zc T i ((T.getD g.sig.toNat default).parts.length+zL (g.blocks.take j)) (B.ins.take q))) 0 ?_ ?_
   ·exact⟨WJ,QQ _,eU,by rw[show((0:Nat):Int)=0 from rfl,Int.add_zero];exact WJ,v',WJ,by simpa [Zc]using Ow⟩
   rintro q EB h8 iA ⟨s36,hq,e8,Ox,Jb,Oy,mS⟩;have o8:=o1.ext e8;have si8:=Bx.ext si e8;have st8:=(E1.ext e8).st;refine go ?_;refine VE (fun wz=> ?_) (fun wz=> ?_)<;>simp only[DB]at wz
   ·have di:q<B.ins.length:=ω
    have se:=zH (l:=B.ins) (i:=q) di;obtain⟨Jc,⟨xa,xf,rfl,fW,gy,l7,Jd,ho⟩,Oz,Je⟩:=zq (i:=q) si di;have AA:=(Oz _ e8).1;have wA:∀ n:Int,Zc T i n (B.ins.take (q+1))=Zc T i n (B.ins.take q)++(if Za (B.ins.getD q default)then[⟨i,n+q,(T.getD (B.ins.getD q default).ty.toNat default).elem⟩]else[]):=fun n=>by
     rw[yy di,zEj,Qp,Gg ω]
    have EC:=rb.out _ se;generalize B.ins.getD q default=x at *;obtain⟨lI,lJ,lK,rfl⟩:=Wm.shape fW;obtain⟨lM,lN,lO,rfl⟩:=Wm.shape gy;refine go ?_;refine WO.al ?_;intro p9 h9 e9 o9;refine go ?_;refine VG (cs:=[.int .u8 x.op,I x.ty,I x.a,I x.b,I x.n,.slice lI lJ lK,.slice lM lN lO]) o9 e9 ?_;intro gV dR iw _;refine go ?_;refine VA (zO4 gV x) ?_;rintro _ _ ⟨rfl,rfl⟩;have mT:=e8.trans dR;cases de:Za x with
    |true=>
     have hx:=EC de;have qP:=o8.ext dR;have ED:=(E1.ext mT).st;obtain⟨nO,⟨ya,rfl,OA,hya⟩,OB,OC⟩:=ZX (i:=x.ty.toNat) ED ω;obtain⟨y1,y2,y3,rfl⟩:=Wm.shape OA;have my:=zC0 (T:=T) (f:=(i:Int)) (l:=B.ins.take q) (n:=(T.getD g.sig.toNat default).parts.length+zL (g.blocks.take j));have wB:(B.ins.take q).length<=q:=List.length_take_le _ _;have sq:=kD.out i;refine go ?_;refine Ub (hB:=h1) (b:=h1.n) (⟨i,(T.getD g.sig.toNat default).parts.length+zL (g.blocks.take j)+q,(T.getD x.ty.toNat default).elem⟩:W9) (fun _=>False) (WR.ext mS dR) mT (QF _) mT.n (by decide) (by simp only[QH];omega) (fun _ _ _=>rfl) (fun _ h=>h.elim) (fun _ _ _ _ h=>h) ?_;intro OD gi lit aQ cT wC OE;refine go ?_;refine zA (q+1) ω ⟨Wy,ω,aQ,?_,OD,WJ,?_⟩
     ·rw[show((T.getD g.sig.toNat default).parts.length:Int)+zL (g.blocks.take j)+((q+1:Nat):Int)=(T.getD g.sig.toNat default).parts.length+zL (g.blocks.take j)+q+1 by omega];exact WJ
     ·rw[wA,de,QJ rfl,<-Qd];exact cT
    |false=>
     refine go ?_;refine zA (q+1) ω ⟨Wy,ω,mT,?_,Jb,WJ,?_⟩
     ·rw[show((T.getD g.sig.toNat default).parts.length:Int)+zL (g.blocks.take j)+((q+1:Nat):Int)=(T.getD g.sig.toNat default).parts.length+zL (g.blocks.take j)+q+1 by omega];exact WJ
     ·rw[wA,de];simpa using WR.ext mS dR
   ·have lu:q=B.ins.length:=ω
    subst lu;rw[Qs]at mS;refine go ?_;refine zA (j+1) ω ⟨Wy,ω,e8,?_,Jb,WJ,?_⟩
    ·rw[bp,<-Int.add_assoc];exact WJ
    ·rw[EA,<-Qd];exact mS
  ·have mK:j=g.blocks.length:=ω
   subst mK;rw[Qs]at Ez;refine go ?_;refine zA (i+1) ω ⟨Wy,ω,e5,v',WJ,?_⟩;rw[cf];exact Ez
 ·have bj:i=F.length:=ω
  subst bj;rw[Qs]at ov;refine gr ?_;exact⟨ov.base e1.n,e1.trans e2⟩
def zMS{T:List WF}{F:List We}(hs:zb T F=0){f:Nat}(hf:f<F.length){b:Nat}(hb:b<(F.getD f default).blocks.length){i:Nat}(hi:i<((F.getD f default).blocks.getD b default).ins.length)(hm:Za (((F.getD f default).blocks.getD b default).ins.getD i default)=true):
  BD T 2 (((F.getD f default).blocks.getD b default).ins.getD i default).ty=true/\Bj T (((F.getD f default).blocks.getD b default).ins.getD i default).ty:=by
 obtain⟨hp,hw⟩:=z8 hs;have Z:=zC5 hp (f:=(f:Int)) ω;have W:=(hw f ω ω).2.2 b ω (by show(b:Int)<((F.getD ((f:Int)).toNat default).blocks.length:Int);rw[QZ];omega);have h1:=W.1 i (by show i<(((F.getD ((f:Int)).toNat default).blocks.getD ((b:Int)).toNat default).ins.length);rw[QZ,QZ];exact hi);have hV:=Z.V ((F.getD f default).blocks.getD b default) (by show _∈(F.getD ((f:Int)).toNat default).blocks;rw[QZ];exact zH hb) _ (zH hi);refine⟨?_,hV.ty⟩;unfold Yn zIM at h1;have h2:=h1.2.1;rw[show((zR F f).getD ((b:Int)).toNat default).ins.getD i default=((F.getD f default).blocks.getD b default).ins.getD i default from by unfold zR;rw[QZ,QZ]]at h2;generalize((F.getD f default).blocks.getD b default).ins.getD i default=x at *;unfold Za at hm;simp only[GM,Qc]at hm;unfold zB4 at h2;rw[QC ω,QC ω,QC ω,QJ hm]at h2;exact h2
def zAH{α:Type}[Inhabited α]{l:List α}{x:α}(h:x∈l):∃ i,i<l.length/\l.getD i default=x:=by
 obtain⟨i,hi,rfl⟩:=G6 h;exact⟨i,hi,by simp[List.getD,QB hi]⟩
def zJm(h:WA)(vt vf:Value)(T:List WF)(F:List We)(E:SE h vt vf T F):
  G0 54 [.agg #[vt,vf]] h fun r h'=>(∃ v,r=.tuple #[v,I (zb T F)]/\WR 3 RSt h.n h' v (if zb T F=0 then zW T F else[]))/\WH h h':=by
 refine en ?_;refine VH ?_;intro p h1 e1 o1;replace o1:WB h h1 p [vt,vf]:=o1;have E1:=E.ext e1;refine go ?_;refine VA (zOP h1 vt vf T F E1) ?_;rintro _ h2 ⟨rfl,e2⟩;have o2:=o1.ext e2;have E2:=E1.ext e2;by_cases hs:zb T F=0;case neg=>
  rw[QC hs];refine gr ?_;exact⟨⟨_,rfl,.inl ⟨rfl,rfl⟩⟩,e1.trans e2⟩
 rw[QJ hs];obtain⟨hp,hw⟩:=z8 hs;obtain⟨hc,l5,lQ,hfn⟩:=yg hp;have hg:∀ g∈F,(0<=g.sig/\g.sig<(T.length:Int))/\zL g.blocks<=128:=fun g hg=>by
  obtain⟨i,hi,rfl⟩:=zAH hg;have Z:=zC5 hp (f:=(i:Int)) ω;have h1:=Z.sig;have h2:=Z.many;unfold zR at h2;rw[QZ]at h1 h2;exact⟨h1,h2⟩
 have cD:∀ g∈F,∀ B∈g.blocks,∀ x∈B.ins,Za x=true->0<=x.ty/\x.ty<(T.length:Int):=fun g hg B hB x hx hm=>by
  obtain⟨f,hf,rfl⟩:=zAH hg;obtain⟨b,hb,rfl⟩:=zAH hB;obtain⟨i,hi,rfl⟩:=zAH hx;have:=zMS hs hf hb hi hm;refine this.2.resolve_left fun e=> ?_;have h1:=this.1;unfold BD at h1;rw[e]at h1;cases h1
 have gx:∀ g∈F,0<=g.sig/\g.sig<(T.length:Int):=fun g q=>(hg g q).1;have iW:∀ g∈F,zL g.blocks<=128:=fun g q=>(hg g q).2;rw[hs];replace hg:=Wi.mk hg;replace hfn:=Wi.mk hfn;refine go ?_;refine VA (zQZ h2 vt vf T F E2 gx iW lQ cD) ?_;rintro v h3 ⟨ov,e3⟩;refine gr ?_;exact⟨⟨v,rfl,ov.base (e1.trans e2).n⟩,e1.trans (e2.trans e3)⟩
section
variable {hB h h' h2:WA}{p vR vF vS v':Value}{rs fs l:List Int}{ss:List W9}
end
def zOD{α:Type}{R:WA->List Value->α->Prop}{h0 h:WA}{c:Nat}{v:Value}{xs:List α}(o:WR c R h0.n h v xs):zB3 h0 v:=fun b hb=>by
 rcases o with⟨rfl,_⟩|⟨g,_,_,g1,_,rfl,_⟩
 ·cases hb
 ·cases hb;exact g1
def zt(T:List WF)(F:List We):List Int:=F.map fun g=>((T.getD g.sig.toNat default).parts.length:Int)+zL g.blocks
def Z9(T:List WF)(F:List We):List Int:=(zW T F).map fun s=>((yF T s.ty.toNat).length:Int)
def zMX{T:List WF}{F:List We}(hp:Yl T F=0){i:Nat}(hi:i<F.length):zAc T F i=(((T.getD (F.getD i default).sig.toNat default).parts.length:Int)+zL (F.getD i default).blocks,0):=by
 have kC:ZW T F i=(((T.getD (F.getD i default).sig.toNat default).parts.length:Int),0):=by
  unfold ZW;rw[QC (fun e=>e hp),QJ (by unfold zp;simp;omega),QZ]
 unfold zAc;rw[kC];simp
def zGW{T:List WF}{f:Int}{s:W9}:∀ {l:List Wu} {n:Int},s∈Zc T f n l->∃ x∈l,Za x=true/\s.ty=(T.getD x.ty.toNat default).elem
 |[],_,h=>by cases h
 |x::l,n,h=>by
  unfold Zc at h;rcases Qf.1 h with h|h
  ·split at h
   ·rename_i hm;rw[QO]at h;subst h;exact⟨x,QR ..,hm,rfl⟩
   ·cases h
  ·obtain⟨y,a,b⟩:=zGW h;exact⟨y,QW _ a,b⟩
def zFt{T:List WF}{f:Int}{s:W9}:∀ {l:List Wk} {n:Int},s∈ZJ T f n l->∃ b∈l,∃ x∈b.ins,Za x=true/\s.ty=(T.getD x.ty.toNat default).elem
 |[],_,h=>by cases h
 |x::l,n,h=>by
  unfold ZJ at h;rcases Qf.1 h with h|h
  ·exact⟨x,QR ..,zGW h⟩
  ·obtain⟨y,a,b⟩:=zFt h;exact⟨y,QW _ a,b⟩
def zGA{T:List WF}{s:W9}:∀ {l:List We} {f:Int},s∈ZZ T f l->∃ g∈l,∃ b∈g.blocks,∃ x∈b.ins,Za x=true/\s.ty=(T.getD x.ty.toNat default).elem
 |[],_,h=>by cases h
 |x::l,n,h=>by
  unfold ZZ at h;rcases Qf.1 h with h|h
  ·exact⟨x,QR ..,zFt h⟩
  ·obtain⟨y,a,b⟩:=zGA h;exact⟨y,QW _ a,b⟩
def zAS{T:List WF}{F:List We}(hs:zb T F=0):∀ s∈zW T F,0<=s.ty/\s.ty<(T.length:Int):=fun s h=>by
 obtain⟨g,hg,B,hB,x,hx,hm,he⟩:=zGA h;obtain⟨f,hf,rfl⟩:=zAH hg;obtain⟨b,hb,rfl⟩:=zAH hB;obtain⟨i,hi,rfl⟩:=zAH hx;obtain⟨h1,h2⟩:=zMS hs hf hb hi hm;have hc:=(yg (z8 hs).1).1;have h3:=zGU hc h2;unfold Bq at h3;rw[QJ h1,<-he]at h3;rcases h3 with h3|h3
 ·unfold BD at h1;simp only[QI,Qc]at h1;have hm:=zBY hc (h2.resolve_left h1.1).1 (h2.resolve_left h1.1).2;unfold ZY zGk at hm;omega
 ·exact h3
def zCm{T:List WF}{F:List We}(hs:zb T F=0):(zW T F).length<=1024:=by
 have hp:=(z8 hs).1;obtain⟨hc,l5,lQ,hfn⟩:=yg hp;have:=zC8 (T:=T) (l:=F) (f:=0) fun g hg=>by
  obtain⟨i,hi,rfl⟩:=zAH hg;have h2:=(zC5 hp (f:=(i:Int)) ω).many;unfold zR at h2;rw[QZ]at h2;exact h2
 unfold zW;omega
def zAC:∀ {l:List Int},(∀ x∈l,0<=x/\x<=1000)->0<=l.sum/\l.sum<=1000*l.length
 |[],_=>by simp
 |x::l,h=>by
  have:=zAC fun y hy=>h y (QW _ hy);have:=h x (QR ..);simp only[G8,Qn];omega
section
variable {h0 h:WA}{vR vF vS:Value}{Rg Fl:List Int}{S:List W9}
end
end Go.Proofs.YtndffgfnndoifaaGreatDoor
