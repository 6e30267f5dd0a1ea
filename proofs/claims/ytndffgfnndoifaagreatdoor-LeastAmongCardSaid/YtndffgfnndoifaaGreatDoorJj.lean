/- Walks of functions, plain laws; proves no statement. -/
import Derived.Test.YtndffgfnndoifaaGreatDoorJi
set_option linter.all false
set_option maxHeartbeats 4000000
set_option maxRecDepth 100000
namespace Go.Proofs.YtndffgfnndoifaaGreatDoor
open Go.Am
section
variable {h0 h:WA}{p vt vf vK vA vR vl va:Value}{T:List WF}{F:List We}{X:Nat}{L:List (List Wa)}
def Zp{x:Wh}(A:SV T F L x){n:Int}(hn:Ba T F n):n.toNat<L.length/\setL L n=L.getD n.toNat []/\By T F (setL L n):=by
 have h1:n.toNat<L.length:=by have:=A.len;unfold Ba at hn;omega
 exact⟨h1,rfl,A.sets _ (by unfold setL;rw[QD,QB h1];exact JE h1)⟩
def zHm(x:Wh)(n:Int)(ha:x.args.length<=1000):(zAt T F L x n).length<=1001:=by
 unfold zAt;split
 ·rw[QH,zMa];simp;omega
 ·simp
def zR5{f:Nat}(hf:f<F.length):(Zz T F).getD f 0=Wn T F f 0/\f<(Zz T F).length:=by
 have h1:f<(Zz T F).length:=by unfold Zz;simpa using hf
 refine⟨?_,h1⟩;unfold Zz Wn;rw[QD,GQ,List.getElem?_range hf,QZ,Int.add_zero];rfl
def zPs(E:SE h vt vf T F)(hs:zb T F=0)(K:TE h0 h p vt vf vK vA vR T F)(TT:SF h)(sL:BH X h vl L)(x:Wh)(sa:OwA h va x.args)(d8:x.args.length<=1000)(A:SV T F L x):
  G0 78 [p,vl,.agg #[.int .u8 x.kind,I x.to,I x.frm,I x.n,va]] h fun r h'=>Bu h h' X r ((ye T F (setL L x.frm) 1).flatMap fun n=>zAt T F L x n)/\WH h h':=by
 obtain⟨⟨k1,k2,k3,rfl⟩,⟨a1,a2,a3,rfl⟩,⟨r1,r2,r3,rfl⟩⟩:=K.sh;obtain⟨t1,t2,t3,rfl⟩:=zD E.st;obtain⟨f1,f2,f3,rfl⟩:=zD E.sf;obtain⟨l1,l2,l3,rfl⟩:=zD sL;obtain⟨v1,v2,v3,rfl⟩:=Wm.shape sa.sl;obtain⟨hp,hw⟩:=z8 hs;obtain⟨hc,l5,lQ,hfn⟩:=yg hp;have tx:=sa.sl;obtain⟨c1,c2,c3⟩:=Zp A A.frm;have aT:=zHW c3;have aq:=YA (k:=1) c3;have hm:=E.hm;have hA:=A.frm;unfold Ba at hA;refine en ?_;refine VH ?_;intro p1 h1 e1 o1;replace o1:WB h h1 p1 [.int .u8 x.kind,I x.to,I x.frm,I x.n,.slice v1 v2 v3]:=o1;have lV:=BH.ext sL e1;have K1:=K.ext e1;have E1:=E.ext e1;have tI:=TT.ext e1;obtain⟨w,Fw,⟨w1,w2,w3,rfl⟩,pc,bP⟩:=lV.get c1;have jq:=(pc _ (WH.refl _)).1;refine go ?_;refine VA (zDG K1 E1.hm tI Fw.1 Fw.2.1 c3 1) ?_;rintro rR h2 ⟨o2,e2⟩;replace o2:WP h1 h2 rR (ye T F (setL L x.frm) 1):=o2;obtain⟨n1,n2,n3,rfl⟩:=Wm.shape o2.sl;have iC:=aT;generalize hN:ye T F (setL L x.frm) 1=N at *;have aE:=e1.trans e2;have rS:=fun {i:Nat} (hi:i<N.length)=>zFA (fun n=>zAt T F L x n) hi;have bF:∀ i,((N.take i).flatMap fun n=>zAt T F L x n).length<=9000:=fun i=>by
  have h1:=zBi (fun n=>zAt T F L x n) 1001 (l:=N.take i) fun n _=>zHm x n d8;have h2:(N.take i).length<=N.length:=by rw[Qp];omega
  have h3:1001*(N.take i).length<=1001*8:=Nat.mul_le_mul_left _ ω;omega
 refine go ?_;refine VD (fun i=>N.length-i) (fun i t h5=>zC t 21=I i/\i<=N.length/\WH h2 h5/\∃ a b c,zC t 6=.slice a b c/\Bu h2 h5 X (.slice a b c) ((N.take i).flatMap fun n=>zAt T F L x n)) 0 ?_ ?_
 ·exact⟨WJ,QQ _,WH.refl _,_,_,_,WJ,Bu.nil⟩
 rintro i t h5 ab ⟨Pp,hi,e5,b1,b2,b3,s6,D5⟩;have cH:=e2.trans e5;have bh:=aE.trans e5;have K5:=K.ext bh;have FN:=K5.own;have uF:=K5.f;have s5:=o2.sl.ext e5;have jt:=o1.ext cH;have xJ:=tx.ext bh;refine F0 ?_ ?_<;>intro hb
 ·have af:i<N.length:=ω
  obtain⟨eh,iJ⟩:=aq _ (zd af);obtain⟨AT,RG⟩:=zED eh;have lr:0<=yW T F (N.getD i 0)/\yW T F (N.getD i 0)<(F.length:Int):=by
   rcases zEL eh with h|h|h<;>omega
  have dz:=rS af;have RH:zAt T F L x (N.getD i 0)=if(yb T F (yW T F (N.getD i 0))).parts.length=x.args.length then((List.range x.args.length).flatMap fun(j:Nat)=>[(⟨Wn T F (yW T F (N.getD i 0)) j,setL L (x.args.getD j 0)⟩:Wj)])++[⟨x.to,setL L (zV T F+yW T F (N.getD i 0))⟩]else[]:=rfl;have rT:=bF i;rw[RH]at dz;generalize(N.take i).flatMap (fun n=>zAt T F L x n)=M at *;have Z:=zC5 hp lr;have gx:=Z.sig;have hP:yb T F (yW T F (N.getD i 0))=T.getD (F.getD (yW T F (N.getD i 0)).toNat default).sig.toNat default:=rfl;refine go ?_;rw[AT];have sq:(F.getD (yW T F (N.getD i 0)).toNat default).sig.toNat<T.length:=ω
  obtain⟨lx,⟨vb,rfl,sb,fC⟩,fS,jW⟩:=zq (i:=(yW T F (N.getD i 0)).toNat) E.sf ω;obtain⟨nO,⟨vp,rfl,sp,sG⟩,fB,qj⟩:=zq (i:=(F.getD (yW T F (N.getD i 0)).toNat default).sig.toNat) E.st sq;have FP:=(fS _ bh).1;have FQ:=(fB _ bh).1;have dL:=E.sm.parts _ (zH sq);have sp5:=sp.ext bh;have FT:=BA.ext E.sf bh;have FU:=BB.ext E.st bh;obtain⟨b4,b5,b6,rfl⟩:=zD sb;obtain⟨q1,q2,q3,rfl⟩:=Wm.shape sp;rw[hP]at dz;have hfa:0<=zV T F/\zV T F<=8000:=by
   obtain⟨ee,me,-,-⟩:=zAI hs;have oh:=zAC ee;unfold zV;omega
  obtain⟨Ke,fe2⟩:=zR5 (T:=T) (F:=F) (f:=(yW T F (N.getD i 0)).toNat) ω;generalize P9:T.getD (F.getD (yW T F (N.getD i 0)).toNat default).sig.toNat default=P0 at *;generalize yW T F (N.getD i 0)=f at *;by_cases hlen:P0.parts.length=x.args.length;case neg=>
   rw[QC hlen,GW]at dz;refine go ?_;exact zA (i+1) ω ⟨Wy,ω,e5,_,_,_,WJ,by rw[dz];exact D5⟩
  rw[QJ hlen]at dz;have hnd:=zBz hs;have kI:∀ j:Nat,Wn T F f j=(Zz T F).getD f.toNat 0+j:=fun j=>by rw[Ke,Int.toNat_of_nonneg lr.1];unfold Wn;omega
  have tC:0<=(Zz T F).getD f.toNat 0/\(Zz T F).getD f.toNat 0<=8000:=by
   obtain⟨ee,me,-,-⟩:=zAI hs;have oh:=zAC (l:=(zt T F).take f.toNat) fun x hx=>ee x (GO hx);have hl:=List.length_take_le f.toNat (zt T F);have h8:((zt T F).take f.toNat).length<=8:=ω
   rw[Ke];unfold Wn;rw[QZ];omega
  have lq:∀ j,j<=x.args.length->(M++(List.range j).flatMap fun(j:Nat)=>[(⟨Wn T F f j,setL L (x.args.getD j 0)⟩:Wj)]).length<=10000:=fun j hj=>by
   rw[QH,zMa];omega
  refine go ?_;clear FP FQ fS fB FU FT;refine VD (fun j=>x.args.length-j) (fun j t h6=>zC t 57=I j/\j<=x.args.length/\WH h2 h6/\∃ a b c,zC t 6=.slice a b c/\Bu h2 h6 X (.slice a b c) (M++(List.range j).flatMap fun(j:Nat)=>[⟨Wn T F f j,setL L (x.args.getD j 0)⟩])) 0 ?_ ?_
  ·exact⟨WJ,QQ _,e5,_,_,_,WJ,by simpa using D5⟩
  rintro j t' h6 gW ⟨s57,hj,e6,d1,d2,d3,H8,D6⟩;have c9:=aE.trans e6;have K6:=K.ext c9;have nb:=K6.own;have rG:=o1.ext (e2.trans e6);have xK:=tx.ext c9;have lU:h6.mark<=h2.n:=by rw[c9.mark];exact QM hm aE.n
  have xT:=lq j hj;have FV:=BH.ext sL (c9.trans (zG 1 h6));have rU:BH X (inC (zB 1 h6)) (.slice l1 l2 l3) L:=FV;have oY:WB h0 (inC (zB 1 h6)) p [.slice t1 t2 t3,.slice f1 f2 f3,I (Y0 T F),I (BK T F),.slice k1 k2 k3,.slice a1 a2 a3,.slice r1 r2 r3,I (zV T F)]:=zu 1 nb;have sY:Wc (inC (zB 1 h6)) (.slice r1 r2 r3) (Zz T F):=YW 1 K6.r;have o1Y:WB h (inC (zB 1 h6)) p1 [.int .u8 x.kind,I x.to,I x.frm,I x.n,.slice v1 v2 v3]:=zu 1 rG;refine go ?_;refine VE (fun bH=> ?_) (fun bH=> ?_)<;>simp only[DB]at bH
  ·have dY:j<x.args.length:=ω
   have l7:=A.args _ (zd dY);obtain⟨g1,g2,g3⟩:=Zp A l7;unfold Ba at l7;obtain⟨w',pg,⟨w4,w5,w6,rfl⟩,ix,_⟩:=sL.get g1;have xb:=(ix _ (c9.trans (zG 1 h6))).2;have FY:=pg.ext (c9.trans (zG 1 h6));refine go ?_;refine VC 1 rfl rfl ?_;refine WU ?_;refine VZ (X:=inC (zB 1 _)) (⟨(Zz T F).getD f.toNat 0+j,setL L (x.args.getD j 0)⟩:Wj) D6 e6 lU (WH.refl _) FY (D6.old pg aE e6) ω ?_;rintro H v' lit eH DH uH ⟨a',b',c',rfl⟩;refine go ?_;exact zA (j+1) ω ⟨Wy,ω,eH,_,_,_,WJ,by rw[yt,<-Qd,kI];exact DH⟩
  ·have mK:j=x.args.length:=ω
   subst mK;have l7:Ba T F (zV T F+f):=by unfold Ba;omega
   obtain⟨g1,g2,g3⟩:=Zp A l7;obtain⟨w',pg,⟨w4,w5,w6,rfl⟩,ix,_⟩:=sL.get g1;have xb:=(ix _ (c9.trans (zG 1 h6))).2;have FY:=pg.ext (c9.trans (zG 1 h6));refine go ?_;refine VC 1 rfl rfl ?_;refine WU ?_;refine VZ (X:=inC (zB 1 _)) (⟨x.to,setL L (zV T F+f)⟩:Wj) D6 e6 lU (WH.refl _) FY (D6.old pg aE e6) ω ?_;rintro H v' lit eH DH uH ⟨a',b',c',rfl⟩;refine go ?_;exact zA (i+1) ω ⟨Wy,ω,eH,_,_,_,WJ,by rw[dz,<-Qd];exact DH⟩
 ·have bj:i=N.length:=ω
  subst bj;rw[Qs]at D5;refine gr ?_;exact⟨D5.since aE,bh⟩
end
def Bu.within{hB h:WA}{X:Nat}{v:Value}{N:List Wj}(D:Bu hB h X v N):∀ q,BJ v=some q->q<h.n:=let⟨_,a⟩:=D;fun q hq=>(zZ a.o q hq).2
def zF8{h h':WA}{v:Value}{s:List Wa}(m:BL h h' v s):∀ q,BJ v=some q->h.n<=q:=fun q hq=>let⟨b,hb,o⟩:=m;QM hb (zZ o q hq).1
def TE.inC{h0 h:WA}{p vt vf vK vA vR:Value}{T:List WF}{F:List We}(K:TE h0 h p vt vf vK vA vR T F):TE h0 (Am.inC h) p vt vf vK vA vR T F:=⟨K.own,K.k,K.f,K.r,K.sh⟩
section
variable {h0 h:WA}{p vt vf vK vA vR vl va:Value}{T:List WF}{F:List We}{X:Nat}{L:List (List Wa)}
def zAB(hs:zb T F=0):0<=BK T F/\BK T F<=50000/\0<=Y0 T F/\Y0 T F<=100000/\0<=zV T F/\Y0 T F=zV T F+BK T F-1:=by
 obtain⟨ee,me,-,lQ⟩:=zAI hs;have au:=zBu (yg (z8 hs).1).1;have bP:=zCm hs;have gZ:∀ s∈zW T F,(yF T s.ty.toNat).length<=40:=fun s jY=>by
  have cD:=zAS hs s jY;have h1:=fun j (hj:j<=s.ty.toNat)=>(au j ω).1;exact QM (QM (zB2 (s.ty.toNat+1) s.ty.toNat (Q9 _) h1) (au s.ty.toNat ω).2) (by decide)
 have fw:=zI0 gZ _ (QF (zW T F).length);have h1:BK T F<=50000:=by unfold BK ZR;rw[QH,Qn,YF];omega
 have oh:=zAC ee;have h2:zV T F<=8000:=by unfold zV;omega
 have hnd:=zBz hs;have ah:=zIa (T:=T) (F:=F);omega
def zJn(E:SE h vt vf T F)(hs:zb T F=0)(K:TE h0 h p vt vf vK vA vR T F)(TT:SF h)(sL:BH X h vl L)(x:Wh)(sa:OwA h va x.args)(d8:x.args.length<=1000)(A:SV T F L x)(hX:X<=h.n):
  G0 30 [p,vl,.agg #[.int .u8 x.kind,I x.to,I x.frm,I x.n,va]] h fun r h'=>(∃ v,r=.tuple #[v,.bool (zMg x)]/\Bu h h' X v (Zs T F L x))/\WH h h':=by
 obtain⟨⟨k1,k2,k3,rfl⟩,⟨a1,a2,a3,rfl⟩,⟨r1,r2,r3,rfl⟩⟩:=K.sh;obtain⟨l1,l2,l3,rfl⟩:=zD sL;obtain⟨v1,v2,v3,rfl⟩:=Wm.shape sa.sl;obtain⟨c1,c2,c3⟩:=Zp A A.frm;obtain⟨c4,c5,c6⟩:=Zp A A.to;have hm:=E.hm;have hF:=A.frm;have hT:=A.to;have hN:=A.n;obtain⟨hE1,hE2,hE3,hE4,hE5,hE6⟩:=zAB hs;replace hN:0<=x.n/\x.n<=1000000:=ω
 unfold Ba at hF hT;refine en ?_;refine VH ?_;intro p1 h1 e1 o1;replace o1:WB h h1 p1 [.int .u8 x.kind,I x.to,I x.frm,I x.n,.slice v1 v2 v3]:=o1;have lV:=BH.ext sL e1;have K1:=K.ext e1;have E1:=E.ext e1;have tI:=TT.ext e1;have cC:=E1.hm;have oY:WB h (inC (zB 1 h1)) p1 [.int .u8 x.kind,I x.to,I x.frm,I x.n,.slice v1 v2 v3]:=zu 1 o1;have FW:=BH.ext lV (zG 1 h1);have rU:BH X (inC (zB 1 h1)) (.slice l1 l2 l3) L:=FW;obtain⟨w,Fw,⟨w1,w2,w3,rfl⟩,pc,bP⟩:=sL.get c1;have jq:=(pc _ e1).1;have xb:=(pc _ (e1.trans (zG 1 h1))).2;unfold Zs zMg;by_cases q1:x.kind=1
 ·rw[QJ q1,Qa ω];refine go ?_;refine VC 1 rfl rfl ?_;refine WU ?_;refine VA (zQv _ x.n ⟨hN.1,ω⟩ (QF _)) ?_;rintro w X1 ⟨mW,eX⟩;obtain⟨w4,w5,w6,rfl⟩:=zD mW.sl;refine WO.nil (zDs eX za ?_);refine WU ?_;refine VZ (hB:=h1) (X0:=X) (⟨x.to,zCZ x.n⟩:Wj) Bu.nil (WH.refl _) cC eX (mW.far (QM hX (QM e1.n (GU _))) (by simp[zCZ])) (fun _ q hq=>⟨by have:=zF8 mW q hq;have h2:h1.n+1<=q:=this;omega,fun h=>by cases h⟩) (by simp) ?_;rintro H v' lit eH DH uH ⟨a',b',c',rfl⟩;refine gr ?_;exact⟨⟨_,rfl,DH.since e1⟩,e1.trans eH⟩
 rw[QC q1];by_cases q2:x.kind=2
 ·rw[QJ q2,Qa ω];have FY:=Fw.ext (e1.trans (zG 1 h1));refine go ?_;refine VC 1 rfl rfl ?_;refine WU ?_;refine VZ (hB:=h1) (X0:=X) (X:=inC (zB 1 _)) (⟨x.to,setL L x.frm⟩:Wj) Bu.nil (WH.refl _) cC (WH.refl _) FY (Bu.old (X:=X) (N:=[]) Bu.nil Fw e1 (WH.refl _)) (by simp) ?_;rintro H v' lit eH DH uH ⟨a',b',c',rfl⟩;refine gr ?_;exact⟨⟨_,rfl,DH.since e1⟩,e1.trans eH⟩
 rw[QC q2];by_cases q3:x.kind=3
 ·rw[QJ q3,Qa ω];have aq:=YA (k:=2) c3;have hlen:=zBH (k:=2) c3;refine go ?_;refine VA (zDG K1 cC tI (Fw.ext e1).1 Fw.2.1 c3 2) ?_;rintro rR h2 ⟨o2,e2⟩;replace o2:WP h1 h2 rR (ye T F (setL L x.frm) 2):=o2;obtain⟨n1,n2,n3,rfl⟩:=Wm.shape o2.sl;generalize ye T F (setL L x.frm) 2=N at *;have aE:=e1.trans e2;have rS:=fun {i:Nat} (hi:i<N.length)=>zFA (fun n=>Z6 T F x n) hi;have bF:∀ i,((N.take i).flatMap fun n=>Z6 T F x n).length<=50000:=fun i=>by
   have h1:=zBi (fun n=>Z6 T F x n) 1 (l:=N.take i) fun n _=>by unfold Z6;split<;>simp
   have h2:(N.take i).length<=N.length:=by rw[Qp];omega
   omega
  refine go ?_;refine VD (fun i=>N.length-i) (fun i t h5=>zC t 51=I i/\i<=N.length/\WH h2 h5/\∃ a b c,zC t 6=.slice a b c/\Bu h2 h5 X (.slice a b c) ((N.take i).flatMap fun n=>Z6 T F x n)) 0 ?_ ?_
  ·exact⟨WJ,QQ _,WH.refl _,_,_,_,WJ,Bu.nil⟩
  rintro i t h5 ab ⟨xL,hi,e5,b1,b2,b3,s6,D5⟩;have cH:=e2.trans e5;have bh:=aE.trans e5;have K5:=K.ext bh;have FN:=K5.own;have uF:=K5.f;have s5:=o2.sl.ext e5;have jt:=o1.ext cH;have Kf:WB h (inC (zB 1 h5)) p1 [.int .u8 x.kind,I x.to,I x.frm,I x.n,.slice v1 v2 v3]:=zu 1 jt;have xc:h5.mark<=h2.n:=by rw[bh.mark];exact QM hm aE.n
  refine F0 ?_ ?_<;>intro hb
  ·have af:i<N.length:=ω
   obtain⟨eh,iJ⟩:=aq _ (zd af);have dz:=rS af;have rT:=bF i;obtain⟨AT,RG⟩:=zED eh;generalize(N.take i).flatMap (fun n=>Z6 T F x n)=M at *;by_cases FX:N.getD i 0+x.n<BK T F;case neg=>
    have kK:(N.take (i+1)).flatMap (fun n=>Z6 T F x n)=M:=by rw[dz];unfold Z6;rw[QC (fun h=>FX h.1),GW]
    refine go ?_;exact zA (i+1) ω ⟨Wy,ω,e5,_,_,_,WJ,by rw[kK];exact D5⟩
   obtain⟨Kg,fg4⟩:=zED (T:=T) (F:=F) (n:=N.getD i 0+x.n) ⟨ω,FX⟩;by_cases hq:yW T F (N.getD i 0+x.n)=yW T F (N.getD i 0);case neg=>
    have kK:(N.take (i+1)).flatMap (fun n=>Z6 T F x n)=M:=by rw[dz];unfold Z6;rw[QC (fun h=>hq h.2),GW]
    rw[<-AT,<-Kg]at hq;refine go ?_;exact zA (i+1) ω ⟨Wy,ω,e5,_,_,_,WJ,by rw[kK];exact D5⟩
   have kK:(N.take (i+1)).flatMap (fun n=>Z6 T F x n)=M++[⟨x.to,zCZ (N.getD i 0+x.n)⟩]:=by rw[dz];unfold Z6;rw[QJ ⟨FX,hq⟩]
   rw[<-AT,<-Kg]at hq;refine go ?_;refine VC 1 rfl rfl ?_;refine WU ?_;refine VA (zQv _ (N.getD i 0+x.n) ⟨ω,ω⟩ (QF _)) ?_;rintro w X1 ⟨mW,eX⟩;obtain⟨w4,w5,w6,rfl⟩:=zD mW.sl;refine WO.nil (zDs eX za ?_);refine WU ?_;refine VZ (hB:=h2) (X0:=X) (⟨x.to,zCZ (N.getD i 0+x.n)⟩:Wj) D5 e5 xc eX (mW.far (QM hX (QM bh.n (GU _))) (by simp[zCZ])) (fun _ q hq=>by
    have h3:h5.n+1<=q:=zF8 mW q hq;exact⟨ω,fun h=>by have:=D5.within q h;omega⟩) ω ?_
   rintro H v' lit eH DH uH ⟨a',b',c',rfl⟩;refine go ?_;exact zA (i+1) ω ⟨Wy,ω,eH,_,_,_,WJ,by rw[kK];exact DH⟩
  ·have bj:i=N.length:=ω
   subst bj;rw[Qs]at D5;refine gr ?_;exact⟨⟨_,rfl,D5.since aE⟩,bh⟩
 rw[QC q3];by_cases q4:x.kind=4
 ·rw[QJ q4,Qa ω];have aq:=YA (k:=2) c3;have hlen:=zBH (k:=2) c3;refine go ?_;refine VA (zDG K1 cC tI (Fw.ext e1).1 Fw.2.1 c3 2) ?_;rintro rR h2 ⟨o2,e2⟩;replace o2:WP h1 h2 rR (ye T F (setL L x.frm) 2):=o2;obtain⟨n1,n2,n3,rfl⟩:=Wm.shape o2.sl;generalize ye T F (setL L x.frm) 2=N at *;have aE:=e1.trans e2;have rS:=fun {i:Nat} (hi:i<N.length)=>zFA (fun n=>[(⟨x.to,setL L (Z2 T F n)⟩:Wj)]) hi;have bF:∀ i,((N.take i).flatMap fun n=>[(⟨x.to,setL L (Z2 T F n)⟩:Wj)]).length<=50000:=fun i=>by
   have h1:=zBi (fun n=>[(⟨x.to,setL L (Z2 T F n)⟩:Wj)]) 1 (l:=N.take i) fun n _=>by simp
   have h2:(N.take i).length<=N.length:=by rw[Qp];omega
   omega
  refine go ?_;refine VD (fun i=>N.length-i) (fun i t h5=>zC t 101=I i/\i<=N.length/\WH h2 h5/\∃ a b c,zC t 6=.slice a b c/\Bu h2 h5 X (.slice a b c) ((N.take i).flatMap fun n=>[⟨x.to,setL L (Z2 T F n)⟩])) 0 ?_ ?_
  ·exact⟨WJ,QQ _,WH.refl _,_,_,_,WJ,Bu.nil⟩
  rintro i t h5 ab ⟨xL,hi,e5,b1,b2,b3,s6,D5⟩;have cH:=e2.trans e5;have bh:=aE.trans e5;have K5:=K.ext (bh.trans (zG 1 h5));have KY:=K5.inC;have s5:=o2.sl.ext e5;have jt:=o1.ext cH;have Kf:WB h (inC (zB 1 h5)) p1 [.int .u8 x.kind,I x.to,I x.frm,I x.n,.slice v1 v2 v3]:=zu 1 jt;have ng:=BH.ext sL (bh.trans (zG 1 h5));have FZ:BH X (inC (zB 1 h5)) (.slice l1 l2 l3) L:=ng;have xc:h5.mark<=h2.n:=by rw[bh.mark];exact QM hm aE.n
  refine F0 ?_ ?_<;>intro hb
  ·have af:i<N.length:=ω
   obtain⟨eh,iJ⟩:=aq _ (zd af);have dz:=rS af;have rT:=bF i;generalize(N.take i).flatMap (fun n=>[(⟨x.to,setL L (Z2 T F n)⟩:Wj)])=M at *;have aO:Ba T F (Z2 T F (N.getD i 0)):=by
    have:=zH3 (N.getD i 0) hs;unfold Ba;rcases zEL eh with h|h|h<;>omega
   have gG:=aO;unfold Ba at gG;obtain⟨g1,g2,g3⟩:=Zp A aO;obtain⟨w',pg,⟨w4,w5,w6,rfl⟩,ix,_⟩:=sL.get g1;have F3:=(ix _ (bh.trans (zG 1 h5))).2;have FY:=pg.ext (bh.trans (zG 1 h5));refine go ?_;refine VC 1 rfl rfl ?_;refine WU ?_;refine VA (zJo KY (N.getD i 0) ⟨ω,ω⟩ ⟨ω,ω⟩ ⟨ω,ω⟩) ?_;rintro _ _ ⟨rfl,rfl⟩;refine WO.nil (ZP za ?_);refine WU ?_;refine VZ (hB:=h2) (X0:=X) (X:=inC (zB 1 _)) (⟨x.to,setL L (Z2 T F (N.getD i 0))⟩:Wj) D5 e5 xc (WH.refl _) FY (D5.old pg aE e5) ω ?_;rintro H v' lit eH DH uH ⟨a',b',c',rfl⟩;refine go ?_;exact zA (i+1) ω ⟨Wy,ω,eH,_,_,_,WJ,by rw[dz];exact DH⟩
  ·have bj:i=N.length:=ω
   subst bj;rw[Qs]at D5;refine gr ?_;exact⟨⟨_,rfl,D5.since aE⟩,bh⟩
 rw[QC q4];by_cases q5:x.kind=5
 ·rw[QJ q5,Qa ω];have aq:=YA (k:=2) c6;have hlen:=zBH (k:=2) c6;obtain⟨u,Fu,⟨u1,u2,u3,rfl⟩,tJ,_⟩:=sL.get c4;have RJ:=(tJ _ e1).1;refine go ?_;refine VA (zDG K1 cC tI (Fu.ext e1).1 Fu.2.1 c6 2) ?_;rintro rR h2 ⟨o2,e2⟩;replace o2:WP h1 h2 rR (ye T F (setL L x.to) 2):=o2;obtain⟨n1,n2,n3,rfl⟩:=Wm.shape o2.sl;generalize ye T F (setL L x.to) 2=N at *;have aE:=e1.trans e2;have rS:=fun {i:Nat} (hi:i<N.length)=>zFA (fun n=>[(⟨Z2 T F n,setL L x.frm⟩:Wj)]) hi;have bF:∀ i,((N.take i).flatMap fun n=>[(⟨Z2 T F n,setL L x.frm⟩:Wj)]).length<=50000:=fun i=>by
   have h1:=zBi (fun n=>[(⟨Z2 T F n,setL L x.frm⟩:Wj)]) 1 (l:=N.take i) fun n _=>by simp
   have h2:(N.take i).length<=N.length:=by rw[Qp];omega
   omega
  refine go ?_;refine VD (fun i=>N.length-i) (fun i t h5=>zC t 128=I i/\i<=N.length/\WH h2 h5/\∃ a b c,zC t 6=.slice a b c/\Bu h2 h5 X (.slice a b c) ((N.take i).flatMap fun n=>[⟨Z2 T F n,setL L x.frm⟩])) 0 ?_ ?_
  ·exact⟨WJ,QQ _,WH.refl _,_,_,_,WJ,Bu.nil⟩
  rintro i t h5 ab ⟨xL,hi,e5,b1,b2,b3,s6,D5⟩;have cH:=e2.trans e5;have bh:=aE.trans e5;have K5:=K.ext (bh.trans (zG 1 h5));have KY:=K5.inC;have s5:=o2.sl.ext e5;have jt:=o1.ext cH;have Kf:WB h (inC (zB 1 h5)) p1 [.int .u8 x.kind,I x.to,I x.frm,I x.n,.slice v1 v2 v3]:=zu 1 jt;have ng:=BH.ext sL (bh.trans (zG 1 h5));have FZ:BH X (inC (zB 1 h5)) (.slice l1 l2 l3) L:=ng;have xc:h5.mark<=h2.n:=by rw[bh.mark];exact QM hm aE.n
  refine F0 ?_ ?_<;>intro hb
  ·have af:i<N.length:=ω
   obtain⟨eh,iJ⟩:=aq _ (zd af);have dz:=rS af;have rT:=bF i;generalize(N.take i).flatMap (fun n=>[(⟨Z2 T F n,setL L x.frm⟩:Wj)])=M at *;have aO:Ba T F (Z2 T F (N.getD i 0)):=by
    have:=zH3 (N.getD i 0) hs;unfold Ba;rcases zEL eh with h|h|h<;>omega
   have gG:=aO;unfold Ba at gG;have F3:=(pc _ (bh.trans (zG 1 h5))).2;have FY:=Fw.ext (bh.trans (zG 1 h5));refine go ?_;refine VC 1 rfl rfl ?_;refine WU ?_;refine VA (zJo KY (N.getD i 0) ⟨ω,ω⟩ ⟨ω,ω⟩ ⟨ω,ω⟩) ?_;rintro _ _ ⟨rfl,rfl⟩;refine WO.nil (ZP za ?_);refine WU ?_;have RK:=cH.n;have RL:=bh.n;refine Ye (j:=2) o1 ω ?_;refine WU ?_;obtain⟨aB,nB,kB,eB,lB⟩:=zCX sL c1;refine zIz (v:= .slice l1 l2 l3) (j:=x.frm.toNat*1) ⟨aB,nB,kB,eB,ω⟩ ?_;refine WU ?_;refine VZ (hB:=h2) (X0:=X) (X:=inC (zB 1 _)) (⟨Z2 T F (N.getD i 0),setL L x.frm⟩:Wj) D5 e5 xc (WH.refl _) FY (D5.old Fw aE e5) ω ?_;rintro H v' lit eH DH uH ⟨a',b',c',rfl⟩;refine go ?_;exact zA (i+1) ω ⟨Wy,ω,eH,_,_,_,WJ,by rw[dz];exact DH⟩
  ·have bj:i=N.length:=ω
   subst bj;rw[Qs]at D5;refine gr ?_;exact⟨⟨_,rfl,D5.since aE⟩,bh⟩
 rw[QC q5];by_cases q6:x.kind=6
 ·rw[QJ q6,Qa ω];refine go ?_;refine VA (zPs E1 hs K1 tI lV x (sa.ext e1) d8 A) ?_;rintro w h2 ⟨D2,e2⟩;obtain⟨w4,w5,w6,rfl⟩:=D2.shape;refine gr ?_;exact⟨⟨_,rfl,D2.since e1⟩,e1.trans e2⟩
 ·rw[QC q6,QY ω];refine gr ?_;exact⟨⟨_,rfl,Bu.nil⟩,e1⟩
end
section
variable {T:List WF}{F:List We}{L:List (List Wa)}{x:Wh}
def zPx{n:Int}(hs:zb T F=0)(h:0<=n/\n<BK T F):By T F (zCZ n):=by
 have hb:=zAB hs;have u:=zIy (n:=n) ⟨h.1,ω⟩;refine⟨u.ok,fun m hm=> ?_⟩;have h1:=(u.mem m).1 ((yw u.ok).1 hm);rw[QO]at h1;omega
def zMP(hs:zb T F=0){n:Int}(h:0<=n/\n<BK T F)(hk:zAE T F n=2):Ba T F (Z2 T F n):=by
 have:=zAB hs;have:=zBz hs;have:=zH3 n hs;unfold Ba;rcases zEL h with h|h|h<;>omega
def zD6(hs:zb T F=0)(A:SV T F L x):∀ y∈Zs T F L x,Ba T F y.to/\((x.kind=1->x.n<BK T F)->By T F y.set):=fun y hy=>by
 obtain⟨c1,c2,c3⟩:=Zp A A.frm;obtain⟨c4,c5,c6⟩:=Zp A A.to;have hn:=A.n;unfold Zs at hy;split at hy
 ·rename_i q;rw[QO]at hy;subst hy;exact⟨A.to,fun h=>zPx hs ⟨hn.1,h q⟩⟩
 split at hy
 ·rw[QO]at hy;subst hy;exact⟨A.to,fun _=>c3⟩
 split at hy
 ·obtain⟨n,h1,h2⟩:=GA.1 hy;have h3:=YA c3 n h1;unfold Z6 at h2;split at h2
  ·rename_i q;rw[QO]at h2;subst h2;exact⟨A.to,fun _=>zPx hs ⟨ω,q.1⟩⟩
  ·cases h2
 split at hy
 ·obtain⟨n,h1,h2⟩:=GA.1 hy;have h3:=YA c3 n h1;rw[QO]at h2;subst h2;exact⟨A.to,fun _=>(Zp A (zMP hs h3.1 h3.2)).2.2⟩
 split at hy
 ·obtain⟨n,h1,h2⟩:=GA.1 hy;have h3:=YA c6 n h1;rw[QO]at h2;subst h2;exact⟨zMP hs h3.1 h3.2,fun _=>c3⟩
 split at hy
 ·obtain⟨n,h1,h2⟩:=GA.1 hy;have h3:=YA c3 n h1;have hf:0<=yW T F n/\yW T F n<(F.length:Int):=by
   rcases zEL h3.1 with h|h|h<;>omega
  have hnd:=zBz hs;unfold zAt at h2;split at h2
  ·rename_i q;rcases Qf.1 h2 with h2|h2
   ·obtain⟨i,h4,h5⟩:=GA.1 h2;rw[QO]at h5;subst h5;rw[Q4]at h4;have hl:((yb T F (yW T F n)).parts.length)<=(B7 T F (yW T F n)).length:=by
     rw[<-zDJ];unfold Zy;rw[QH];omega
    have h6:=zLc hs hf (q:=i) ⟨ω,ω⟩;exact⟨⟨h6.1,by have h7:=h6.2.1;show Wn T F _ _<_;omega⟩,fun _=>(Zp A (A.args _ (zd h4))).2.2⟩
   ·rw[QO]at h2;subst h2;exact⟨A.to,fun _=>(Zp A (show Ba T F _ from⟨ω,ω⟩)).2.2⟩
  ·cases h2
 ·cases hy
def zHI(hs:zb T F=0)(A:SV T F L x)(ha:x.args.length<=1000):(Zs T F L x).length<=100000:=by
 obtain⟨c1,c2,c3⟩:=Zp A A.frm;obtain⟨c4,c5,c6⟩:=Zp A A.to;have hb:=zAB hs;obtain⟨-,-,-,lQ⟩:=zAI hs;have l1:=zBH (k:=2) c3;have l2:=zBH (k:=2) c6;have l3:=zHW c3;unfold Zs;split
 ·simp
 split
 ·simp
 split
 ·have:=zBi (fun n=>Z6 T F x n) 1 (l:=ye T F (setL L x.frm) 2) fun n _=>by unfold Z6;split<;>simp
  omega
 split
 ·have:=zBi (fun n=>[(⟨x.to,setL L (Z2 T F n)⟩:Wj)]) 1 (l:=ye T F (setL L x.frm) 2) fun n _=>by simp
  omega
 split
 ·have:=zBi (fun n=>[(⟨Z2 T F n,setL L x.frm⟩:Wj)]) 1 (l:=ye T F (setL L x.to) 2) fun n _=>by simp
  omega
 split
 ·have h1:=zBi (fun n=>zAt T F L x n) 1001 (l:=ye T F (setL L x.frm) 1) fun n _=>zHm x n ha;have h2:1001*(ye T F (setL L x.frm) 1).length<=1001*8:=Nat.mul_le_mul_left _ ω;omega
 ·simp
end
section
variable {h:WA}{vl:Value}{X:Nat}{L:List (List Wa)}
def YG(L:List (List Wa))(n:Nat):Int:=((L.take n).map Zo).sum
def zIk(hL:∀ s∈L,Zo s<=100000):∀ n,n<=L.length->0<=YG L n/\YG L n<=100000*n
 |0,_=>by simp[YG]
 |n+1,h=>by
  have h1:=zIk hL n ω;have h2:=hL _ (zH (l:=L) (i:=n) ω);have h3:0<=Zo (L.getD n default):=by unfold Zo;omega
  have e:YG L (n+1)=YG L n+Zo (L.getD n default):=by
   unfold YG;rw[yy ω,Q5,Gs];simp
  rw[e];omega
def zRN{hq:WA}{pb:Value}(ob:WB hq h pb [vl])(sL:BH X h vl L)(hL:∀ s∈L,Zo s<=100000)(aS:∀ s∈L,zv (-1) s=true)(hl:L.length<=1000000):
  G0 43 [pb] h fun r h'=>r=I (YG L L.length)/\WH h h':=by
 obtain⟨l1,l2,l3,rfl⟩:=zD sL;refine en ?_;refine VD (fun i=>L.length-i) (fun i t h1=>zC t 8=I i/\i<=L.length/\WH h h1/\zC t 1=I (YG L i)) 0 ?_ ?_
 ·exact⟨WJ,QQ _,WH.refl _,WJ⟩
 rintro i t h1 ab ⟨s8,hi,e1,s1⟩;have lV:=BH.ext sL e1;refine F0 ?_ ?_<;>intro hb
 ·have af:i<L.length:=ω
  obtain⟨w,Fw,⟨w1,w2,w3,rfl⟩,pc,bP⟩:=lV.get af;have jq:=(pc _ (WH.refl _)).1;have az:L.getD i []∈L:=zH (l:=L) af;have hS:=zMQ h1 _ (L.getD i []) Fw.1 (by have:=Fw.2.1;omega);rw[aS _ az,QJ rfl,show zBo true=0 from rfl]at hS;have h2:=hL _ az;have h3:=zIk hL i hi;have h4:0<=Zo (L.getD i []):=by unfold Zo;omega
  have e:YG L (i+1)=YG L i+Zo (L.getD i []):=by
   unfold YG;rw[yy af,Q5,Gs];simp;rfl
  refine go ?_;refine VA hS ?_;rintro _ h5 ⟨rfl,e5⟩;refine go ?_;exact zA (i+1) ω ⟨Wy,ω,e1.trans e5,by rw[e];exact WJ⟩
 ·have bj:i=L.length:=ω
  subst bj;refine gr ?_;exact⟨rfl,e1⟩
end
def zKY:∀ {l m:List Int},l.Pairwise (·<·)->m.Pairwise (·<·)->(∀ x∈l,x∈m)->l.length<=m.length
 |[],m,_,_,_=>QQ _
 |a::l,[],_,_,h=>by cases h a (QR ..)
 |a::l,b::m,h1,h2,h=>by
  obtain⟨a1,a2⟩:=GT.1 h1;obtain⟨b1,b2⟩:=GT.1 h2;have dJ:b<=a:=by
   rcases Qt.1 (h a (QR ..))with e|e
   ·omega
   ·have:=b1 a e;omega
  have:=zKY (l:=l) (m:=m) a2 b2 fun x hx=>by
   have h3:=a1 x hx;rcases Qt.1 (h x (QW _ hx))with e|e
   ·omega
   ·exact e
  rw[Qn,Qn];omega
def zLI(s t:List Wa):Prop:=∀ n∈zQ s,n∈zQ t
section
variable {T:List WF}{F:List We}
def zKJ(hs:zb T F=0){s:List Wa}(ok:By T F s):Zo s<=100000:=by
 have hb:=zAB hs;have:=zCA (a:=0) (b:=BK T F) (zAk ok.ok) (fun n hn=>⟨(((yw ok.ok).1 hn).range ok.ok).1,ok.el n hn⟩) hb.1;unfold Zo;omega
def zRY(hs:zb T F=0){s:List Wa}(ok:By T F s):s.length<=1000:=by
 have hb:=zAB hs;have h1:(s.map Wa.pos).Pairwise (·<·):=List.pairwise_map.2 ok.ok.dv;have:=zCA (a:=0) (b:=782) h1 (fun p hp=>by
  obtain⟨w,hw,rfl⟩:=Qw.1 hp;obtain⟨a,b,c,d⟩:=ok.ok.each w hw;obtain⟨k,hk⟩:=zI2 c;have aU:=zAL d hk;have:=ok.el (64*w.pos+k) ((yw ok.ok).2 ⟨w,hw,ω,by rw[show((64*w.pos+(k:Int)) % 64).toNat=k by omega];exact hk⟩);omega) (by decide)
 rw[Qr]at this;omega
def orW(a b:List Wa):List Wa:=zA1 (fun x y=>x|||y) a b
def zEI{a b:List Wa}(ha:By T F a)(hb:By T F b):By T F (orW a b)/\∀ n,n∈zQ (orW a b)↔n∈zQ a\/n∈zQ b:=by
 obtain⟨h1,h2,_⟩:=YR bit_or ha.ok hb.ok;have e:orW a b=yM (fun x y=>x|||y) a b:=by unfold orW zA1;rw[(YE ha.ok.bd).2 ha.ok,(YE hb.ok.bd).2 hb.ok];rfl
 rw[e];have h3:∀ n,n∈zQ (yM (fun x y=>x|||y) a b)↔n∈zQ a\/n∈zQ b:=fun n=>by
  rw[yw h1,yw ha.ok,yw hb.ok,<-zAG,h2,GM,zAG,zAG]
 exact⟨⟨h1,fun n hn=>((h3 n).1 hn).elim (ha.el n) (hb.el n)⟩,h3⟩
def zQc{a b:List Wa}(ha:By T F a)(hb:By T F b):Zo a<=Zo (orW a b):=by
 obtain⟨h1,h2⟩:=zEI ha hb;have:=zKY (zAk ha.ok) (zAk h1.ok) fun x hx=>(h2 x).2 (.inl hx);unfold Zo;omega
def zEB(L:List (List Wa))(y:Wj):List (List Wa):=L.set y.to.toNat (orW (setL L y.to) y.set)
structure BO(T:List WF)(F:List We)(L:List (List Wa)):Prop where
 len:(L.length:Int)=Y0 T F
 sets:∀ s∈L,By T F s
def BO.at{L:List (List Wa)}(A:BO T F L){n:Int}(h:Ba T F n):By T F (setL L n):=A.sets _ (zH (l:=L) (i:=n.toNat) (by have:=A.len;unfold Ba at h;omega))
def BO.add{L:List (List Wa)}(A:BO T F L){y:Wj}(h:Ba T F y.to)(ho:By T F y.set):BO T F (zEB L y):=by
 refine⟨by unfold zEB;rw[Gh];exact A.len,fun s hs=> ?_⟩;rcases List.mem_or_eq_of_mem_set hs with h1|h1
 ·exact A.sets s h1
 ·rw[h1];exact(zEI (A.at h) ho).1
def BO.new(hs:zb T F=0):BO T F (List.replicate (Y0 T F).toNat []):=by
 have:=zAB hs;refine⟨by rw[Gk];omega,fun s h=> ?_⟩;rw[List.eq_of_mem_replicate h];exact⟨Bh.nil,fun n hn=>by cases hn⟩
def zMK:∀ {L:List (List Wa)} {i:Nat} {s:List Wa},Zo (L.getD i [])<=Zo s->(L.map Zo).sum<=((L.set i s).map Zo).sum
 |[],_,_,_=>Q1 _
 |a::L,0,s,h=>by
  have h:Zo a<=Zo s:=h;simp only[List.set_cons_zero,Qi,G8];omega
 |a::L,i+1,s,h=>by
  have h:Zo (L.getD i [])<=Zo s:=h;have:=zMK (L:=L) h;simp only[List.set_cons_succ,Qi,G8];omega
def zF7(L:List (List Wa)):YG L L.length=(L.map Zo).sum:=by unfold YG;rw[Qs]
def zR1{L:List (List Wa)}(A:BO T F L){y:Wj}(h:Ba T F y.to)(ho:By T F y.set):YG L L.length<=YG (zEB L y) (zEB L y).length:=by
 rw[zF7,zF7];exact zMK (zQc (A.at h) ho)
def zSP(n:Nat):YG (List.replicate n []) (List.replicate n ([]:List Wa)).length=0:=by
 rw[zF7,List.map_replicate];induction n with
 |zero=>rfl
 |succ n ih=>rw[List.replicate_succ,G8,ih];rfl
def zRh(hs:zb T F=0){L:List (List Wa)}(A:BO T F L):0<=YG L L.length/\YG L L.length<=20000000000:=by
 have h1:=zIk (fun s h=>zKJ hs (A.sets s h)) L.length (QF _);have h2:=A.len;have h3:=zAB hs;omega
def zSn(hs:zb T F=0){n:Int}(h:0<=n/\n<BK T F):n∈zQ (zCZ n):=by
 have hb:=zAB hs;have u:=zIy (n:=n) ⟨h.1,ω⟩;exact(yw u.ok).2 ((u.mem n).2 (QO.2 rfl))
def zOs{L:List (List Wa)}(A:BO T F L){y:Wj}(hy:Ba T F y.to)(ho:By T F y.set){v n:Int}(h:n∈zQ (setL L v)):n∈zQ (setL (zEB L y) v):=by
 have hl:=A.len;have hi:y.to.toNat<L.length:=by unfold Ba at hy;omega
 unfold zEB;by_cases e:v.toNat=y.to.toNat
 ·unfold setL at h |-;rw[e,QD,JJ hi];rw[e]at h;exact((zEI (A.at hy) ho).2 n).2 (.inl h)
 ·unfold setL at h |-;rw[QD,Ja (fun q=>e q.symm),<-QD];exact h
def zRr{L:List (List Wa)}(A:BO T F L){y:Wj}(hy:Ba T F y.to)(ho:By T F y.set){n:Int}(h:n∈zQ y.set):n∈zQ (setL (zEB L y) y.to):=by
 have hl:=A.len;have hi:y.to.toNat<L.length:=by unfold Ba at hy;omega
 unfold zEB;show n∈zQ (List.getD _ _ _);rw[QD,JJ hi];exact((zEI (A.at hy) ho).2 n).2 (.inr h)
def zUI(C:List Wh)(i:Nat)(L:List (List Wa)):Prop:=∀ k,k<i->(C.getD k default).kind=1->(C.getD k default).n∈zQ (setL L (C.getD k default).to)
def Bi(L K:List (List Wa)):Prop:=∀ n:Int,zLI (setL L n) (setL K n)
def Bi.add{L K:List (List Wa)}(A:BO T F L)(h:Bi L K){y:Wj}(hy:Ba T F y.to)(ho:By T F y.set)(hk:zLI y.set (setL K y.to)):Bi (zEB L y) K:=fun n m hm=>by
 have hl:=A.len;unfold Ba at hy;unfold zEB setL at hm;by_cases e:n.toNat=y.to.toNat
 ·rw[e,QD,JJ ω]at hm;have h1:setL K n=setL K y.to:=by unfold setL;rw[e]
  rw[h1];exact(((zEI (A.at hy) ho).2 m).1 hm).elim (h y.to m) (hk m)
 ·rw[QD,Ja (fun q=>e q.symm),<-QD]at hm;exact h n m hm
def Bi.new(n:Nat)(K:List (List Wa)):Bi (List.replicate n []) K:=fun i m hm=>by
 unfold setL at hm;by_cases h:i.toNat<n
 ·rw[QD,G3,QJ h]at hm;cases hm
 ·rw[QD,G3,QC h]at hm;cases hm
def zT8{a b:List Wa}(ha:By T F a)(hb:By T F b)(h:((zA1 SR a b).length:Int)=0):zLI a b:=fun n hn=>by
 obtain⟨h1,h2,_⟩:=YR bit_not ha.ok hb.ok;have e:zA1 SR a b=yM SR a b:=by unfold zA1;rw[(YE ha.ok.bd).2 ha.ok,(YE hb.ok.bd).2 hb.ok];rfl
 rw[e]at h;have h3:yM SR a b=[]:=Gq ω;have h4:=h2 n;rw[h3,zAG.2 ((yw ha.ok).1 hn)]at h4;rw[yw hb.ok,<-zAG];cases hq:inB b n with
 |true=>rfl
 |false=>
  rw[hq]at h4;have h4:false=true:=h4;cases h4
def zTd{a b:List Wa}(ha:Bh a)(hb:Bh b)(h:zLI a b):zA1 SR a b=[]:=by
 obtain⟨h1,h2,_⟩:=YR bit_not ha hb;have e:zA1 SR a b=yM SR a b:=by unfold zA1;rw[(YE ha.bd).2 ha,(YE hb.bd).2 hb];rfl
 rw[e];refine zIm h1 Bh.nil fun n=>⟨fun hn=> ?_,fun⟨w,hw,_⟩=>by cases hw⟩;have h4:=h2 n;rw[zAG.2 hn]at h4;have h5:inB a n=true:=by
  cases hq:inB a n with
  |true=>rfl
  |false=>rw[hq]at h4;exact absurd h4 (by simp)
 have h6:=zAG.2 ((yw hb).1 (h n ((yw ha).2 (zAG.1 h5))));rw[h5,h6]at h4;exact absurd h4 (by decide)
end
section
variable {T:List WF}{F:List We}
structure ConIn(T:List WF)(F:List We)(x:Wh):Prop where
 to:Ba T F x.to
 frm:Ba T F x.frm
 n:(0<=x.n/\x.n<=1000000)/\(x.kind=1->x.n<BK T F)
 args:∀ a∈x.args,Ba T F a
def ConIn.ask{x:Wh}(C:ConIn T F x){L:List (List Wa)}(hl:(L.length:Int)=Y0 T F)(hL:∀ s∈L,By T F s):SV T F L x:=⟨hl,⟨C.n.1.1,.inr C.n.1.2⟩,hL,C.to,C.frm,C.args⟩
def zSp(hs:zb T F=0){f:Nat}(hf:f<F.length){b:Nat}(hb:b<(zR F f).length){i:Nat}(hi:i<((zR F f).getD b default).ins.length)(hm:Za (((zR F f).getD b default).ins.getD i default)=true):
  ∃ q,Ym T f (((yb T F f).parts.length:Int)+zL ((zR F f).take b)+i) (zW T F) 0 []=q/\0<=q.1/\1<=q.2.length/\q.1+q.2.length<=(Z9 T F).sum:=by
 obtain⟨s,jY,h1,h2⟩:=zGP (T:=T) (G:=F) (n:=0) (f:=f) (b:=b) (i:=i) hf hb hi hm;obtain⟨j,j1,j2,j3,j4⟩:=zHo (T:=T) (f:=f) (r:=((yb T F f).parts.length:Int)+zL ((zR F f).take b)+i) (S:=zW T F) 0 [] ⟨s,jY,by rw[h1];omega,h2⟩;refine⟨_,j4,?_⟩;have cD:=zAS hs _ (zH j1);have au:=zBu (yg (z8 hs).1).1;have bN:=zSH (T:=T) (((zW T F).getD j default).ty.toNat+1) ((zW T F).getD j default).ty.toNat (Q9 _) fun k hk=>(au k ω).1;have hn:∀ x∈Z9 T F,0<=x:=fun x hx=>by
  unfold Z9 at hx;obtain⟨s,_,rfl⟩:=Qw.1 hx;omega
 have hl:j<(Z9 T F).length:=by unfold Z9;simpa using j1
 have e1:((zW T F).take j).map (fun s=>((yF T s.ty.toNat).length:Int))=(Z9 T F).take j:=by unfold Z9;rw[List.map_take]
 have e2:(Z9 T F).getD j 0=((yF T ((zW T F).getD j default).ty.toNat).length:Int):=by
  unfold Z9;rw[zAO j1]
 have h0:=zGL hn (QQ j);have h3:=zDi (l:=Z9 T F) hl;have h4:=zGL hn (i:=j+1) (j:=(Z9 T F).length) ω;rw[Qs]at h4;rw[GK]at h0;simp only[G5,List.sum_nil]at *;rw[e1];refine⟨ω,bN,?_⟩;rw[<-e2];omega
def zRu(hs:zb T F=0){s n:Int}(h:(0<=s/\s<(T.length:Int))/\(T.getD s.toNat default).kind=4/\0<=n/\n<((T.getD s.toNat default).parts.length:Int)):0<=stepL T s n/\stepL T s n<=32000:=by
 obtain⟨h1,h2,h3,h4⟩:=h;have hc:=(yg (z8 hs).1).1;have iW:=zBY hc h1.1 h1.2;have tq:=zGV iW h2;have au:=zBu hc;have bF:∀ p∈(T.getD s.toNat default).parts,(yF T p.toNat).length<=32:=fun p dG=>by
  have h1:=tq.2 p dG;have h2:=au p.toNat ω;exact QM (zB2 (p.toNat+1) p.toNat (Q9 _) fun j hj=>(au j ω).1) h2.2
 have key:∀ l:List Int,(∀ p∈l,(yF T p.toNat).length<=32)->0<=(l.map fun p=>((yF T p.toNat).length:Int)).sum/\(l.map fun p=>((yF T p.toNat).length:Int)).sum<=32*l.length:=fun l=>by
  induction l with
  |nil=>intro _;simp
  |cons p l ih=>
   intro hl;have:=ih fun q hq=>hl q (QW _ hq);have:=hl p (QR ..);rw[Qi,G8,Qn];omega
 have:=key ((T.getD s.toNat default).parts.take n.toNat) fun p hp=>bF p (GO hp);rw[Qp]at this;have h5:=tq.1;unfold stepL;omega
def zUS(hs:zb T F=0){f:Nat}(hf:f<F.length){b:Nat}(hb:b<(zR F f).length){i:Nat}(hi:i<((zR F f).getD b default).ins.length):
  ∀ x∈YH T F f (Zy T F f) (((yb T F f).parts.length:Int)+zL ((zR F f).take b)+i) (((zR F f).getD b default).ins.getD i default),ConIn T F x:=by
 obtain⟨hp,hw⟩:=z8 hs;have cI:(0:Int)<=f/\(f:Int)<(F.length:Int):=ω
 have Z:=zC5 hp cI;have I0:=zOq hs hf hb hi;have xd:=zSp hs hf hb hi;obtain⟨n1,n2,n3,n4⟩:=zBz hs;obtain⟨b1,b2,b3,b4,b5,b6⟩:=zAB hs;have ah:=zIa (T:=T) (F:=F);have h0:=zDT ((zR F f).take b);have dc:∀ g q:Int,0<=g/\g<(F.length:Int)->0<=q/\q<((Zy T F g).length:Int)->Ba T F (Wn T F g q):=fun g q hg hq=>by
  rw[zDJ]at hq;have:=zLc hs hg hq;exact⟨this.1,by have:=this.2.1;omega⟩
 have me:((yb T F f).parts.length:Int)+zL ((zR F f).take b)+i<((Zy T F f).length:Int):=by
  rw[zDJ,Z.reg];unfold zJ9;have h2:=zJ2 (zR F f) (b+1);rw[yy hb]at h2;have:zL ((zR F f).take b++[(zR F f).getD b default])=zL ((zR F f).take b)+(((zR F f).getD b default).ins.length:Int):=by unfold zL;simp
  omega
 generalize CJ:((yb T F f).parts.length:Int)+zL ((zR F f).take b)+i=r at *;have bE:0<=r:=ω
 clear CJ;generalize((zR F f).getD b default).ins.getD i default=x at *;have hr:=dc f r cI ⟨bE,me⟩;have hz:Ba T F 0:=⟨ω,ω⟩;have nil:∀ a∈([]:List Int),Ba T F a:=fun a h=>by cases h
 have z:∀ {k:Int},k≠1->(0<=(0:Int)/\(0:Int)<=1000000)/\(k=1->(0:Int)<BK T F):=fun h=>⟨ω,fun e=>absurd e h⟩;intro c hc;unfold YH at hc;split at hc
 ·rename_i ho;rw[QO]at hc;subst hc;refine⟨hr,hz,?_,nil⟩;show(0<=(if x.op=3 then x.n+1 else 0)/\(if x.op=3 then x.n+1 else 0)<=1000000)/\((1:Int)=1->(if x.op=3 then x.n+1 else 0)<_);split
  ·rename_i e;have:=I0.n3 e;omega
  ·omega
 split at hc
 ·rename_i ho;obtain⟨q,hq,q0,q1,q2⟩:=xd (by unfold Za;rcases ho with e|e<;>simp[e]);rw[hq]at hc;unfold zHY at hc;rcases Qt.1 hc with rfl|hc
  ·exact⟨hr,hz,⟨⟨by show 0<=1+(F.length:Int)+q.1;omega,by show 1+(F.length:Int)+q.1<=_;omega⟩,fun _=>by show 1+(F.length:Int)+q.1<_;omega⟩,nil⟩
  ·unfold zM7 at hc;obtain⟨j,hj,hc⟩:=GA.1 hc;rw[Q4]at hj;split at hc
   ·cases hc
   rw[QO]at hc;subst hc;exact⟨⟨by show 0<=zV T F+(F.length:Int)+q.1+j;omega,by show zV T F+(F.length:Int)+q.1+j<_;omega⟩,hz,⟨(by simp only;decide),fun _=>by show(0:Int)<_;omega⟩,nil⟩
 split at hc
 ·rename_i ho;rw[QO]at hc;subst hc;refine⟨hr,dc f _ cI (I0.a14 ω),?_,nil⟩;refine⟨?_,fun e=>by cases e⟩;show 0<=(if x.op=14 then stepL T (T.getD ((Zy T F f).getD x.a.toNat 0).toNat default).elem x.n else 0)/\(if x.op=14 then stepL T (T.getD ((Zy T F f).getD x.a.toNat 0).toNat default).elem x.n else 0)<=1000000;split
  ·rename_i e;obtain⟨s,rfl,-,h⟩:=I0.qL e;have:=zRu hs h;omega
  ·omega
 split at hc
 ·rename_i ho;split at hc
  ·cases hc
  rw[QO]at hc;subst hc;exact⟨hr,dc f _ cI (I0.a14 ω),z (fun e=>by cases e),nil⟩
 split at hc
 ·rename_i ho;split at hc
  ·cases hc
  rw[QO]at hc;subst hc;exact⟨dc f _ cI (I0.a14 ω),dc f _ cI (I0.b17 ho).1,z (fun e=>by cases e),nil⟩
 split at hc
 ·rename_i ho;obtain⟨hn,ha,-⟩:=I0.qM ho;rcases Qf.1 hc with hc|hc
  ·unfold zHR at hc;obtain⟨j,hj,hc⟩:=GA.1 hc;rw[Q4]at hj;split at hc
   ·cases hc
   rw[QO]at hc;subst hc;exact⟨dc x.n j hn ⟨ω,by unfold Zy;rw[QH];omega⟩,dc f _ cI (I0.args ω _ (zd ω)),z (fun e=>by cases e),nil⟩
  ·split at hc
   ·cases hc
   rw[QO]at hc;subst hc;exact⟨hr,⟨by show 0<=zV T F+x.n;omega,by show zV T F+x.n<_;omega⟩,z (fun e=>by cases e),nil⟩
 split at hc
 ·rename_i ho;rw[QO]at hc;subst hc;refine⟨hr,dc f _ cI (I0.a14 ω),z (fun e=>by cases e),fun a h=> ?_⟩;obtain⟨q,hq,rfl⟩:=Qw.1 h;exact dc f _ cI (I0.args ω _ hq)
 split at hc
 ·rename_i ho;split at hc
  ·cases hc
  unfold zPE at hc;obtain⟨j,hj,hc⟩:=GA.1 hc;rw[Q4]at hj;rw[QO]at hc;subst hc;exact⟨hr,dc f _ cI (I0.args ω _ (zd hj)),z (fun e=>by cases e),nil⟩
 ·cases hc
def zSy(hs:zb T F=0){f:Nat}(hf:f<F.length){b:Nat}(hb:b<(zR F f).length):∀ x∈zJH T F f ((zR F f).getD b default),ConIn T F x:=by
 have cI:(0:Int)<=f/\(f:Int)<(F.length:Int):=ω
 have Z:=zC5 (z8 hs).1 cI;have hU:=(Z.U _ (zH hb)).ends;obtain⟨n1,n2,n3,n4⟩:=zBz hs;generalize(zR F f).getD b default=B at *;intro c hc;unfold zJH at hc;split at hc
 ·rename_i hk;split at hc
  ·cases hc
  rw[QO]at hc;subst hc;have hu:yr B.fin=[B.fin.a]:=by unfold yr;rw[QJ (.inr hk)]
  have hq:=zLc hs cI (hU B.fin.a (by rw[hu];simp));exact⟨⟨by show 0<=zV T F+(f:Int);omega,by show zV T F+(f:Int)<_;omega⟩,⟨hq.1,by have:=hq.2.1;show Wn T F f B.fin.a<_;omega⟩,⟨(by simp only;decide),fun e=>by cases e⟩,fun a h=>by cases h⟩
 ·cases hc
def zPO(hs:zb T F=0):∀ x∈Y9 T F,ConIn T F x:=fun x hx=>by
 unfold Y9 at hx;rw[QJ hs]at hx;unfold zBE consB zHp at hx;simp only[GA,Q4,Qf]at hx;obtain⟨f,hf,b,hb,⟨i,hi,hx⟩|hx⟩:=hx
 ·exact zUS hs hf hb hi x hx
 ·exact zSy hs hf hb x hx
end
structure BQ(hB h:WA)(X b8 g cM:Nat)(L:List (List Wa))(a b:Int):Prop where
 c:(hB.n<=b8/\b8<X)/\(hB.n<=g/\g<X)/\(hB.n<=cM/\cM<X)/\b8≠g/\b8≠cM/\g≠cM
 e:WH hB h
 x:X<=h.n
 r:Bs h X g L
 o:h.get b8=some (.row [.slice (some ⟨g,0,none⟩) L.length 1] true 0)
 s:h.get cM=some (.row [I a,I b] true 0)
section
variable {hB h h' X5 H:WA}{X b8 g cM:Nat}{L:List (List Wa)}{a b c:Int}
def BQ.ext(S:BQ hB h X b8 g cM L a b)(e:WH h h'):BQ hB h' X b8 g cM L a b:=by
 have hc:=S.c;have hx:=S.x;exact⟨S.c,S.e.trans e,QM S.x e.n,S.r.ext ω e,(e.get b8 ω).trans S.o,(e.get cM ω).trans S.s⟩
def BQ.own8(S:BQ hB h X b8 g cM L a b):WB hB h (.pointer (some ⟨b8,0,none⟩)) [.slice (some ⟨g,0,none⟩) L.length 1]:=⟨b8,S.c.1.1,QG S.c.1.2 S.x,rfl,S.o⟩
def BQ.own10(S:BQ hB h X b8 g cM L a b):WB hB h (.pointer (some ⟨cM,0,none⟩)) [I a,I b]:=⟨cM,S.c.2.2.1.1,QG S.c.2.2.1.2 S.x,rfl,S.s⟩
def BQ.sl(S:BQ hB h X b8 g cM L a b):BH X h (.slice (some ⟨g,0,none⟩) L.length 1) L:=S.r.sl (QG S.c.2.1.2 S.x)
def zUj(S:BQ hB h X b8 g cM L a b)(e5:WH (inC (zB 0 h)) X5):Bs X5 X g L:=by
 have hc:=S.c;have hx:=S.x;exact Bs.ext (h:=inC (zB 0 h)) (S.r.keep rfl (fun _ _ _=>rfl) (QF _)) (show g<h.n by omega) e5
def zQN(S:BQ hB h X b8 g cM L a b)(e5:WH (inC (zB 0 h)) X5)(nH:H.n=X5.n)(kH:∀ k,k<hB.n->H.get k=X5.get k)(wH:Wf X5->Wf H)(mH:H.mark=h.mark)(rH:H.wr=h.wr):WH hB H:=by
 have hc:=S.c;have hx:=S.x;have hn:h.n<=X5.n:=e5.n;have kM:=S.e.n;have g5:∀ k,k<h.n->X5.get k=h.get k:=fun k hk=>e5.get k hk;exact⟨ω,fun k hk=>(kH k hk).trans ((g5 k ω).trans (S.e.get k hk)),fun w=>wH (e5.wf fun k hk=>S.e.wf w k hk),mH.trans S.e.mark,fun hm=>rH.trans (S.e.wr hm)⟩
def BQ.put{i:Nat}{s:List Wa}{v:Value}{vs:List Value}(S:BQ hB h X b8 g cM L a b)(e5:WH (inC (zB 0 h)) X5)(r2:vs.length=L.length)(r3:∀ i,i<L.length->W4 X5 X (vs.getD i undef) (L.getD i []))(F:W4 X5 X v s)(hi:i<L.length)
  (nH:H.n=X5.n) (kH:∀ k,k≠g->H.get k=X5.get k) (gH:H.get g=some (.row (zX vs i [v]) true 0)) (wH:Wf X5->Wf H) (mH:H.mark=h.mark) (rH:H.wr=h.wr):
  BQ hB H X b8 g cM (L.set i s) a b/\h.n<=H.n/\∀ k,X<=k->k<h.n->H.get k=h.get k:=by
 have hc:=S.c;have hx:=S.x;have hn:h.n<=X5.n:=e5.n;have g5:∀ k,k<h.n->X5.get k=h.get k:=fun k hk=>e5.get k hk;rw[zLD ω]at gH;refine⟨⟨S.c,zQN S e5 nH (fun k hk=>kH k ω) wH mH rH,ω,Bs.put r2 r3 hc.2.1.2 F hi gH (fun k _ hk=>kH k hk) ω,?_,(kH cM ω).trans ((g5 cM ω).trans S.s)⟩,ω,fun k h1 h2=>(kH k ω).trans (g5 k h2)⟩;rw[Gh];exact(kH b8 ω).trans ((g5 b8 ω).trans S.o)
def BQ.siz(S:BQ hB h X b8 g cM L a b)(e5:WH (inC (zB 0 h)) X5)(nH:H.n=X5.n)(kH:∀ k,k≠cM->H.get k=X5.get k)(gH:H.get cM=some (.row (zX [I a,I b] 0 [I b,I c]) true 0))(wH:Wf X5->Wf H)(mH:H.mark=h.mark)(rH:H.wr=h.wr):BQ hB H X b8 g cM L b c:=by
 have hc:=S.c;have hx:=S.x;have hn:h.n<=X5.n:=e5.n;have g5:∀ k,k<h.n->X5.get k=h.get k:=fun k hk=>e5.get k hk;exact⟨S.c,zQN S e5 nH (fun k hk=>kH k ω) wH mH rH,ω,S.r.keep ((kH g ω).trans (g5 g ω)) (fun k h1 h2=>(kH k ω).trans (g5 k h2)) ω,(kH b8 ω).trans ((g5 b8 ω).trans S.o),gH⟩
def zHP:∀ n:Nat,zi [Value.slice none 0 0] n=List.replicate n (.slice none 0 0)
 |0=>rfl
 |n+1=>by unfold zi;rw[zHP n,List.replicate_succ];rfl
def zRs{N:Nat}(hg:h.get g=some (.row (zi [.slice none 0 0] N) true 0)):Bs h X g (List.replicate N []):=by
 rw[zHP]at hg;refine⟨_,hg,by simp,fun i hi=> ?_⟩;rw[Gk]at hi;rw[QD,G3,QJ hi,QD,G3,QJ hi];exact W4.nil
end
section
variable {h:WA}{vt vf:Value}{T:List WF}{F:List We}
def zNw(E:SE h vt vf T F)(TT:SF h)(J:List (List Wa)->Prop)(F4:J (List.replicate (Y0 T F).toNat []))(hJ:zb T F=0->∀ L' L x y,BO T F L'->BO T F L->J L'->J L->x∈Y9 T F->y∈Zs T F L' x->J (zEB L y)):
  G0 15 [.agg #[vt,vf]] h fun r h'=>(∃ v,r=.tuple #[v,I (zb T F)]/\(zb T F=0->∃ L X,BH X h' v L/\BO T F L/\J L/\zUI (Y9 T F) (Y9 T F).length L))/\WH h h':=by
 refine en ?_;refine VH ?_;intro p1 h1 e1 o1;replace o1:WB h h1 p1 [vt,vf]:=o1;refine go ?_;refine Vu ?_;refine go ?_;refine VA (zOm (E.ext e1)) ?_;rintro _ h2 ⟨⟨p,rfl,hK⟩,e2⟩;have cT:=o1.ext e2;by_cases hs:zb T F=0;case neg=>
  refine go ?_;refine zBs ?_;refine rt ?_;exact⟨⟨_,rfl,fun h=>absurd h hs⟩,e1.trans e2⟩
 obtain⟨vK,vA,vR,K⟩:=hK hs;have aE:=e1.trans e2;have Kh:=zPP (E.ext aE);rw[hs]at Kh;rw[hs];refine go ?_;refine VA Kh ?_;rintro _ h3 ⟨⟨vc,rfl,oc,aO⟩,e3⟩;obtain⟨c1,c2,c3,rfl⟩:=Ys oc;have bQ:=aE.trans e3;have E3:=E.ext bQ;have F6:=TT.ext bQ;have K3:=K.ext e3;have fg:=zPO hs;have RM:=hJ hs;have hnd:=zAB hs;have A0:=BO.new (T:=T) (F:=F) hs;obtain⟨N,hN⟩:∃ N:Nat,Y0 T F=N:=⟨(Y0 T F).toNat,ω⟩;obtain⟨gp,g1,g2,rfl,g3⟩:=id K3.own;have F7:=K3.own;rw[hN]at F7;rw[hN,QZ]at F4 A0;have RN:N<=100000:=ω
 have Ki:=oc.sl;generalize Y9 T F=C at *;refine go ?_;refine Xv (n:=N) RN ?_;intro h4 e4 n4 g4;refine go ?_;refine WO.al ?_;intro p8 h5 e5 o5;refine go ?_;refine VG (cs:=[.slice (some ⟨h3.n,0,none⟩) N 1]) o5 e5 ?_;intro h6 e6 o6 u6;refine go ?_;refine WO.al ?_;intro pf h7 e7 o7;refine go ?_;refine VG (cs:=[I (-1),I 0]) o7 e7 ?_;intro h8 e8 o8 u8;obtain⟨b8,q1,q2,rfl,q3⟩:=o6;obtain⟨cM,s1,s2,rfl,s3⟩:=o8;have S8:BQ h3 h8 h8.n b8 h3.n cM (List.replicate N []) (-1) 0:=by
  have n6:=e6.n;have n8:=e8.n;exact⟨ω,(e4.trans e6).trans e8,QF _,zRs ((e8.get h3.n ω).trans ((e6.get h3.n ω).trans g4)),by rw[Gk];exact(e8.get b8 q2).trans q3,s3⟩
 clear u6 u8 o5 o7;generalize h8.n=X at *;generalize hg:h3.n=g at *;refine go ?_;refine VD (fun L=>(20000000000-YG L L.length).toNat) (fun L t h9=>∃ a,BQ h3 h9 X b8 g cM L a (YG L L.length)/\BO T F L/\J L) (List.replicate N []) ?_ ?_
 ·exact⟨-1,by rw[zSP];exact S8,A0,F4⟩
 rintro L t h9 ab ⟨a,S,A,Kj⟩;have sc9:SlO h9 (.slice c1 c2 c3) C:=SlO.ext Ki S.e;refine go ?_;refine VD (fun i=>C.length-i) (fun i t gV=>zC t 39=I i/\i<=C.length/\∃ L1,BQ h3 gV X b8 g cM L1 a (YG L L.length)/\BO T F L1/\J L1/\YG L L.length<=YG L1 L1.length/\zUI C i L1) 0 ?_ ?_
 ·exact⟨WJ,QQ _,L,S,A,Kj,Q1 _,fun k hk=>absurd hk (GJ _)⟩
 clear S A Kj A0 F4 S8;rintro i t gV F8 ⟨s39,hi,L1,S1,A1,AU,hle,Kk⟩;have F9:SlO gV (.slice c1 c2 c3) C:=SlO.ext Ki S1.e;refine F0 ?_ ?_<;>intro hb
 ·have af:i<C.length:=ω
  obtain⟨cs,⟨va,rfl,sa,d8⟩,pc,um⟩:=yv F9 af;obtain⟨sZ,jr,tc,rfl⟩:=Wm.shape sa.sl;have hx:=zH af;have C1:=fg _ hx;generalize RO:C.getD i default=x at *;refine go ?_;refine WO.al ?_;intro lD jo gj lE;refine go ?_;refine VG (cs:=[.int .u8 x.kind,I x.to,I x.frm,I x.n,.slice sZ jr tc]) lE gj ?_;intro gi aQ cT u12;have S2:=S1.ext aQ;have o82:=S2.own8;have AV:=S2.sl;have Ax:=C1.ask A1.len A1.sets;refine go ?_;refine VA (zJn (E3.ext S2.e) hs (K3.ext S2.e) (F6.ext S2.e) AV x (sa.ext aQ) d8 Ax S2.x) ?_;rintro _ sO ⟨⟨v,rfl,vs,D⟩,df⟩;obtain⟨m1,m2,m3,rfl⟩:=Ys D.o;have S3:=S2.ext df;have aq:=zD6 hs Ax;have hYl:=zHI hs Ax d8;have Kl:x.kind=1->Zs T F L1 x=[⟨x.to,zCZ x.n⟩]:=fun h=>by unfold Zs;rw[QJ h]
  have aT:x.kind=1->x.n∈zQ (zCZ x.n):=fun h=>zSn hs ⟨C1.n.1.1,C1.n.2 h⟩;have RP:=fun L2 y (A2:BO T F L2) (AW:J L2) hy=>RM L1 L2 x y A1 A2 AU AW hx hy;have oN:=D.o;have Km:=D.s;have hX2:=S2.x;generalize Zs T F L1 x=Y at *;have xS:=Km.1;have sN:=oN.sl;refine go ?_;refine VD (fun j=>Y.length-j) (fun j t gw=>zC t 52=I j/\j<=Y.length/\∃ L2,BQ h3 gw X b8 g cM L2 a (YG L L.length)/\BO T F L2/\J L2/\YG L L.length<=YG L2 L2.length/\sO.n<=gw.n/\(∀ k,X<=k->k<sO.n->gw.get k=sO.get k)/\zUI C i L2/\(0<j->x.kind=1->x.n∈zQ (setL L2 x.to))) 0 ?_ ?_
  ·exact⟨WJ,QQ _,L1,S3,A1,AU,hle,QF _,fun _ _ _=>rfl,Kk,fun h=>absurd h (GJ _)⟩
  rintro j t gw br ⟨s52,hj,L2,S4,A2,AW,lX,Ha,rV,Kn,RQ⟩;have Ak:W7 2 RNv gw (.slice m1 m2 m3) vs:=(zAY zDI oN fun q hq=>by
   have:=zZ oN q hq;exact⟨ω,rV q ω ω⟩).sl
  have Hb:=Km.keep rV Ha;refine go ?_;refine VE (fun aI=> ?_) (fun aI=> ?_)<;>simp only[DB]at aI
  ·have dY:j<Y.length:=ω
   obtain⟨DT,rW,Ai,jh⟩:=yv Ak (i:=j) ω;have rW:DT=[I (vs.getD j default).1,(vs.getD j default).2]:=rW;subst rW;obtain⟨z1,z2⟩:=Hb.2 j dY;have hy:=zH (l:=Y) dY;obtain⟨t1,t2⟩:=aq _ hy;replace t2:=t2 C1.n.2;have RR:=RP L2 _ A2 AW hy;have RS:x.kind=1->Y.getD j default=⟨x.to,zCZ x.n⟩:=fun h=>by
    have h1:=Kl h;rw[h1]at hy;rw[h1];exact QO.1 hy
   generalize Y.getD j default=y at *;rw[z1]at Ai;generalize(vs.getD j default).2=w at *;obtain⟨w1,w2,w3,rfl⟩:=z2.shape;refine go ?_;refine WO.al ?_;intro p16 lP cH jt;refine go ?_;refine VG (cs:=[I y.to,.slice w1 w2 w3]) jt cH ?_;intro kf dD rG u16;have S5:=S4.ext dD;have Aq:=S5.own8;have ng:=S5.sl;have Hc:BH X (inC (zB 0 kf)) (.slice (some ⟨g,0,none⟩) L2.length 1) L2:=ng;have tN:y.to.toNat<L2.length:=by have:=A2.len;unfold Ba at t1;omega
   have hyn:0<=y.to:=t1.1;obtain⟨u,Fu,⟨u1,u2,u3,rfl⟩,tJ,RT⟩:=ng.get tN;have xb:=(tJ _ (zG 0 kf)).2;have Ko:=Fu.ext (zG 0 kf);have Kp:=(z2.ext dD).ext (zG 0 kf);have Fh:=zu 0 Aq;have RU:=zu 0 rG;refine go ?_;refine VC 0 rfl rfl ?_;refine WU ?_;refine VA (zVN (inC (zB 0 kf)) _ _ (L2.getD y.to.toNat []) y.set Ko.1 Kp.1 Ko.2.1 Kp.2.1 (QF _)) ?_;rintro _ X5 ⟨⟨v',rfl,m⟩,eX⟩;obtain⟨w4,w5,w6,rfl⟩:=zD m.sl;obtain⟨RV,r1,r2,r3⟩:=zUj S5 eX;have F5:W4 X5 X (.slice w4 w5 w6) (orW (setL L2 y.to) y.set):=m.far S5.x (zRY hs (zEI (A2.at t1) t2).1);have sLX:BH X (inC X5) (.slice (some ⟨g,0,none⟩) L2.length 1) L2:=by have:=BH.ext Hc eX;exact this
   refine WO.nil (zDs eX za ?_);refine WU ?_;refine XI (q:=g) (off:=y.to.toNat) (row:=RV) (cs:=[.slice w4 w5 w6]) r1 (by have:=S5.e.mark;have:=E3.hm;omega) ?_ (by simp;omega) (hx:=by rw[show Value.pointer (some ⟨g,y.to.toNat,none⟩)=yH (.slice (some ⟨g,0,none⟩) L2.length 1) (y.to.toNat*1) by show _=Value.pointer (some ⟨g,0+y.to.toNat*1,none⟩);rw[Q8,G7]];exact zO);intro H nH kH gH wH mH rH;obtain⟨S6,n6,k6⟩:=S5.put eX r2 r3 F5 tN nH kH gH wH mH rH;have sW:=dD.n;refine go ?_;exact zA (j+1) ω ⟨Wy,ω,zEB L2 y,S6,A2.add t1 t2,RR,Int.le_trans lX (zR1 A2 t1 t2),ω,fun k h1 h2=>(k6 k h1 ω).trans ((dD.get k ω).trans (rV k h1 h2)),fun k hk cV=>zOs A2 t1 t2 (Kn k hk cV),fun _ h=>by
    have h1:=RS h;have h2:=zRr A2 t1 t2 (n:=x.n) (by rw[h1];exact aT h);rw[show y.to=x.to by rw[h1]]at h2;exact h2⟩
  ·refine go ?_;refine zA (i+1) ω ⟨Wy,ω,L2,S4,A2,AW,lX,fun k hk cV=> ?_⟩;by_cases e:k=i
   ·subst e;rw[RO]at cV |-;exact RQ (by have h7:Y.length=1:=congrArg List.length (Kl cV);omega) cV
   ·exact Kn k ω cV
 ·have bj:i=C.length:=ω
  subst bj;have RX:=S1.own8;have Hd:=S1.own10;have Fh:=zu 0 RX;have RY:=zu 0 Hd;have lV:=S1.sl;have rU:BH X (inC (zB 0 gV)) (.slice (some ⟨g,0,none⟩) L1.length 1) L1:=lV;have hsz:=fun s (q:s∈L1)=>zKJ hs (A1.sets s q);have nj:=fun s (q:s∈L1)=>(YE (A1.sets s q).ok.bd).2 (A1.sets s q).ok;have fw:=A1.len;have RZ:=zRh hs A1;refine go ?_;refine VC 0 rfl rfl ?_;refine WU ?_;refine VJ (WV.func (zRN Fh rU hsz nj ω)) ?_;rintro _ X5 ⟨rfl,eX⟩;refine WO.nil (zDs eX za ?_);refine WU ?_;refine XI (q:=cM) (off:=0) (row:=[I a,I (YG L L.length)]) (cs:=[I (YG L L.length),I (YG L1 L1.length)]) ((eX.get cM (show cM<gV.n by have:=S1.c;have:=S1.x;omega)).trans S1.s) (by have:=S1.e.mark;have:=E3.hm;have:=S1.c;omega) ?_ (by simp);intro H nH kH gH wH mH rH;have S6:=S1.siz eX nH kH gH wH mH rH;have R0:=S6.own10;have o86:=S6.own8;by_cases hq:YG L L.length=YG L1 L1.length
  ·refine go ?_;refine zBs ?_;refine rt ?_;exact⟨⟨_,rfl,fun _=>⟨L1,X,S6.sl,A1,AU,Kk⟩⟩,bQ.trans S6.e⟩
  ·refine go ?_;exact zA L1 ω ⟨_,S6,A1,AU⟩
end
section
variable {h0 h:WA}{p vt vf vK vA vR vl va:Value}{T:List WF}{F:List We}{X X0:Nat}{L:List (List Wa)}
def zOn(L:List (List Wa))(x:Wj):Bool:=decide (((zA1 SR x.set (setL L x.to)).length:Int)=0)
def zUJ(sL:BH X h vl L)(x:Wj)(hn:0<=x.to/\x.to<L.length){w:Value}(Fw:W4 h X0 w x.set)(hm:h.mark<=h.n):
  G0 33 [vl,.agg #[I x.to,w]] h fun r h'=>r=.bool (zOn L x)/\WH h h':=by
 obtain⟨w1,w2,w3,rfl⟩:=Fw.shape;obtain⟨l1,l2,l3,rfl⟩:=zD sL;obtain⟨u,Fu,⟨u1,u2,u3,rfl⟩,pc,bP⟩:=sL.get (i:=x.to.toNat) ω;refine en ?_;refine VH ?_;intro p1 h1 e1 o1;replace o1:WB h h1 p1 [I x.to,.slice w1 w2 w3]:=o1;have oY:WB h (inC (zB 0 h1)) p1 [I x.to,.slice w1 w2 w3]:=zu 0 o1;have lV:=BH.ext sL (e1.trans (zG 0 h1));have rU:BH X (inC (zB 0 h1)) (.slice l1 l2 l3) L:=lV;have xb:=(pc _ (e1.trans (zG 0 h1))).2;have F1:=Fw.ext (e1.trans (zG 0 h1));have F2:=Fu.ext (e1.trans (zG 0 h1));have hl:x.to.toNat<L.length:=ω
 refine go ?_;refine VC 0 rfl rfl ?_;refine WU ?_;refine VA (zJv (inC (zB 0 h1)) _ _ x.set (L.getD x.to.toNat []) F1.1 F2.1 F1.2.1 F2.2.1 (QF _)) ?_;rintro _ X1 ⟨⟨v,rfl,m⟩,eX⟩;have sm:=m.sl;obtain⟨m1,m2,m3,rfl⟩:=zD sm;have R1:W8 (z9 h1 (inC X1)) (.slice m1 m2 m3) (zA1 SR x.set (L.getD x.to.toNat [])):=sm;refine WO.nil (zDs eX za ?_);refine WU ?_;have eH:WH h1 (z9 h1 (inC X1)):=⟨eX.n,eX.get,fun w=>eX.wf w,rfl,fun _=>rfl⟩;refine gr ?_;exact⟨rfl,e1.trans eH⟩
def zMr(h:WA)(vs:List (Int×Value))(fv:Value)(q:Nat->Bool):Prop:=∀ i,i<vs.length->∀ h1,WH h h1->WV Tryz.prog tb fv [.agg #[I (vs.getD i default).1,(vs.getD i default).2]] h1 fun r h'=>r=.bool (q i)/\WH h1 h'
def zNM(v fv:Value)(vs:List (Int×Value))(q:Nat->Bool)(s:W7 2 RNv h v vs)(hl:vs.length<=1000000)(hf:zMr h vs fv q):
  G0 79 [v,fv] h fun r h'=>(∃ n:Int,r=I n/\(decide (0<=n))=(List.range vs.length).any q)/\WH h h':=by
 refine en ?_;refine VD (fun i=>vs.length-i) (fun i t h1=>WH h h1/\zC t 8=I i/\i<=vs.length/\∀ j,j<i->q j=false) 0 ?_ ?_
 ·exact⟨WH.refl h,WJ,QQ _,fun j hj=>absurd hj (GJ _)⟩
 rintro i t h1 ab ⟨e1,s8,hi,hm⟩;have s1:W7 2 RNv h1 v vs:=W7.ext (fun _ _ r=>zDI _ _ _ _ r) s e1;refine F0 ?_ ?_<;>intro hb
 ·have af:i<vs.length:=ω
  obtain⟨cs,b9,pc,hs⟩:=yv s1 af;have lr:=hf i af h1 e1;have b9:cs=[I (vs.getD i default).1,(vs.getD i default).2]:=b9;subst b9;generalize vs.getD i default=y at *;refine go ?_;refine VJ lr ?_;rintro _ h2 ⟨rfl,e2⟩;refine go ?_;refine VE (fun hb=> ?_) (fun hb=> ?_)
  ·refine gr ?_;refine⟨⟨i,rfl,?_⟩,e1.trans e2⟩;rw[JH.2 ⟨i,Q4.2 af,hb⟩];simp
  ·refine go ?_;refine zA (i+1) ω ⟨e1.trans e2,Wy,ω,fun j hj=> ?_⟩;by_cases e:j=i
   ·subst e;exact hb
   ·exact hm j ω
 ·refine gr ?_;refine⟨⟨-1,rfl,?_⟩,e1⟩;rw[zBI fun x hx=>hm x (by have:=Q4.1 hx;omega)];rfl
def zOg(v fv:Value)(vs:List (Int×Value))(q:Nat->Bool)(s:W7 2 RNv h v vs)(hl:vs.length<=1000000)(hf:zMr h vs fv q):
  G0 31 [v,fv] h fun r h'=>r=.bool ((List.range vs.length).any q)/\WH h h':=by
 refine en ?_;refine VA (zNM v fv vs q s hl hf) ?_;rintro _ h1 ⟨⟨n,rfl,e⟩,e1⟩;refine gr ?_;exact⟨by rw[<-e];rfl,e1⟩
end
section
variable {h0 h:WA}{p vt vf vK vA vR vl va:Value}{T:List WF}{F:List We}{X X0:Nat}{L:List (List Wa)}
def zFz(T:List WF)(F:List We)(s:List Wa):Bool:=zv (-1) s&& !(decide (0<(zQ s).length)&&decide (BK T F<=(zQ s).getD ((zQ s).length-1) 0))
def zOG(m n:Int):Bool:=decide (n<0)||decide (m<=n)
def SN(T:List WF)(F:List We)(L:List (List Wa))(x:Wh):Bool:=decide ((L.length:Int)=Y0 T F/\0<=x.n/\x.n<=BK T F)&&L.all (zFz T F)&& !((x.to::x.frm::x.args).any (zOG (Y0 T F)))
def zTO{s:List Wa}(hb:BdW s)(h:zFz T F s=true):By T F s:=by
 unfold zFz at h;simp only[QI,Ge,Bool.and_eq_false_iff,Gz]at h;have ok:=(YE hb).1 h.1;refine⟨ok,fun n hn=> ?_⟩;have hr:=zAk ok;obtain⟨i,hi,rfl⟩:=G6 hn;have h2:=h.2.resolve_left ω;rw[QD,QB (by omega:(zQ s).length-1<(zQ s).length)]at h2;have h2:(zQ s)[(zQ s).length-1]<BK T F:=by simpa using h2
 by_cases e:i=(zQ s).length-1
 ·subst e;exact h2
 ·have:=List.pairwise_iff_getElem.1 hr i ((zQ s).length-1) hi ω ω;omega
def zMu{x:Wh}(hb:∀ s∈L,BdW s)(h:SN T F L x=true):SV T F L x:=by
 unfold SN at h;simp only[QI,Qc,QX,Ge,G4,zOG,GM,not_or]at h;obtain⟨⟨⟨h1,h2,h3⟩,h4⟩,h5⟩:=h;have h6:∀ n∈x.to::x.frm::x.args,Ba T F n:=fun n hn=>by
  have:=h5 n hn;unfold Ba;omega
 exact⟨h1,⟨h2,.inl h3⟩,fun s hs=>zTO (hb s hs) (h4 s hs),h6 _ (QR ..),h6 _ (QW _ (QR ..)),fun a ha=>h6 a (QW _ (QW _ ha))⟩
def zRR{hq:WA}{pb:Value}(K:TE h0 h p vt vf vK vA vR T F)(ob:WB hq h pb [p])(n:Int):
  G0 74 [I n,pb] h fun r h'=>r=.bool (zOG (Y0 T F) n)/\WH h h':=by
 obtain⟨⟨k1,k2,k3,rfl⟩,⟨a1,a2,a3,rfl⟩,⟨r1,r2,r3,rfl⟩⟩:=K.sh;have own:=K.own;obtain⟨gp,g1,g2,rfl,g3⟩:=id own;unfold zOG;refine en ?_;by_cases hn:n<0
 ·rw[Qa hn,Qx];refine gr ?_;exact⟨rfl,WH.refl _⟩
 ·rw[QY hn,Qu];refine gr ?_;exact⟨rfl,WH.refl _⟩
def zSf(E:SE h vt vf T F)(K:TE h0 h p vt vf vK vA vR T F)(TT:SF h)(sL:BH X h vl L)(x:Wh)(sa:OwA h va x.args)(d8:x.args.length<=1000)(hL:L.length<=1000000)(hk:∀ s∈L,(zQ s).length<=100000):
  G0 29 [p,vl,.agg #[.int .u8 x.kind,I x.to,I x.frm,I x.n,va]] h fun r h'=>r=.bool (SN T F L x)/\WH h h':=by
 have K0:=K;obtain⟨⟨k1,k2,k3,rfl⟩,⟨a1,a2,a3,rfl⟩,⟨r1,r2,r3,rfl⟩⟩:=K.sh;obtain⟨l1,l2,l3,rfl⟩:=zD sL;obtain⟨v1,v2,v3,rfl⟩:=Wm.shape sa.sl;obtain⟨gp,g1,g2,rfl,g3⟩:=id K.own;have R2:=sa.sl;refine en ?_;refine VH ?_;intro p3 h1 e1 o3;replace o3:WB h h1 p3 [.pointer (some ⟨gp,0,none⟩)]:=o3;refine go ?_;refine VH ?_;intro p5 h2 e2 o5;replace o5:WB h1 h2 p5 [.int .u8 x.kind,I x.to,I x.frm,I x.n,.slice v1 v2 v3]:=o5;have aE:=e1.trans e2;have K2:=K.ext aE;have dI:=K2.own;have AH:=o3.ext e2;have AV:=BH.ext sL aE;by_cases q1:(L.length:Int)=Y0 T F;case neg=>
  have hf:SN T F L x=false:=by unfold SN;rw[QY (fun h=>q1 h.1)];rfl
  rw[hf];refine gr ?_;exact⟨rfl,aE⟩
 by_cases q2:x.n<0;case pos=>
  have hf:SN T F L x=false:=by unfold SN;rw[QY (fun h=>by omega)];rfl
  rw[hf];refine gr ?_;exact⟨rfl,aE⟩
 by_cases q3:BK T F<x.n;case pos=>
  have hf:SN T F L x=false:=by unfold SN;rw[QY (fun h=>by omega)];rfl
  rw[hf];refine gr ?_;exact⟨rfl,aE⟩
 refine go ?_;have bM:∀ i,i<L.length->zFz T F (L.getD i [])=false->SN T F L x=false:=fun i hi hb=>by
  have h1:L.all (zFz T F)=false:=by
   rw[List.all_eq_false];exact⟨L.getD i [],by rw[QD,QB hi];exact JE hi,by rw[hb];exact Bool.false_ne_true⟩
  unfold SN;rw[h1,Qo];rfl
 refine VD (fun i=>L.length-i) (fun i t h3=>zC t 34=I i/\i<=L.length/\WH h2 h3/\∀ j,j<i->zFz T F (L.getD j [])=true) 0 ?_ ?_
 ·exact⟨WJ,QQ _,WH.refl _,fun j hj=>absurd hj (GJ _)⟩
 rintro i t h3 ab ⟨s34,hi,e3,aP⟩;have bQ:=aE.trans e3;have E3:=E.ext bQ;have F6:=TT.ext bQ;have R3:=BH.ext sL bQ;have tD:=AH.ext e3;have R4:=o5.ext e3;refine F0 ?_ ?_<;>intro hb
 ·have af:i<L.length:=ω
  obtain⟨w,Fw,⟨w1,w2,w3,rfl⟩,pc,bP⟩:=R3.get af;have pc3:=(pc _ (WH.refl _)).1;have fz:=hk (L.getD i []) (by rw[QD,QB af];exact JE af);have jm:=bM i af;have R6:=zM2 h3 _ (L.getD i []) Fw.1 F6 (by have:=Fw.2.1;omega) E3.hm;have iF:zFz T F (L.getD i [])=true->∀ j,j<i+1->zFz T F (L.getD j [])=true:=fun h j hj=>by
   by_cases e:j=i
   ·subst e;exact h
   ·exact aP j ω
  have i4:zFz T F (L.getD i [])=(zv (-1) (L.getD i [])&& !(decide (0<(zQ (L.getD i [])).length)&&decide (BK T F<=(zQ (L.getD i [])).getD ((zQ (L.getD i [])).length-1) 0))):=rfl;generalize zFz T F (L.getD i [])=ob at *;generalize zQ (L.getD i [])=N at *;generalize zv (-1) (L.getD i [])=cb at *;refine go ?_;refine VA R6 ?_;rintro _ h4 ⟨⟨v4,rfl,o4⟩,e4⟩;obtain⟨m1,m2,m3,rfl⟩:=Wm.shape o4.sl;have cg:=bQ.trans e4;have tK:=e3.trans e4;have K4:=K.ext cg;have R7:=K4.own;have It:=tD.ext e4;have s4:=o4.sl;cases cb with
  |false=>
   rw[jm i4];rw[show zBo false=8 from rfl];refine gr ?_;exact⟨rfl,cg⟩
  |true=>
   rw[QJ rfl]at s4 o4;rw[show zBo true=0 from rfl];by_cases hz:N.length=0
   ·have ht:ob=true:=by rw[i4,QY ω];rfl
    refine go ?_;exact zA (i+1) ω ⟨Wy,ω,tK,iF ht⟩
   ·by_cases nh:BK T F<=N.getD (N.length-1) 0
    ·have ht:ob=false:=by rw[i4,Qa ω,Qa nh];rfl
     rw[jm ht];have He:((N.length:Int)-1).toNat=N.length-1:=ω
     rw[<-He]at nh;refine gr ?_;exact⟨rfl,cg⟩
    ·have ht:ob=true:=by rw[i4,QY nh,Qo];rfl
     have He:((N.length:Int)-1).toNat=N.length-1:=ω
     rw[<-He]at nh;refine go ?_;exact zA (i+1) ω ⟨Wy,ω,tK,iF ht⟩
 ·have bj:i=L.length:=ω
  subst bj;have h1:L.all (zFz T F)=true:=QX.2 fun s hs=>by
   obtain⟨j,hj,rfl⟩:=G6 hs;have:=aP j hj;rwa [QD,QB hj]at this
  have hf:SN T F L x= !((x.to::x.frm::x.args).any (zOG (Y0 T F))):=by
   unfold SN;rw[h1,Qa ω];rfl
  have qJ:=R2.ext bQ;have K3:=K.ext bQ;refine go ?_;refine WO.bl [x.to,x.frm] ?_;intro v6 h6 e6 o6;have xK:=qJ.ext e6;have c9:=bQ.trans e6;have xW:=R4.ext e6;have o36:=tD.ext e6;refine go ?_;refine Vc (h0:=h3) (.inr o6) xK e6 (by simp;omega) ?_;intro v7 h7 e7 o7;have Ar:=bQ.trans e7;have s7:=o7.sl;have K7:=K0.ext Ar;have Sa:=tD.ext e7;refine go ?_;refine VA (zAi h7 v7 _ _ (zOG (Y0 T F)) s7 (by simp;omega) fun n hn h8 e8=>WV.func (zRR (K7.ext e8) (Sa.ext e8) n)) ?_;rintro _ h8 ⟨rfl,e8⟩;refine gr ?_;exact⟨by rw[hf];rfl,Ar.trans e8⟩
end
section
variable {h0 h:WA}{p vt vf vK vA vR vl va:Value}{T:List WF}{F:List We}{X X0:Nat}{L:List (List Wa)}
def zSA{hq:WA}{pb:Value}(ob:WB hq h pb [vl])(sL:BH X h vl L)(x:Wj)(hn:0<=x.to/\x.to<L.length){w:Value}(Fw:W4 h X0 w x.set)(hm:h.mark<=h.n):
  G0 32 [.agg #[I x.to,w],pb] h fun r h'=>r=.bool (!zOn L x)/\WH h h':=by
 obtain⟨w1,w2,w3,rfl⟩:=Fw.shape;obtain⟨l1,l2,l3,rfl⟩:=zD sL;refine en ?_;refine VH ?_;intro p1 h1 e1 o1;replace o1:WB h h1 p1 [I x.to,.slice w1 w2 w3]:=o1;have o2:=ob.ext e1;refine go ?_;refine VA (zUJ (BH.ext sL e1) x hn (Fw.ext e1) (by rw[e1.mark];exact QM hm e1.n)) ?_;rintro _ h2 ⟨rfl,e2⟩;refine gr ?_;exact⟨rfl,e1.trans e2⟩
def zJk(T:List WF)(F:List We)(L:List (List Wa))(x:Wh):Bool:=zMg x&&(Zs T F L x).all (zOn L)
def zS0{α:Type}[Inhabited α](N:List α)(f:α->Bool):(!(List.range N.length).any fun i=> !f (N.getD i default))=N.all f:=by
 rw[GX,Ge,G4,QX];constructor
 ·intro h x hx;obtain⟨i,hi,rfl⟩:=Zi hx;have:=h i (Q4.2 hi);simpa using this
 ·intro h i hi;rw[h _ (zH (Q4.1 hi))];exact Bool.false_ne_true
def zSk(E:SE h vt vf T F)(TT:SF h)(sL:BH 0 h vl L)(x:Wh)(sa:OwA h va x.args)(d8:x.args.length<=1000)(hL:L.length<=1000000)(hk:∀ s∈L,(zQ s).length<=100000)(jm:∀ s∈L,BdW s):
  G0 10 [.agg #[vt,vf],vl,.agg #[.int .u8 x.kind,I x.to,I x.frm,I x.n,va]] h fun r h'=>r=.tuple #[.bool (decide (zb T F=0)&&SN T F L x&&zJk T F L x),I (if zb T F=0 then(if SN T F L x then 0 else 2)else zb T F)]/\WH h h':=by
 obtain⟨l1,l2,l3,rfl⟩:=zD sL;obtain⟨v1,v2,v3,rfl⟩:=Wm.shape sa.sl;refine en ?_;refine VH ?_;intro p3 h1 e1 o3;replace o3:WB h h1 p3 [vt,vf]:=o3;refine go ?_;refine VH ?_;intro p4 h2 e2 o4;replace o4:WB h1 h2 p4 [.slice l1 l2 l3]:=o4;refine go ?_;refine VH ?_;intro p5 h3 e3 o5;replace o5:WB h2 h3 p5 [.int .u8 x.kind,I x.to,I x.frm,I x.n,.slice v1 v2 v3]:=o5;have bQ:=(e1.trans e2).trans e3;have tD:=(o3.ext e2).ext e3;have sP:=o4.ext e3;refine go ?_;refine VA (zOm (E.ext bQ)) ?_;rintro _ h4 ⟨⟨p,rfl,hK⟩,e4⟩;have cg:=bQ.trans e4;have Sb:=sP.ext e4;have Sc:=o5.ext e4;by_cases hs:zb T F=0;case neg=>
  rw[QC hs,QY hs];refine gr ?_;exact⟨rfl,cg⟩
 obtain⟨vK,vA,vR,K⟩:=hK hs;rw[QJ hs,Qa hs];rw[hs];have Kq:=BH.ext sL cg;have Ad:=sa.ext cg;refine go ?_;refine VA (zSf (E.ext cg) K (TT.ext cg) Kq x Ad d8 hL hk) ?_;rintro _ h5 ⟨rfl,e5⟩;have bh:=cg.trans e5;have ES:=Sb.ext e5;have vP:=Sc.ext e5;cases kC:SN T F L x with
 |false=>
  refine gr ?_;exact⟨rfl,bh⟩
 |true=>
  have A:=zMu jm kC;have Hf:=fun y hy=>(zD6 hs A y hy).1;have Sd:=zHI hs A d8;have K5:=K.ext e5;have ng:=BH.ext Kq e5;refine go ?_;refine VA (zJn (E.ext bh) hs K5 (TT.ext bh) ng x (sa.ext bh) d8 A (QQ _)) ?_;rintro _ h6 ⟨⟨v,rfl,D⟩,e6⟩;unfold zJk;generalize Zs T F L x=N at *;have c9:=bh.trans e6;have Se:=ES.ext e6;obtain⟨vs,D⟩:=D;have sD:=D.o.sl;obtain⟨m1,m2,m3,rfl⟩:=Ys D.o;have hlen:=D.s.1;have Ac:=(E.ext c9).hm;have hlN:=A.len;cases AP:zMg x with
  |false=>
   refine gr ?_;exact⟨rfl,c9⟩
  |true=>
   refine go ?_;refine VA (zOg (.slice m1 m2 m3) _ vs (fun i=> !zOn L (N.getD i default)) sD ω fun i hi h7 e7=> ?_) ?_
   ·obtain⟨q1,q2⟩:=D.s.2 i ω;rw[q1];have aq:=Hf _ (zH (l:=N) (i:=i) ω);unfold Ba at aq;exact WV.func (zSA (Se.ext e7) (BH.ext ng (e6.trans e7)) _ ω (q2.ext e7) (by rw[e7.mark];exact QM Ac e7.n))
   rintro _ h7 ⟨rfl,e7⟩;refine gr ?_;refine⟨?_,c9.trans e7⟩;rw[hlen,zS0];rfl
end
def RSw(h:WA)(cs:List Value)(s:List Wa):Prop:=∃ v,cs=[v]/\W8 h v s
def RSw.ext{h h':WA}{cs:List Value}{s:List Wa}(r:RSw h cs s)(e:WH h h'):RSw h' cs s:=let⟨v,a,b⟩:=r;⟨v,a,W8.ext b e⟩
def zKz(h:WA)(vl:Value)(L:List (List Wa))(s:W7 1 RSw h vl L)(hl:(L.length:Int)<=9223372036854775807):
  G0 9 [vl] h fun r h'=>(∃ b,r=.bool b/\(b=false->L.length<=500/\∀ q∈L,q.length<=10))/\WH h h':=by
 obtain⟨l1,l2,l3,rfl⟩:=zD s;refine en ?_;refine VD (fun i=>600-i) (fun i t h1=>zC t 3=I i/\i<=L.length/\WH h h1/\∀ j,j<i->(L.getD j []).length<=10) 0 ?_ ?_
 ·exact⟨WJ,QQ _,WH.refl _,fun j hj=>absurd hj (GJ _)⟩
 rintro i t h1 ab ⟨s3,hi,e1,aP⟩;have s1:W7 1 RSw h1 (.slice l1 l2 l3) L:=W7.ext (fun _ _ r=>RSw.ext r e1) s e1;by_cases af:i<L.length/\i<600
 ·obtain⟨nR,cN⟩:=af;obtain⟨cs,⟨w,rfl,sw⟩,pc,hs⟩:=yv s1 nR;obtain⟨w1,w2,w3,rfl⟩:=zD sw;have nU:(L.getD i default)=L.getD i []:=rfl;rw[nU]at sw;by_cases hg:10<(L.getD i []).length
  ·refine gr ?_;exact⟨⟨true,rfl,fun h=>by cases h⟩,e1⟩
  ·refine go ?_;exact zA (i+1) ω ⟨Wy,ω,e1,fun j hj=>by
    by_cases e:j=i
    ·subst e;omega
    ·exact aP j ω⟩
 ·have xe:i=L.length\/(i<L.length/\600<=i):=ω
  rcases xe with hc|hc
  ·refine gr ?_;refine⟨⟨_,rfl,fun hb=>⟨by simp at hb;omega,fun q hq=> ?_⟩⟩,e1⟩;obtain⟨j,hj,rfl⟩:=G6 hq;have:=aP j ω;rwa [QD,QB hj]at this
  ·refine gr ?_;refine⟨⟨_,rfl,fun hb=> ?_⟩,e1⟩;exfalso;simp at hb;omega
section
variable {T:List WF}{F:List We}{K:List (List Wa)}
def zI8:∀ s:List Wa,(zQ s).length<=64*s.length
 |[]=>QQ _
 |w::s=>by
  have h1:=zI8 s;have h2:=zFj w.bits;rw[zCt,Qn];omega
def zKo(hs:zb T F=0){L K:List (List Wa)}{x:Wh}(A:SV T F L x)(B:SV T F K x)(h:Bi L K)(hk:∀ y∈Zs T F K x,zOn K y=true)(h1:x.kind=1->x.n<BK T F):∀ y∈Zs T F L x,zLI y.set (setL K y.to):=by
 have hK:=zD6 hs B;have bw:∀ y∈Zs T F K x,zLI y.set (setL K y.to):=fun y hy=>by
  obtain⟨q1,q2⟩:=hK y hy;exact zT8 (q2 h1) (Zp B q1).2.2 (JM (hk y hy))
 have AX:∀ (n k:Int),∀ m∈ye T F (setL L n) k,m∈ye T F (setL K n) k:=fun n k m hm=>by
  unfold ye at hm |-;obtain⟨m1,m2⟩:=Gp.1 hm;exact Gp.2 ⟨h n m m1,m2⟩
 intro y hy;unfold Zs at hy bw;split at hy
 ·rename_i q;rw[QJ q]at bw;exact bw y hy
 rename_i q;rw[QC q]at bw;split at hy
 ·rename_i q;rw[QJ q]at bw;rw[QO]at hy;subst hy;exact fun m hm=>bw _ (QO.2 rfl) m (h _ m hm)
 rename_i q;rw[QC q]at bw;split at hy
 ·rename_i q;rw[QJ q]at bw;obtain⟨n,n1,n2⟩:=GA.1 hy;exact bw y (GA.2 ⟨n,AX _ _ n n1,n2⟩)
 rename_i q;rw[QC q]at bw;split at hy
 ·rename_i q;rw[QJ q]at bw;obtain⟨n,n1,n2⟩:=GA.1 hy;rw[QO]at n2;subst n2;exact fun m hm=>bw _ (GA.2 ⟨n,AX _ _ n n1,QO.2 rfl⟩) m (h _ m hm)
 rename_i q;rw[QC q]at bw;split at hy
 ·rename_i q;rw[QJ q]at bw;obtain⟨n,n1,n2⟩:=GA.1 hy;rw[QO]at n2;subst n2;exact fun m hm=>bw _ (GA.2 ⟨n,AX _ _ n n1,QO.2 rfl⟩) m (h _ m hm)
 rename_i q;rw[QC q]at bw;split at hy
 ·rename_i q;rw[QJ q]at bw;obtain⟨n,n1,n2⟩:=GA.1 hy;have n3:=AX _ _ n n1;have bw:∀ y∈zAt T F K x n,zLI y.set (setL K y.to):=fun y hy=>bw y (GA.2 ⟨n,n3,hy⟩);unfold zAt at n2 bw;split at n2
  ·rename_i q;rw[QJ q]at bw;rcases Qf.1 n2 with n2|n2
   ·obtain⟨i,h4,h5⟩:=GA.1 n2;rw[QO]at h5;subst h5;exact fun m hm=>bw _ (Qf.2 (.inl (GA.2 ⟨i,h4,QO.2 rfl⟩))) m (h _ m hm)
   ·rw[QO]at n2;subst n2;exact fun m hm=>bw _ (Qf.2 (.inr (QO.2 rfl))) m (h _ m hm)
  ·cases n2
 ·cases hy
def zID(T:List WF)(F:List We)(K:List (List Wa)):Prop:=∀ x∈Y9 T F,(SN T F K x&&zJk T F K x)=true
def zQQ(hs:zb T F=0)(hb:∀ s∈K,BdW s)(hK:zID T F K){L' L:List (List Wa)}{x:Wh}{y:Wj}(A':BO T F L')(A:BO T F L)(h':Bi L' K)(h:Bi L K)(hx:x∈Y9 T F)(hy:y∈Zs T F L' x):Bi (zEB L y) K:=by
 have h1:=hK x hx;rw[QI]at h1;have B:=zMu hb h1.1;have h2:=h1.2;unfold zJk at h2;rw[QI,QX]at h2;have C:=zPO hs x hx;have A1:=C.ask A'.len A'.sets;obtain⟨t1,t2⟩:=zD6 hs A1 y hy;exact h.add A t1 (t2 C.n.2) (zKo hs A1 B h' h2.2 C.n.2 y hy)
def zIs{h:WA}{vt vf vl vc:Value}(E:SE h vt vf T F)(TT:SF h)(sL:BH 0 h vl K)(hL:K.length<=1000000)(hk:∀ s∈K,(zQ s).length<=100000)(jm:∀ s∈K,BdW s)(hs:zb T F=0)(sc:SlO h vc (Y9 T F))(aO:(Y9 T F).length<=90000):
  G0 22 [.agg #[vt,vf],vl,vc] h fun r h'=>(∃ b,r=.bool b/\(b=true->zID T F K))/\WH h h':=by
 obtain⟨l1,l2,l3,rfl⟩:=zD sL;obtain⟨c1,c2,c3,rfl⟩:=zD sc;unfold zID;generalize Y9 T F=C at *;refine en ?_;refine VH ?_;intro p1 h1 e1 o1;replace o1:WB h h1 p1 [vt,vf]:=o1;refine go ?_;refine VD (fun i=>C.length-i) (fun i t h2=>zC t 7=I i/\i<=C.length/\WH h1 h2/\∀ j,j<i->(SN T F K (C.getD j default)&&zJk T F K (C.getD j default))=true) 0 ?_ ?_
 ·exact⟨WJ,QQ _,WH.refl _,fun j hj=>absurd hj (GJ _)⟩
 rintro i t h2 ab ⟨s7,hi,e2,aP⟩;have aE:=e1.trans e2;have o2:=o1.ext e2;have Kr:=SlO.ext sc aE;by_cases af:i<C.length
 ·obtain⟨cs,⟨va,rfl,sa,d8⟩,pc,um⟩:=zq Kr af;obtain⟨sZ,jr,tc,rfl⟩:=Wm.shape sa.sl;have xb:=(pc _ (zG 0 h2)).2;clear pc;have iF:(SN T F K (C.getD i default)&&zJk T F K (C.getD i default))=true->∀ j,j<i+1->(SN T F K (C.getD j default)&&zJk T F K (C.getD j default))=true:=fun h j hj=>by
   by_cases e:j=i
   ·subst e;exact h
   ·exact aP j ω
  generalize C.getD i default=x at *;have oY:=zu 0 o2;have scY:SlO (inC (zB 0 h2)) (.slice c1 c2 c3) C:=by have:=SlO.ext Kr (zG 0 h2);exact this
  have E2:=E.ext aE;have T2:=TT.ext aE;have AV:=BH.ext sL aE;have EY:SE (inC (zB 0 h2)) vt vf T F:=⟨E2.tt,QF _,E2.sm,E2.st,E2.sf⟩;have TY:SF (inC (zB 0 h2)):=T2;have rU:BH 0 (inC (zB 0 h2)) (.slice l1 l2 l3) K:=AV;have tB:OwA (inC (zB 0 h2)) (.slice sZ jr tc) x.args:=sa;have hS:=zSk EY TY rU x tB d8 hL hk jm;rw[hs,QJ rfl,Qa rfl,Qh]at hS;generalize SN T F K x=ba at *;generalize zJk T F K x=bb at *;obtain⟨en,rX⟩:∃ en:Int,en=if ba=true then 0 else 2:=⟨_,rfl⟩;obtain⟨bs,gP⟩:∃ bs:Bool,bs=(ba&&bb):=⟨_,rfl⟩;rw[<-rX,<-gP]at hS;refine go ?_;refine VC 0 rfl rfl ?_;refine WU ?_;refine VA hS ?_;rintro _ X5 ⟨rfl,eX⟩;refine WO.nil (zDs eX za ?_);refine WU ?_;have eH:WH h2 (z9 h2 (inC X5)):=⟨eX.n,eX.get,fun w=>eX.wf w,rfl,fun _=>rfl⟩;cases ba with
  |false=>
   replace rX:en=2:=rX;subst rX;refine gr ?_;exact⟨⟨false,rfl,fun h=>by cases h⟩,aE.trans eH⟩
  |true=>
   replace rX:en=0:=rX;subst rX;cases bb with
   |false=>
    replace gP:bs=false:=gP;subst gP;refine gr ?_;exact⟨⟨false,rfl,fun h=>by cases h⟩,aE.trans eH⟩
   |true=>
    replace gP:bs=true:=gP;subst gP;refine go ?_;exact zA (i+1) ω ⟨Wy,ω,e2.trans eH,iF rfl⟩
 ·have bj:i=C.length:=ω
  subst bj;refine gr ?_;refine⟨⟨true,rfl,fun _ x hx=> ?_⟩,aE⟩;obtain⟨j,hj,rfl⟩:=Zi hx;exact aP j hj
def zSj{h:WA}{v:Value}{K:List (List Wa)}(s:W7 1 RSw h v K)(hl:∀ q∈K,q.length<=10):BH 0 h v K:=by
 obtain⟨cells,c,hR⟩:=s;exact⟨cells,c,fun i a ha=>let⟨w,e,k⟩:=hR i a ha;⟨w,e,k,QM (hl a (Gb ha)) (by decide),fun b _=>QQ b⟩⟩
def zUP{h:WA}{v:Value}{K:List (List Wa)}(s:W7 1 RSw h v K):∀ q∈K,BdW q:=fun q hq=>by
 obtain⟨i,hi,rfl⟩:=Zi hq;obtain⟨cs,⟨w,_,k⟩,_⟩:=yv s hi;exact k.bd
def zGt(h:WA)(vt vf:Value)(T:List WF)(F:List We)(vl:Value)(K:List (List Wa))(tt:SA h)(hm:h.mark<=h.n)(tz:SF h)(st:BB h vt T)(sf:BA h vf F)(sk:W7 1 RSw h vl K)(hT:(T.length:Int)<=1152921504606846976)(hF:(F.length:Int)<=1152921504606846976)(hKl:(K.length:Int)<=1152921504606846976):
  G0 6 [.agg #[vt,vf],vl] h fun r h'=>r=.bool true:=by
 obtain⟨l1,l2,l3,rfl⟩:=zD sk;have jm:=zUP sk;refine en ?_;refine VH ?_;intro p h1 e1 o1;replace o1:WB h h1 p [vt,vf]:=o1;refine go ?_;refine VA (zRB h1 (tt.ext e1).1 (tz.ext e1).1) ?_;rintro _ _ ⟨rfl,rfl⟩;refine go ?_;refine VA (zNq h1 vt vf T F 100 ω (st.ext e1) (BA.ext sf e1) ω ω) ?_;rintro rr h2 ⟨hr,e2⟩;have o2:=o1.ext e2;rcases hr with rfl|⟨rfl,sm,si⟩
 ·refine gr ?_;rfl
 have aE:=e1.trans e2;have E:SE h2 vt vf T F:=⟨tt.ext aE,yV aE hm,sm,st.ext aE,BA.ext sf aE⟩;have TT:=tz.ext aE;have AS:W7 1 RSw h2 (.slice l1 l2 l3) K:=W7.ext (fun _ _ r=>RSw.ext r aE) sk aE;clear st sf tt hm tz sk e1 aE;refine go ?_;refine VA (zKz h2 _ K AS ω) ?_;rintro _ h3 ⟨⟨b,rfl,hb⟩,e3⟩;have o3:=o2.ext e3;cases b with
 |true=>
  refine gr ?_;rfl
 |false=>
 obtain⟨Ia,xg⟩:=hb rfl;have Sf:=zSj AS xg;have hk:∀ s∈K,(zQ s).length<=100000:=fun s jY=>by
  have h1:=zI8 s;have h2:=xg s jY;omega
 clear hb AS;refine go ?_;refine VA (zPP (E.ext e3)) ?_;rintro _ h4 ⟨⟨vc,rfl,oc,aO⟩,e4⟩;have o4:=o3.ext e4;have tK:=e3.trans e4;obtain⟨c1,c2,c3,rfl⟩:=zD oc.sl;refine go ?_;refine VA (zNw (E.ext tK) (TT.ext tK) (fun L=>zID T F K->Bi L K) (fun _=>Bi.new _ _) (fun hs L' L x y A' A j' j hx hy hK=>zQQ hs jm hK A' A (j' hK) (j hK) hx hy)) ?_;rintro _ h5 ⟨⟨vL,rfl,hL⟩,e5⟩;have AY:=tK.trans e5;have o5:=o4.ext e5;by_cases hs:zb T F=0;case neg=>
  refine gr ?_;rfl
 obtain⟨L,X,sL,A,hJ,-⟩:=hL hs;obtain⟨a1,a2,a3,rfl⟩:=zD sL;rw[hs];have hAl:=A.len;have hnd:=zAB hs;have Ks:=BH.ext Sf AY;by_cases hlen:L.length=K.length;case neg=>
  refine gr ?_;rfl
 refine go ?_;refine VA (zIs (E.ext AY) (TT.ext AY) Ks ω hk jm hs (SlO.ext oc.sl e5) aO) ?_;rintro _ h6 ⟨⟨b,rfl,hb⟩,e6⟩;cases b with
 |false=>
  refine gr ?_;rfl
 |true=>
 have iB:=hJ (hb rfl);have Sg:=BH.ext Ks e6;have FV:=BH.ext sL e6;have lU:=(E.ext (AY.trans e6)).hm;clear hb hJ hL;refine go ?_;refine VD (fun i=>K.length-i) (fun i t h7=>zC t 10=I i/\i<=K.length/\WH h6 h7) 0 ?_ ?_
 ·exact⟨WJ,QQ _,WH.refl _⟩
 rintro i t h7 ab ⟨jn,hi,e7⟩;have Kt:=BH.ext Sg e7;have Ku:=BH.ext FV e7;by_cases af:i<K.length
 ·obtain⟨u,Fu,⟨u1,u2,u3,rfl⟩,tJ,RT⟩:=Kt.get af;obtain⟨w,Fw,⟨w1,w2,w3,rfl⟩,Sh,hsw⟩:=Ku.get (i:=i) ω;have pc7:=(tJ _ (WH.refl _)).1;have hS:=zMQ h7 _ (K.getD i []) Fu.1 (by have:=Fu.2.1;omega);have az:L.getD i []∈L:=zH (l:=L) ω;have de:K.getD i []∈K:=zH (l:=K) af;by_cases hc:zv (-1) (K.getD i [])=true;case neg=>
   rw[show zBo (zv (-1) (K.getD i []))=8 by unfold zBo;rw[QC hc]]at hS;refine go ?_;refine VA hS ?_;rintro _ h8 ⟨rfl,e8⟩;refine gr ?_;rfl
  rw[show zBo (zv (-1) (K.getD i []))=0 by unfold zBo;rw[QJ hc]]at hS;refine go ?_;refine VA hS ?_;rintro _ h8 ⟨rfl,e8⟩;have Si:=(YE (jm _ de)).1 hc;have Hg:=(A.sets _ az).ok;have cR:=zTd Hg Si (by have:=iB i;unfold setL at this;rwa [QZ]at this);have hE:zEq (L.getD i []) (K.getD i [])=0:=by unfold zEq;rw[hc,(YE Hg.bd).2 Hg];rfl
  have Sj:=(tJ _ (e8.trans (zG 0 h8))).2;have Sk:=(Sh _ (e8.trans (zG 0 h8))).2;have sKY:BH 0 (inC (zB 0 h8)) (.slice l1 l2 l3) K:=by have:=BH.ext Kt (e8.trans (zG 0 h8));exact this
  have rU:BH X (inC (zB 0 h8)) (.slice a1 a2 a3) L:=by have:=BH.ext Ku (e8.trans (zG 0 h8));exact this
  have Kv:=Fu.ext (e8.trans (zG 0 h8));have Kw:=Fw.ext (e8.trans (zG 0 h8));have hM:=zJv (inC (zB 0 h8)) _ _ (L.getD i []) (K.getD i []) Kw.1 Kv.1 Kw.2.1 Kv.2.1 (QF _);rw[hE,cR]at hM;refine go ?_;refine VC 0 rfl rfl ?_;refine WU ?_;refine VA hM ?_;rintro _ X5 ⟨⟨v,rfl,m⟩,eX⟩;have sm:=m.sl;obtain⟨m1,m2,m3,rfl⟩:=zD sm;have R1:W8 (z9 h8 (inC X5)) (.slice m1 m2 m3) []:=sm;have hz:(([]:List Wa).length:Int)=0:=rfl;refine WO.nil (zDs eX za ?_);refine WU ?_;have eH:WH h8 (z9 h8 (inC X5)):=⟨eX.n,eX.get,fun w=>eX.wf w,rfl,fun _=>rfl⟩;refine go ?_;exact zA (i+1) ω ⟨Wy,ω,(e7.trans e8).trans eH⟩
 ·refine gr ?_;rfl
end
def zUk{n:Int}(h:(Lit.int .i64 n).wf=true): -9223372036854775808<=n/\n<=9223372036854775807:=by
 simp[Lit.wf,IntKind.wrap,IntKind.signed,IntKind.bits]at h;have h1:IntKind.min .i64= -9223372036854775808:=by decide
 have h2:IntKind.max .i64=9223372036854775807:=by decide
 omega
def zTw{n:Int}(h:(Lit.int .u64 n).wf=true):0<=n/\n<18446744073709551616:=by
 simp[Lit.wf,IntKind.wrap,IntKind.signed,IntKind.bits]at h;have h1:IntKind.min .u64=0:=by decide
 have h2:IntKind.max .u64=18446744073709551615:=by decide
 omega
def zSi{H:Type}{h:WA}(cs:List Value)(d:DataW H)(r:Rd Tryz.prog h 137 cs d)(hw:BS Tryz.prog 137 d):∃ a,RW h cs a:=by
 obtain⟨hl,hr⟩:=YL r Tryz.underlying137 hw;have hc:Tryz.prog.cellsOf 137=2:=by kernel_rfl
 rw[hc]at hl;obtain⟨x0,x1,rfl⟩:=zT6 hl;obtain⟨d0,r0,_⟩:=hr 0 _ rfl;have c0:Tryz.prog.cellsOf 3=1:=by kernel_rfl
 replace r0:Rd Tryz.prog h 3 (([x0,x1].drop 0).take (Tryz.prog.cellsOf 3)) d0:=r0;rw[c0]at r0;replace r0:Rd Tryz.prog h 3 [x0] d0:=r0;obtain⟨d1,r1,_⟩:=hr 1 _ rfl;have c1:Tryz.prog.cellsOf 135=1:=by kernel_rfl
 replace r1:Rd Tryz.prog h 135 (([x0,x1].drop 1).take (Tryz.prog.cellsOf 135)) d1:=r1;rw[c1]at r1;replace r1:Rd Tryz.prog h 135 [x1] d1:=r1;obtain⟨a,e0,f0⟩:=Z7 r0 Tryz.underlying3;cases e0;obtain⟨b,e1,f1⟩:=Z7 r1 Tryz.underlying135;cases e1;have g0:=zUk f0;have g1:=zTw f1;obtain⟨m,rfl⟩:∃ m:Nat,b=m:=⟨b.toNat,ω⟩;exact⟨⟨a,m⟩,rfl,by simp only;omega,g0.1,g0.2⟩
def zUG{H:Type}{h:WA}(cs:List Value)(d:DataW H)(r:Rd Tryz.prog h 50 cs d)(hw:BS Tryz.prog 50 d):∃ s,RSw h cs s:=by
 obtain⟨v,l,e,s,_⟩:=zBK (c:=2) r Tryz.underlying50 (by kernel_rfl) (by decide+kernel) hw zSi;exact⟨l,v,e,s⟩
end Go.Proofs.YtndffgfnndoifaaGreatDoor
