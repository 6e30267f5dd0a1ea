/- Walks of functions, plain laws; proves no statement. -/
import Derived.Test.YtndffgfnndoifaaGreatDoorJa
set_option linter.all false
set_option maxHeartbeats 4000000
set_option maxRecDepth 100000
namespace Go.Proofs.YtndffgfnndoifaaGreatDoor
open Go.Am
def zH{α:Type}[Inhabited α]{l:List α}{i:Nat}(h:i<l.length):l.getD i default∈l:=by
 simp[List.getD,QB h]
def Zi{α:Type}[Inhabited α]{l:List α}{x:α}(h:x∈l):∃ i,i<l.length/\l.getD i default=x:=by
 obtain⟨i,hi,e⟩:=G6 h;exact⟨i,hi,by simp[List.getD,QB hi,e]⟩
def zOr(h:WA)(v fv:Value)(l:List Wu)(p:Wu->Bool)(s:Bx h v l)(hl:(l.length:Int)<=9223372036854775807)(hf:∀ x∈l,∀ h1,WH h h1->∀ cs,Bn h1 cs x->WV Tryz.prog tb fv [.agg cs.toArray] h1 fun r h'=>r=.bool (p x)/\WH h1 h'):
  G0 217 [v,fv] h fun r h'=>(∃ n:Int,r=I n/\(decide (0<=n))=l.any p)/\WH h h':=by
 refine en ?_;refine VD (fun i=>l.length-i) (fun i t h1=>WH h h1/\zC t 8=I i/\i<=l.length/\∀ j,j<i->p (l.getD j default)=false) 0 ?_ ?_
 ·exact⟨WH.refl h,WJ,QQ _,fun j hj=>absurd hj (GJ _)⟩
 rintro i t h1 ab ⟨e1,s8,hi,hm⟩;have s1:=Bx.ext s e1;refine F0 ?_ ?_<;>intro hb
 ·have af:i<l.length:=ω
  obtain⟨cs,b9,pc,hs⟩:=yv s1 af;have lr:=hf _ (zH af) h1 e1 cs b9;obtain⟨va,vf,rfl,hR⟩:=b9;refine go ?_;refine VJ lr ?_;rintro _ h2 ⟨rfl,e2⟩;refine go ?_;refine VE (fun hb=> ?_) (fun hb=> ?_)
  ·refine gr ?_;refine⟨⟨i,rfl,?_⟩,e1.trans e2⟩;rw[JH.2 ⟨_,zH af,hb⟩];simp
  ·refine go ?_;refine zA (i+1) ω ⟨e1.trans e2,Wy,ω,fun j hj=> ?_⟩;by_cases e:j=i
   ·subst e;exact hb
   ·exact hm j ω
 ·refine gr ?_;refine⟨⟨-1,rfl,?_⟩,e1⟩;rw[zBI fun x hx=>by obtain⟨j,hj,rfl⟩:=Zi hx;exact hm j ω];rfl
def zPa(h:WA)(v fv:Value)(l:List Wu)(p:Wu->Bool)(s:Bx h v l)(hl:(l.length:Int)<=9223372036854775807)(hf:∀ x∈l,∀ h1,WH h h1->∀ cs,Bn h1 cs x->WV Tryz.prog tb fv [.agg cs.toArray] h1 fun r h'=>r=.bool (p x)/\WH h1 h'):
  G0 165 [v,fv] h fun r h'=>r=.bool (l.any p)/\WH h h':=by
 refine en ?_;refine VA (zOr h v fv l p s hl hf) ?_;rintro _ h1 ⟨⟨n,rfl,e⟩,e1⟩;refine gr ?_;exact⟨by rw[<-e];rfl,e1⟩
def zRO(h:WA)(v fv:Value)(l:List Wk)(p:Wk->Bool)(s:Bb h v l)(hl:(l.length:Int)<=9223372036854775807)(hf:∀ x∈l,∀ h1,WH h h1->∀ cs,SB h1 cs x->WV Tryz.prog tb fv [.agg cs.toArray] h1 fun r h'=>r=.bool (p x)/\WH h1 h'):
  G0 216 [v,fv] h fun r h'=>(∃ n:Int,r=I n/\(decide (0<=n))=l.any p)/\WH h h':=by
 refine en ?_;refine VD (fun i=>l.length-i) (fun i t h1=>WH h h1/\zC t 8=I i/\i<=l.length/\∀ j,j<i->p (l.getD j default)=false) 0 ?_ ?_
 ·exact⟨WH.refl h,WJ,QQ _,fun j hj=>absurd hj (GJ _)⟩
 rintro i t h1 ab ⟨e1,s8,hi,hm⟩;have s1:=Bb.ext s e1;refine F0 ?_ ?_<;>intro hb
 ·have af:i<l.length:=ω
  obtain⟨cs,b9,pc,hs⟩:=yv s1 af;have lr:=hf _ (zH af) h1 e1 cs b9;obtain⟨va,rfl,hR⟩:=b9;refine go ?_;refine VJ lr ?_;rintro _ h2 ⟨rfl,e2⟩;refine go ?_;refine VE (fun hb=> ?_) (fun hb=> ?_)
  ·refine gr ?_;refine⟨⟨i,rfl,?_⟩,e1.trans e2⟩;rw[JH.2 ⟨_,zH af,hb⟩];simp
  ·refine go ?_;refine zA (i+1) ω ⟨e1.trans e2,Wy,ω,fun j hj=> ?_⟩;by_cases e:j=i
   ·subst e;exact hb
   ·exact hm j ω
 ·refine gr ?_;refine⟨⟨-1,rfl,?_⟩,e1⟩;rw[zBI fun x hx=>by obtain⟨j,hj,rfl⟩:=Zi hx;exact hm j ω];rfl
def zO2(h:WA)(v fv:Value)(l:List Wk)(p:Wk->Bool)(s:Bb h v l)(hl:(l.length:Int)<=9223372036854775807)(hf:∀ x∈l,∀ h1,WH h h1->∀ cs,SB h1 cs x->WV Tryz.prog tb fv [.agg cs.toArray] h1 fun r h'=>r=.bool (p x)/\WH h1 h'):
  G0 163 [v,fv] h fun r h'=>r=.bool (l.any p)/\WH h h':=by
 refine en ?_;refine VA (zRO h v fv l p s hl hf) ?_;rintro _ h1 ⟨⟨n,rfl,e⟩,e1⟩;refine gr ?_;exact⟨by rw[<-e];rfl,e1⟩
def zSM(h:WA)(v fv:Value)(l:List We)(p:We->Bool)(s:BA h v l)(hl:(l.length:Int)<=9223372036854775807)(hf:∀ x∈l,∀ h1,WH h h1->∀ cs,RFn h1 cs x->WV Tryz.prog tb fv [.agg cs.toArray] h1 fun r h'=>r=.bool (p x)/\WH h1 h'):
  G0 160 [v,fv] h fun r h'=>(∃ n:Int,r=I n/\(decide (0<=n))=l.any p)/\WH h h':=by
 refine en ?_;refine VD (fun i=>l.length-i) (fun i t h1=>WH h h1/\zC t 8=I i/\i<=l.length/\∀ j,j<i->p (l.getD j default)=false) 0 ?_ ?_
 ·exact⟨WH.refl h,WJ,QQ _,fun j hj=>absurd hj (GJ _)⟩
 rintro i t h1 ab ⟨e1,s8,hi,hm⟩;have s1:=BA.ext s e1;refine F0 ?_ ?_<;>intro hb
 ·have af:i<l.length:=ω
  obtain⟨cs,b9,pc,hs⟩:=yv s1 af;have lr:=hf _ (zH af) h1 e1 cs b9;obtain⟨va,rfl,hR⟩:=b9;refine go ?_;refine VJ lr ?_;rintro _ h2 ⟨rfl,e2⟩;refine go ?_;refine VE (fun hb=> ?_) (fun hb=> ?_)
  ·refine gr ?_;refine⟨⟨i,rfl,?_⟩,e1.trans e2⟩;rw[JH.2 ⟨_,zH af,hb⟩];simp
  ·refine go ?_;refine zA (i+1) ω ⟨e1.trans e2,Wy,ω,fun j hj=> ?_⟩;by_cases e:j=i
   ·subst e;exact hb
   ·exact hm j ω
 ·refine gr ?_;refine⟨⟨-1,rfl,?_⟩,e1⟩;rw[zBI fun x hx=>by obtain⟨j,hj,rfl⟩:=Zi hx;exact hm j ω];rfl
def zRm(h:WA)(v fv:Value)(l:List We)(p:We->Bool)(s:BA h v l)(hl:(l.length:Int)<=9223372036854775807)(hf:∀ x∈l,∀ h1,WH h h1->∀ cs,RFn h1 cs x->WV Tryz.prog tb fv [.agg cs.toArray] h1 fun r h'=>r=.bool (p x)/\WH h1 h'):
  G0 109 [v,fv] h fun r h'=>r=.bool (l.any p)/\WH h h':=by
 refine en ?_;refine VA (zSM h v fv l p s hl hf) ?_;rintro _ h1 ⟨⟨n,rfl,e⟩,e1⟩;refine gr ?_;exact⟨by rw[<-e];rfl,e1⟩
abbrev szV(s:SP):List Value:=[I s.types,I s.funcs,I s.a7,I s.blocks]
def zTa(h h0:WA)(p:Value)(x:Wu)(s:SP)(cs:List Value)(T:SA h)(hR:Bn h cs x)(o:WB h0 h p (szV s)):
  G0 161 [.agg cs.toArray,p] h fun r h'=>r=.bool (!zDK x s)/\WH h h':=by
 obtain⟨va,vf,rfl,sa,sf,dP,mw,ho⟩:=hR;refine en ?_;refine VH ?_;intro p2 h1 e1 o1;have o:=o.ext e1;refine go ?_;refine VA (zUT h1 x va vf s (T.ext e1) (sa.ext e1) (sf.ext e1) ω ω ho) ?_;rintro _ h2 ⟨rfl,e2⟩;refine gr ?_;exact⟨rfl,e1.trans e2⟩
def zT3(h h0 jl:WA)(p1 p2:Value)(b:Wk)(s:SP)(cs:List Value)(T:SA h)(hR:SB h cs b)(o1:WB h0 h p1 [.func (.func 161) #[] #[p2]])(o2:WB jl h p2 (szV s)):
  G0 164 [.agg cs.toArray,p1,p2] h fun r h'=>r=.bool (zD4 b s)/\WH h h':=by
 obtain⟨vi,rfl,si,hl⟩:=hR;refine en ?_;refine VH ?_;intro p3 h1 e1 o3;have o1:=o1.ext e1;have o2:=o2.ext e1;have T1:=T.ext e1;refine go ?_;refine VA (zPa h1 vi _ b.ins (fun x=> !zDK x s) (Bx.ext si e1) ω ?_) ?_
 ·intro x hx h2 e2 cs b9;exact WV.func (zTa h2 jl p2 x s cs (T1.ext e2) b9 (o2.ext e2))
 rintro _ h2 ⟨rfl,e2⟩;have o3:=o3.ext e2;have o2:=o2.ext e2;refine go ?_;refine VI (fun hb=> ?_) (fun hb=> ?_)<;>refine go ?_
 ·refine rt ?_;exact⟨by simp only[zD4,hb,Qx];rfl,e1.trans e2⟩
 ·refine VA (zTh h2 b.fin s) ?_;rintro _ h3 ⟨rfl,e3⟩;refine gr ?_;exact⟨by simp only[zD4,hb,Qu];rfl,(e1.trans e2).trans e3⟩
def zEW(l:List Wk):0<=zL l:=by
 unfold zL;induction l with
 |nil=>simp
 |cons b l ih=>simp only[Qi,G8];omega
def zU0(h:WA)(vt vf vb:Value)(T:List WF)(F:List We)(f:We)(tt:SA h)(hm:h.mark<=h.n)(st:BB h vt T)(sf:BA h vf F)(sb:Bb h vb f.blocks)(hT:T.length<=100)(hp:∀ x∈T,x.parts.length<=100)(hF:(F.length:Int)<=9223372036854775807)(hB:f.blocks.length<=1000)(hI:∀ b∈f.blocks,b.ins.length<=1000):
  G0 111 [.agg #[vt,vf],.agg #[I f.sig,vb]] h fun r h'=>r=.bool (B8 T F.length f)/\WH h h':=by
 refine en ?_;refine VH ?_;intro p2 h1 e1 o1;refine VH ?_;intro p3 h2 e2 o2;have o1:=o1.ext e2;have aQ:=e1.trans e2;have cz:=st.ext aQ;have eV:=BA.ext sf aQ;have HU:=Bb.ext sb aQ;have Db:=tt.ext aQ;have bT:h2.mark<=h2.n:=by have:=aQ.mark;have:=aQ.n;omega
 have bM:zDM T f=zDM T f:=rfl;conv at bM=>rhs;unfold zDM
 refine go ?_;refine VA (ZN h2 f.sig T.length) ?_;rintro _ _ ⟨rfl,rfl⟩;refine go ?_;refine VI (fun hb=> ?_) (fun hb=> ?_)<;>simp only[DB]at hb<;>refine go ?_
 ·refine rt ?_;refine⟨?_,aQ⟩;rw[B8,QJ (show zDM T f=true by rw[bM,hb];rfl)];rfl
 have dV:0<=f.sig/\f.sig<(T.length:Int):=by
  unfold zp at hb;simpa using hb
 obtain⟨nO,⟨vp,rfl,sp,dZ⟩,fB,qj⟩:=ZX (i:=f.sig.toNat) cz ω;have C5:(T.getD f.sig.toNat default).parts.length<=100:=hp _ (zH ω);refine go ?_;refine VI (fun hc=> ?_) (fun hc=> ?_)<;>simp only[DB]at hc<;>refine go ?_
 ·refine rt ?_;refine⟨?_,aQ⟩;rw[B8,QJ (show zDM T f=true by rw[bM,hb,QY hc];rfl)];rfl
 refine VA (ZN h2 ((f.blocks.length:Int)-1) 16) ?_;rintro _ _ ⟨rfl,rfl⟩;refine go ?_;refine VI (fun hd=> ?_) (fun hd=> ?_)<;>simp only[DB]at hd<;>refine go ?_
 ·refine rt ?_;refine⟨?_,aQ⟩;rw[B8,QJ (show zDM T f=true by rw[bM,hb,Qa hc,hd];rfl)];rfl
 refine VA (zIL h2 f.sig vb f.blocks HU hB hI) ?_;rintro _ h3 ⟨rfl,e3⟩;have df:=aQ.trans e3;have o1:=o1.ext e3;have o2:=o2.ext e3;have mr:=cz.ext e3;have nP:=BA.ext eV e3;have qm:=Bb.ext HU e3;have L5:=Db.ext e3;have uG:h3.mark<=h3.n:=by have:=e3.mark;have:=e3.n;omega
 refine F0 ?_ ?_<;>intro he<;>refine go ?_
 ·refine rt ?_;refine⟨?_,df⟩;rw[B8,QJ (show zDM T f=true by rw[bM,hb,Qa hc,hd,Qa he];rfl)];rfl
 refine goC ?_;have uI:zDM T f=false:=by rw[bM,hb,Qa hc,hd,QY ω];rfl
 obtain⟨a',n',k',rfl⟩:=zD mr;clear bM hb hd fB;refine VC 1 rfl rfl ?_;have e4:=zG 1 h3;generalize lu:zB 1 h3=h4 at *;have Ta:h4.n=h3.n+1:=by rw[<-lu];rfl
 have L6:WB h (inC h4) p2 [.slice a' n' k',vf]:=by have:=o1.ext e4;exact this
 have L7:WB h1 (inC h4) p3 [I f.sig,vb]:=by have:=o2.ext e4;exact this
 have str:BB (inC h4) (.slice a' n' k') T:=by have:=mr.ext e4;exact this
 have Dc:BA (inC h4) vf F:=by have:=BA.ext nP e4;exact this
 have HV:Bb (inC h4) vb f.blocks:=by have:=Bb.ext qm e4;exact this
 obtain⟨Tb,⟨Tc,rfl,HW,L8⟩,Td,iG⟩:=ZX (i:=f.sig.toNat) str ω;refine WU ?_;refine VA (zIL (inC h4) f.sig vb f.blocks HV hB hI) ?_;rintro _ h5 ⟨rfl,e5⟩;refine WO.nil ?_;refine zDs e5 rfl ?_;have Te:WB h (inC h5) p2 [.slice a' n' k',vf]:=by have:=L6.ext e5;exact this
 have Tf:WB h1 (inC h5) p3 [I f.sig,vb]:=by have:=L7.ext e5;exact this
 have Tg:Bb (inC h5) vb f.blocks:=by have:=Bb.ext HV e5;exact this
 have Th:=zEW f.blocks;refine WU ?_;refine zRb o2 ω ?_;refine WU ?_;have L9:h3.n<h5.n:=by have:h4.n<=h5.n:=e5.n;omega
 refine XN uG L9 ?_;rw[<-lu]at e5;have e6:=zI7 (o:= .row [I 0,I 0,I 0,I 0] true 0) (o':= .row [I (T.length:Int),I (F.length:Int),I (((T.getD f.sig.toNat default).parts.length:Int)+zL f.blocks),I (f.blocks.length:Int)] true 0) (k:=0) e5;have o5:=zJs (cs:=[I (T.length:Int),I (F.length:Int),I (((T.getD f.sig.toNat default).parts.length:Int)+zL f.blocks),I (f.blocks.length:Int)]) (o:= .row [I 0,I 0,I 0,I 0] true 0) e5;unfold SJ;refine(?_:∀ h6,WH h3 h6->WB h3 h6 (.pointer (some ⟨h3.n,0,none⟩)) (szV (szL T F.length f))->zGR _ _ _ _ _ _ h6) _ e6 o5;clear e6 o5;intro h6 e6 o5;generalize Value.pointer (some ⟨h3.n,0,none⟩)=p5 at *;have o2:=o2.ext e6;have Ma:=Bb.ext qm e6;have Mb:=L5.ext e6;have dD:=df.trans e6;refine go ?_;refine WO.al ?_;intro p6 h7 e7 o6;refine VG o6 e7 ?_;intro h8 e8 o6 _;have o2:=o2.ext e8;have o5:=o5.ext e8;have Mc:=Bb.ext Ma e8;have Me:=Mb.ext e8;refine go ?_;refine VA (zO2 h8 vb _ f.blocks (fun b=>zD4 b (szL T F.length f)) Mc ω ?_) ?_
 ·intro b hb h9 e9 cs b9;exact WV.func (zT3 h9 h6 h3 p6 p5 b (szL T F.length f) cs (Me.ext e9) b9 (o6.ext e9) (o5.ext e9))
 rintro _ h9 ⟨rfl,e9⟩;refine gr ?_;exact⟨by rw[B8,QC (by rw[uI];exact Bool.noConfusion)];rfl,(dD.trans e8).trans e9⟩
def yV{h h':WA}(e:WH h h')(hm:h.mark<=h.n):h'.mark<=h'.n:=by have:=e.mark;have:=e.n;omega
def zRg(h h0:WA)(p vt vf:Value)(T:List WF)(F:List We)(f:We)(cs:List Value)(tt:SA h)(hm:h.mark<=h.n)(sm:Bd T F)(hf:f∈F)(st:BB h vt T)(sf:BA h vf F)(hR:RFn h cs f)(o:WB h0 h p [vt,vf]):
  G0 110 [.agg cs.toArray,p] h fun r h'=>r=.bool (!B8 T F.length f)/\WH h h':=by
 obtain⟨vb,rfl,sb,hl⟩:=hR;refine en ?_;refine VH ?_;intro p2 h1 e1 o1;have o:=o.ext e1;refine go ?_;refine VA (zU0 h1 vt vf vb T F f (tt.ext e1) (yV e1 hm) (st.ext e1) (BA.ext sf e1) (Bb.ext sb e1) sm.types sm.parts (by have:=sm.funcs;omega) (sm.blocks f hf) (sm.ins f hf)) ?_;rintro _ h2 ⟨rfl,e2⟩;refine gr ?_;exact⟨rfl,e1.trans e2⟩
def zNA(h:WA)(vt vf:Value)(T:List WF)(F:List We)(tt:SA h)(hm:h.mark<=h.n)(sm:Bd T F)(st:BB h vt T)(sf:BA h vf F):
  G0 51 [.agg #[vt,vf]] h fun r h'=>r=I (Yl T F)/\WH h h':=by
 refine en ?_;refine VH ?_;intro p h1 e1 o1;have bZ:=st.ext e1;refine go ?_;refine VA (zKF h1 vt T bZ sm.types sm.parts) ?_;rintro _ h2 ⟨rfl,e2⟩;have aQ:=e1.trans e2;have o1:=o1.ext e2;have cz:=bZ.ext e2;have eV:=BA.ext sf aQ;have Db:=tt.ext aQ;have hF:=sm.funcs;refine F0 ?_ ?_<;>intro hb<;>refine go ?_
 ·refine rt ?_;exact⟨by rw[Yl,QJ hb];rfl,aQ⟩
 refine VA (ZN h2 ((F.length:Int)-1) 8) ?_;rintro _ _ ⟨rfl,rfl⟩;refine go ?_;refine VI (fun hc=> ?_) (fun hc=> ?_)<;>simp only[DB]at hc<;>refine go ?_
 ·refine rt ?_;exact⟨by rw[Yl,QC ω,hc];simp[one],aQ⟩
 refine VA (zRm h2 vf _ F (fun f=> !B8 T F.length f) eV ω ?_) ?_
 ·intro f hf h3 e3 cs b9;exact WV.func (zRg h3 h p vt vf T F f cs (Db.ext e3) (yV (aQ.trans e3) hm) sm hf (cz.ext e3) (BA.ext eV e3) b9 (o1.ext e3))
 rintro _ h3 ⟨rfl,e3⟩;refine go ?_;refine VE (fun hd=> ?_) (fun hd=> ?_)<;>refine go ?_<;>refine rt ?_<;>refine⟨?_,aQ.trans e3⟩<;>rw[Yl,QC ω,hc,hd]
 ·simp[one]
 ·simp[one]
def yg{T:List WF}{F:List We}(h:Yl T F=0):y8 T=0/\1<=F.length/\F.length<=8/\∀ f∈F,B8 T F.length f=true:=by
 unfold Yl at h;split at h
 ·rename_i hc;exact absurd h hc
 ·rename_i hc;split at h
  ·cases h
  ·rename_i hd;simp only[GM,not_or,JY,Bool.not_eq_false']at hd;have h1:zp ((F.length:Int)-1) 8=true:=by simpa using hd.1
   unfold zp at h1;simp only[QI,Qc]at h1;refine⟨ω,ω,ω,fun f hf=> ?_⟩;have:=G4.1 hd.2 f hf;simpa using this
def zIb{T:List WF}{n:Int}{f:We}(h:B8 T n f=true):0<=f.sig/\f.sig<(T.length:Int):=by
 unfold B8 at h;split at h
 ·cases h
 ·rename_i hb;unfold zDM at hb;simp only[GM,not_or,JY,Bool.not_eq_false']at hb;have h1:zp f.sig T.length=true:=by simpa using hb.1.1.1
  unfold zp at h1;simpa using h1
def zPS(h:WA)(vt vf:Value)(T:List WF)(F:List We)(f:Int)(tt:SA h)(hm:h.mark<=h.n)(sm:Bd T F)(st:BB h vt T)(sf:BA h vf F):
  G0 116 [.agg #[vt,vf],I f] h fun r h'=>r=.tuple #[I (ZW T F f).1,I (ZW T F f).2]/\WH h h':=by
 refine en ?_;refine VH ?_;intro p h1 e1 o1;refine go ?_;refine VA (zNA h1 vt vf T F (tt.ext e1) (yV e1 hm) sm (st.ext e1) (BA.ext sf e1)) ?_;rintro _ h2 ⟨rfl,e2⟩;have aQ:=e1.trans e2;have o1:=o1.ext e2;have cz:=st.ext aQ;have eV:=BA.ext sf aQ;have hF:=sm.funcs;refine F0 ?_ ?_<;>intro hb<;>refine go ?_
 ·refine rt ?_;exact⟨by rw[ZW,QJ hb];rfl,aQ⟩
 have hb:Yl T F=0:=ω
 refine VA (ZN h2 f F.length) ?_;rintro _ _ ⟨rfl,rfl⟩;refine F0 ?_ ?_<;>intro hc<;>refine go ?_
 ·refine rt ?_;exact⟨by rw[ZW,QC ω,hc,QC (by exact Bool.noConfusion)];rfl,aQ⟩
 have hf:0<=f/\f<(F.length:Int):=by unfold zp at hc;simpa using hc
 obtain⟨lx,⟨vb,rfl,sb,fC⟩,fS,jW⟩:=yv (i:=f.toNat) eV ω;have dV:=zIb ((yg hb).2.2.2 _ (zH (l:=F) (i:=f.toNat) ω));obtain⟨nO,⟨vp,rfl,sp,dZ⟩,fB,qj⟩:=ZX (i:=(F.getD f.toNat default).sig.toNat) cz ω;refine gr ?_;exact⟨by rw[ZW,QC ω,hc,QJ rfl];rfl,aQ⟩
def zIu(h:WA)(vt vf:Value)(T:List WF)(F:List We)(f:Int)(tt:SA h)(hm:h.mark<=h.n)(sm:Bd T F)(st:BB h vt T)(sf:BA h vf F):
  G0 56 [.agg #[vt,vf],I f] h fun r h'=>r=.tuple #[I (zAc T F f).1,I (zAc T F f).2]/\WH h h':=by
 refine en ?_;refine VH ?_;intro p h1 e1 o1;refine go ?_;refine VA (zPS h1 vt vf T F f (tt.ext e1) (yV e1 hm) sm (st.ext e1) (BA.ext sf e1)) ?_;rintro _ h2 ⟨rfl,e2⟩;have aQ:=e1.trans e2;have o1:=o1.ext e2;have eV:=BA.ext sf aQ;have hF:=sm.funcs;refine F0 ?_ ?_<;>intro hb<;>refine go ?_
 ·refine rt ?_;exact⟨by rw[zAc,QJ hb];rfl,aQ⟩
 have aI:(ZW T F f).2=0:=ω
 have aq:0<=f/\f<(F.length:Int)/\Yl T F=0:=by
  unfold ZW at aI;split at aI
  ·rename_i hp;exact absurd aI hp
  ·rename_i hp;split at aI
   ·rename_i hc;unfold zp at hc;simp at hc;exact⟨hc.1,hc.2,ω⟩
   ·cases aI
 obtain⟨lx,⟨vb,rfl,sb,fC⟩,fS,jW⟩:=yv (i:=f.toNat) eV ω;have az:=zH (l:=F) (i:=f.toNat) ω;refine go ?_;refine VA (zIL h2 _ vb _ sb (sm.blocks _ az) (sm.ins _ az)) ?_;rintro _ h3 ⟨rfl,e3⟩;have hfn:=(yg aq.2.2).2.2.2 _ az;have jm:zL (F.getD f.toNat default).blocks<=128:=by
  unfold B8 at hfn;split at hfn
  ·cases hfn
  ·rename_i bM;unfold zDM at bM;simp only[GM,not_or,JY,Gz]at bM;omega
 have bN:=zEW (F.getD f.toNat default).blocks;have hn:0<=(ZW T F f).1/\(ZW T F f).1<=100:=by
  unfold ZW;split
  ·simp
  ·split
   ·have hs:=zIb hfn;have:=sm.parts _ (zH (l:=T) (i:=(F.getD f.toNat default).sig.toNat) ω);simp only;omega
   ·simp
 refine gr ?_;exact⟨by rw[zAc,QC ω];rfl,aQ.trans e3⟩
def zN2(h:WA)(vt:Value)(T:List WF)(st:BB h vt T)(hT:(T.length:Int)<=9223372036854775807):
  G0 27 [vt] h fun r h'=>(r=.bool true\/r=.bool false/\T.length<=20/\∀ x∈T,x.parts.length<=20)/\h=h':=by
 refine en ?_;refine VD (fun i=>T.length-i) (fun i t h1=>h=h1/\zC t 3=I i/\i<=T.length/\∀ j,j<i->(T.getD j default).parts.length<=20) 0 ?_ ?_
 ·exact⟨rfl,WJ,QQ _,fun j hj=>absurd hj (GJ _)⟩
 rintro i t _ ab ⟨rfl,s3,hi,hm⟩;have fin:(20<(T.length:Int))\/(i=T.length/\T.length<=20)\/i<T.length:=ω
 refine go ?_;refine VI (fun hb=> ?_) (fun hb=> ?_)<;>simp only[DB]at hb<;>refine go ?_
 ·obtain⟨cs,⟨va,rfl,sa,dP⟩,pc,hs⟩:=ZX st (show i<T.length by omega);refine VE (fun hc=> ?_) (fun hc=> ?_)<;>simp only[DB]at hc
  ·refine F0 ?_ ?_<;>intro hd
   ·refine gr ?_;exact⟨.inl rfl,rfl⟩
   ·refine go ?_;refine zA (i+1) ω ⟨rfl,Wy,ω,fun j hj=> ?_⟩;by_cases e:j=i
    ·subst e;omega
    ·exact hm j ω
  ·refine gr ?_;refine⟨.inl ?_,rfl⟩;rw[Qa (show(20:Int)<T.length by omega)];rfl
 ·refine rt ?_;refine⟨?_,rfl⟩;by_cases hg:20<(T.length:Int)
  ·left;rw[Qa hg];rfl
  ·right;refine⟨by rw[QY hg];rfl,ω,fun x hx=> ?_⟩;obtain⟨j,hj,rfl⟩:=Zi hx;exact hm j ω
def zTb(F:List We):Prop:=∀ f∈F,∀ b∈f.blocks,∀ x∈b.ins,x.args.length<=20/\x.frm.length<=20
def zPM{T:List WF}{F:List We}(h1:T.length<=20)(h2:∀ x∈T,x.parts.length<=20)(h3:F.length<=10)(h4:∀ f∈F,f.blocks.length<=20/\∀ b∈f.blocks,b.ins.length<=1000):Bd T F:=
 ⟨ω,fun x hx=>by have:=h2 x hx;omega,ω,fun f hf=>by have:=(h4 f hf).1;omega,fun f hf=>(h4 f hf).2⟩
def zNq(h:WA)(vt vf:Value)(T:List WF)(F:List We)(jX:Int)(HX:0<=jX/\jX<=1000)(st:BB h vt T)(sf:BA h vf F)(hT:(T.length:Int)<=9223372036854775807)(hF:(F.length:Int)<=9223372036854775807):
  G0 8 [.agg #[vt,vf],I jX] h fun r h'=>(r=.bool true\/r=.bool false/\Bd T F/\zTb F)/\WH h h':=by
 refine en ?_;refine VH ?_;intro p h1 e1 o1;have bZ:=st.ext e1;have xP:=BA.ext sf e1;refine go ?_;refine VA (zN2 h1 vt T bZ hT) ?_;rintro r _ ⟨hr,rfl⟩;refine go ?_;rcases hr with rfl|⟨rfl,Mf,bO⟩
 ·refine gr ?_;exact⟨.inl rfl,e1⟩
 refine F0 ?_ ?_<;>intro hb<;>refine go ?_
 ·refine rt ?_;exact⟨.inl rfl,e1⟩
 refine VD (fun i=>F.length-i) (fun i t h2=>h1=h2/\zC t 6=I i/\i<=F.length/\(∃ n,zC t 5=I n/\0<=n/\n<=jX)/\∀ j,j<i->(F.getD j default).blocks.length<=20/\∀ b∈(F.getD j default).blocks,b.ins.length<=1000/\∀ x∈b.ins,x.args.length<=20/\x.frm.length<=20) 0 ?_ ?_
 ·exact⟨rfl,WJ,QQ _,⟨0,WJ,ω,ω⟩,fun j hj=>absurd hj (GJ _)⟩
 rintro i t _ ab ⟨rfl,s6,hi,⟨n,s5,kM,hn⟩,hm⟩;refine F0 ?_ ?_<;>intro hc
 ·have af:i<F.length:=ω
  obtain⟨lx,⟨vb,rfl,sb,fC⟩,fS,jW⟩:=yv xP af;refine F0 ?_ ?_<;>intro hd<;>refine go ?_
  ·refine rt ?_;exact⟨.inl rfl,e1⟩
  refine VD (fun k=>(F.getD i default).blocks.length-k) (fun k t h2=>h1=h2/\zC t 7=I k/\k<=(F.getD i default).blocks.length/\(∃ n,zC t 5=I n/\0<=n/\n<=jX)/\∀ j,j<k->((F.getD i default).blocks.getD j default).ins.length<=1000/\∀ x∈((F.getD i default).blocks.getD j default).ins,x.args.length<=20/\x.frm.length<=20) 0 ?_ ?_
  ·exact⟨rfl,WJ,QQ _,⟨n,WJ,kM,hn⟩,fun j hj=>absurd hj (GJ _)⟩
  rintro k t2 _ br ⟨rfl,s7,hk,⟨n2,Ti,Dd,iJ⟩,bT⟩;refine F0 ?_ ?_<;>intro he
  ·have cF:k<(F.getD i default).blocks.length:=ω
   obtain⟨xQ,⟨vi,rfl,si,qo⟩,su,uJ⟩:=yv sb cF;refine F0 ?_ ?_<;>intro hf<;>refine go ?_
   ·refine rt ?_;exact⟨.inl rfl,e1⟩
   refine VD (fun j=>((F.getD i default).blocks.getD k default).ins.length-j) (fun j t h2=>h1=h2/\zC t 9=I j/\j<=((F.getD i default).blocks.getD k default).ins.length/\∀ q,q<j->(((F.getD i default).blocks.getD k default).ins.getD q default).args.length<=20/\(((F.getD i default).blocks.getD k default).ins.getD q default).frm.length<=20) 0 ?_ ?_
   ·exact⟨rfl,WJ,QQ _,fun q hq=>absurd hq (GJ _)⟩
   rintro j t3 _ dw ⟨rfl,s9,hj,HY⟩;refine F0 ?_ ?_<;>intro hg
   ·have dY:j<((F.getD i default).blocks.getD k default).ins.length:=ω
    obtain⟨Tj,⟨va,Mg,rfl,sa,Dc,dP,mw,ho⟩,Tk,my⟩:=yv si dY;refine go ?_;refine VI (fun hh=> ?_) (fun hh=> ?_)<;>simp only[DB]at hh<;>refine go ?_
    ·refine rt ?_;exact⟨.inl rfl,e1⟩
    refine VE (fun fU=> ?_) (fun fU=> ?_)<;>simp only[DB]at fU<;>refine go ?_
    ·refine rt ?_;exact⟨.inl rfl,e1⟩
    ·refine zA (j+1) ω ⟨rfl,Wy,ω,fun q hq=> ?_⟩;by_cases e:q=j
     ·subst e;omega
     ·exact HY q ω
   ·refine go ?_;refine zA (k+1) ω ⟨rfl,Wy,ω,⟨n2+(((F.getD i default).blocks.getD k default).ins.length:Int),WJ,ω,ω⟩,fun q hq=> ?_⟩;by_cases e:q=k
    ·subst e;refine⟨ω,fun x hx=> ?_⟩;obtain⟨y,hy,rfl⟩:=Zi hx;exact HY y ω
    ·exact bT q ω
  ·refine go ?_;refine zA (i+1) ω ⟨rfl,Wy,ω,⟨n2,WJ,Dd,iJ⟩,fun q hq=> ?_⟩;by_cases e:q=i
   ·subst e;refine⟨ω,fun b hb=> ?_⟩;obtain⟨y,hy,rfl⟩:=Zi hb;exact bT y ω
   ·exact hm q ω
 ·refine gr ?_;have aP:∀ f∈F,f.blocks.length<=20/\∀ b∈f.blocks,b.ins.length<=1000/\∀ x∈b.ins,x.args.length<=20/\x.frm.length<=20:=fun f hf=>by
   obtain⟨y,hy,rfl⟩:=Zi hf;exact hm y ω
  exact⟨.inr ⟨rfl,zPM Mf bO ω fun f hf=>⟨(aP f hf).1,fun b hb=>((aP f hf).2 b hb).1⟩,fun f hf b hb=>((aP f hf).2 b hb).2⟩,e1⟩
def Y7(x:SK):List Int:=if x.kind=1 then[x.to]else if x.kind=2 then(if x.to=x.aK then[x.to]else[x.to,x.aK])else[]
def SC(h:WA)(v:Value):Prop:=∀ a n c,v=.slice (some a) n c->h.n<=a.block
def SC.since{h h':WA}{v:Value}(f:SC h' v)(n:h.n<=h'.n):SC h v:=fun a k c e=>QM n (f a k c e)
def zHj{h0 h:WA}{v:Value}{l:List Int}(o:Wq h0 h v l):SC h0 v:=by
 obtain⟨g,a,_,rfl,_⟩:=o;intro a n c e;cases e;assumption
def zLO(h0 h:WA)(v:Value)(a b:Int)(e0:WH h0 h)(o:Wq h0 h v [a,b]):
  G0 312 [v] h fun r h'=>Wc h' r (if a=b then[a]else[a,b])/\SC h0 r/\WH h0 h':=by
 have s:Wc h v [a,b]:=o.sl;have fr:=zHj o;refine en ?_;refine VE (fun hb=> ?_) (fun hb=> ?_)<;>simp only[DB]at hb
 ·exact absurd hb (by simp)
 refine go ?_;refine VD (fun i=>2-i) (fun i t h1=>h=h1/\zC t 3=I i/\(i=1\/i=2/\a≠b)) 1 ?_ ?_
 ·exact⟨rfl,WJ,.inl rfl⟩
 rintro i t _ ab ⟨rfl,s3,hi⟩;have hlen:([a,b]:List Int).length=2:=rfl;refine F0 ?_ ?_<;>intro hc
 ·have nR:i=1:=by rw[hlen]at hc;omega
  subst nR;refine F0 ?_ ?_<;>intro hd
  ·have dJ:a=b:=by simpa [List.getD]using hd.symm
   subst dJ;obtain⟨g,g1,g2,rfl,g3⟩:=o;refine go ?_;refine VT (i:=1) (v:= .slice (some ⟨g,0,none⟩) [a,a].length 1) (r:= .slice (some ⟨g,1,none⟩) 1 1) (by rfl) ?_;have s4:Wc h (.slice (some ⟨g,1,none⟩) 1 1) [a]:=⟨rfl,.inr ⟨g,1,_,rfl,Z1 g3,by rfl,g2⟩⟩;refine go ?_;refine VD (fun i=>1) (fun(i:Unit) t h1=>h=h1/\zC t 5=I 1/\zC t 3=I ((1:Nat):Int)) () ?_ ?_
   ·exact⟨rfl,WJ,WJ⟩
   rintro _ t2 _ br ⟨rfl,s5,Tl⟩;have HZ:([a]:List Int).length=1:=rfl;refine go ?_;refine VT (i:=1) (v:= .slice (some ⟨g,0,none⟩) [a,a].length 1) (r:= .slice (some ⟨g,1,none⟩) 1 1) (by rfl) ?_;have aO:zCP 1 [I 0] (.slice (some ⟨g,1,none⟩) 1 1) h=some (.tuple #[],h.set g (.row [I a,I 0] true 0)):=by
    show((zk h ⟨g,1,none⟩ [I 0]).map (Value.tuple #[],·))=_;have:zk h ⟨g,1,none⟩ [I 0]=some (h.set g (.row [I a,I 0] true 0)):=by
     unfold zk;rw[g3];rfl
    rw[this];rfl
   refine Uj aO ?_;have e1:WH h0 (h.set g (.row [I a,I 0] true 0)):=e0.set g1 g2 _;refine go ?_;refine V7 (i:=1) (v:= .slice (some ⟨g,0,none⟩) [a,a].length 1) (r:= .slice (some ⟨g,0,none⟩) 1 1) (by rfl) ?_;refine gr ?_;refine⟨?_,(fun a k c e=>by cases e;exact g1),e1⟩;rw[QJ rfl];exact⟨rfl,.inr ⟨g,0,[I a,I 0],rfl,by unfold z0;rw[zn,QJ rfl],by rfl,g2⟩⟩
  ·have dJ:a≠b:=fun e=>hd (by simp[List.getD,e]);refine go ?_;exact zA 2 ω ⟨rfl,WJ,.inr ⟨rfl,dJ⟩⟩
 ·refine gr ?_
  have:a≠b:=by rcases hi with rfl|⟨_,h⟩;. exact absurd hc (by simp)
               ·exact h
  exact⟨by rw[QC this];exact s,fr,e0⟩
def zMd(h:WA)(x:SK):
  G0 297 [.agg #[.int .u8 x.kind,I x.a,I x.to,I x.aK]] h fun r h'=>Wc h' r (Y7 x)/\SC h r/\WH h h':=by
 refine en ?_;refine VH ?_;intro p h1 e1 o1;refine F0 ?_ ?_<;>intro hb<;>refine go ?_
 ·refine WO.bl [x.to] ?_;intro v h2 e2 o2;refine gr ?_;refine⟨?_,(zHj o2).since e1.n,e1.trans e2⟩;rw[Y7,QJ hb];exact o2.sl
 refine VE (fun hc=> ?_) (fun hc=> ?_)<;>simp only[DB]at hc<;>refine go ?_
 ·refine WO.bl [x.to,x.aK] ?_;intro v h2 e2 o2;refine go ?_;refine VA (zLO h1 h2 v x.to x.aK e2 o2) ?_;rintro r h3 ⟨s3,f3,e3⟩;refine gr ?_;refine⟨?_,f3.since e1.n,e1.trans e3⟩;rw[Y7,QC hb,QJ hc];exact s3
 ·refine rt ?_;refine⟨?_,(fun a k c e=>by cases e),e1⟩;rw[Y7,QC hb,QC hc];exact Wc.nil _
def zF(T:List WF)(F:List We)(f b:Int):List Wk×Int:=
 if(zAc T F f).2≠0 then([],(zAc T F f).2)else if b<0\/((F.getD f.toNat default).blocks.length:Int)<=b then([],2)else((F.getD f.toNat default).blocks,0)
def zCT{T:List WF}{F:List We}{f:Int}(h:(zAc T F f).2=0):0<=f/\f<(F.length:Int)/\Yl T F=0:=by
 have aI:(ZW T F f).2=0:=by
  unfold zAc at h;split at h
  ·rename_i hn;exact absurd h hn
  ·rename_i hn;omega
 unfold ZW at aI;split at aI
 ·rename_i hp;exact absurd aI hp
 ·rename_i hp;split at aI
  ·rename_i hc;unfold zp at hc;simp at hc;exact⟨hc.1,hc.2,ω⟩
  ·cases aI
def zET(h:WA)(vt vf:Value)(T:List WF)(F:List We)(f b:Int)(tt:SA h)(hm:h.mark<=h.n)(sm:Bd T F)(st:BB h vt T)(sf:BA h vf F):
  G0 269 [.agg #[vt,vf],I f,I b] h fun r h'=>(∃ v,r=.tuple #[v,I (zF T F f b).2]/\Bb h' v (zF T F f b).1)/\WH h h':=by
 refine en ?_;refine VH ?_;intro p h1 e1 o1;refine go ?_;refine VA (zIu h1 vt vf T F f (tt.ext e1) (yV e1 hm) sm (st.ext e1) (BA.ext sf e1)) ?_;rintro _ h2 ⟨rfl,e2⟩;have aQ:=e1.trans e2;have o1:=o1.ext e2;have eV:=BA.ext sf aQ;have hF:=sm.funcs;refine F0 ?_ ?_<;>intro hb<;>refine go ?_
 ·refine rt ?_;rw[show zF T F f b=([],(zAc T F f).2)from by rw[zF,QJ hb]];exact⟨⟨_,rfl,W7.nil⟩,aQ⟩
 have aW:(zAc T F f).2=0:=ω
 have aq:=zCT aW;obtain⟨lx,⟨vb,rfl,sb,fC⟩,fS,jW⟩:=yv (i:=f.toNat) eV ω;refine VI (fun hc=> ?_) (fun hc=> ?_)<;>simp only[DB]at hc<;>refine go ?_
 ·refine rt ?_;rw[show zF T F f b=([],2)from by rw[zF,QC ω,QJ (.inl hc)]];exact⟨⟨_,rfl,W7.nil⟩,aQ⟩
 refine VE (fun hd=> ?_) (fun hd=> ?_)<;>simp only[DB]at hd<;>refine go ?_<;>refine rt ?_
 ·rw[show zF T F f b=([],2)from by rw[zF,QC ω,QJ (.inr hd)]];exact⟨⟨_,rfl,W7.nil⟩,aQ⟩
 ·rw[show zF T F f b=((F.getD f.toNat default).blocks,0)from by rw[zF,QC ω,QC ω]];exact⟨⟨_,rfl,sb⟩,aQ⟩
def Zh{T:List WF}{F:List We}{f b:Int}(h:(zF T F f b).2=0):0<=b/\b<((zF T F f b).1.length:Int)/\(zF T F f b).1=(F.getD f.toNat default).blocks/\(zAc T F f).2=0:=by
 unfold zF at h |-;split at h
 ·rename_i hn;exact absurd h hn
 ·rename_i hn;rw[QC hn];split at h
  ·cases h
  ·rename_i hb;rw[QC hb];exact⟨ω,by simp only;omega,rfl,ω⟩
def zT9{l:List Int}{n:Int}{i:Nat}(h:i<l.length)(e:l.getD i 0=n):n∈l:=e▸zd h
def zLv{l:List Int}{n:Int}(h:∀ i,i<l.length->l.getD i 0≠n):n∉l:=fun hn=>by
 obtain⟨i,hi,e⟩:=zB8 hn;exact h i hi e
def zP0(h:WA)(v:Value)(l:List Int)(n:Int)(s:Wc h v l)(hl:(l.length:Int)<=9223372036854775807):
  G0 298 [v,I n] h fun r h'=>(∃ k:Int,r=I k/\decide (0<=k)=decide (n∈l))/\h=h':=by
 refine en ?_;refine VD (fun i=>l.length-i) (fun i t h1=>h=h1/\zC t 8=I i/\i<=l.length/\∀ j,j<i->l.getD j 0≠n) 0 ?_ ?_
 ·exact⟨rfl,WJ,QQ _,fun j hj=>absurd hj (GJ _)⟩
 rintro i t _ ab ⟨rfl,s8,hi,hm⟩;refine F0 ?_ ?_<;>intro hb
 ·have af:i<l.length:=ω
  refine F0 ?_ ?_<;>intro hc<;>refine go ?_
  ·refine rt ?_;exact⟨⟨i,rfl,by rw[Qa (zT9 af hc.symm)];simp⟩,rfl⟩
  ·refine zA (i+1) ω ⟨rfl,Wy,ω,fun j hj=> ?_⟩;by_cases e:j=i
   ·subst e;exact fun h=>hc h.symm
   ·exact hm j ω
 ·refine gr ?_;exact⟨⟨-1,rfl,by rw[QY (zLv fun j hj=>hm j ω)];rfl⟩,rfl⟩
def zA3(h:WA)(v:Value)(l:List Int)(n:Int)(s:Wc h v l)(hl:(l.length:Int)<=9223372036854775807):
  G0 276 [v,I n] h fun r h'=>r=.bool (decide (n∈l))/\h=h':=by
 refine en ?_;refine VA (zP0 h v l n s hl) ?_;rintro _ _ ⟨⟨k,rfl,e⟩,rfl⟩;refine gr ?_;exact⟨by rw[<-e];rfl,rfl⟩
abbrev DS:=List (Int×Int)×List Int
def ZO(nx:Int->List Int):Nat->Int->DS->DS
 |0,_,s=>s
 |n+1,b,s=>if(s.1.lookup b).isSome then s else
  (((nx b).foldl (fun(t:DS) (c:Int)=>ZO nx n c t) (s.1++[(b,(s.1.length:Int))],s.2)).1,((nx b).foldl (fun(t:DS) (c:Int)=>ZO nx n c t) (s.1++[(b,(s.1.length:Int))],s.2)).2++[b])
def YI(nx:Int->List Int)(n:Nat)(l:List Int)(s:DS):DS:=l.foldl (fun s c=>ZO nx n c s) s
def Bp(N:Nat)(es:List (Int×Int)):Nat:=((List.range N).filter fun(i:Nat)=>(es.lookup ((i:Nat):Int)).isNone).length
def zBT{es:List (Int×Int)}{b v c:Int}:(es++[(b,v)]).lookup c=match es.lookup c with|some w=>some w|none=>if c=b then some v else none:=by
 induction es with
 |nil=>
  simp only[Gf,List.lookup_cons,List.lookup_nil];by_cases h:c=b
  ·subst h;simp
  ·have:(c == b)=false:=by simpa using h
   rw[this,QC h]
 |cons e es ih=>
  obtain⟨k,w⟩:=e;simp only[JG,List.lookup_cons];cases hk:(c == k)with
  |true=>rfl
  |false=>simp only;exact ih
def zKP{es:List (Int×Int)}{b v c:Int}(h:(es.lookup c).isSome):((es++[(b,v)]).lookup c).isSome:=by
 rw[zBT];cases hc:es.lookup c with
 |none=>rw[hc]at h;cases h
 |some w=>rfl
def zQJ{nx:Int->List Int}:∀ (n:Nat) (b:Int) (s:DS) (c:Int),(s.1.lookup c).isSome->((ZO nx n b s).1.lookup c).isSome:=by
 intro n;induction n with
 |zero=>intro b s c h;exact h
 |succ n ih=>
  intro b s c h;unfold ZO;split
  ·exact h
  ·simp only;have:∀ (l:List Int) (s:DS),(s.1.lookup c).isSome->((l.foldl (fun s c=>ZO nx n c s) s).1.lookup c).isSome:=by
    intro l;induction l with
    |nil=>intro s h;exact h
    |cons x l cj=>intro s h;exact cj _ (ih x s c h)
   exact this _ _ (zKP h)
def zG6{nx:Int->List Int}{n:Nat}{c:Int}:∀ (l:List Int) (s:DS),(s.1.lookup c).isSome->((YI nx n l s).1.lookup c).isSome
 |[],s,h=>h
 |x::l,s,h=>zG6 l _ (zQJ n x s c h)
def zOi{N:Nat}{p q:Nat->Bool}(h:∀ i,i<N->q i=true->p i=true):((List.range N).filter q).length<=((List.range N).filter p).length:=by
 rw[<-List.countP_eq_length_filter,<-List.countP_eq_length_filter];exact List.countP_mono_left fun i hi hq=>h i (Q4.1 hi) hq
def zDe{N:Nat}{es aF:List (Int×Int)}(h:∀ c,(es.lookup c).isSome->(aF.lookup c).isSome):Bp N aF<=Bp N es:=by
 unfold Bp;apply zOi;intro i _ hi;cases hc:es.lookup (i:Int)with
 |none=>rfl
 |some w=>
  have:=h i (by rw[hc];rfl);rw[Option.isNone_iff_eq_none]at hi;rw[hi]at this;cases this
def zFY{p q:Nat->Bool}{i:Nat}(hp:p i=true)(hq:q i=false):∀ {l:List Nat},(∀ j∈l,q j=true->p j=true)->i∈l->l.countP q<l.countP p
 |[],_,h=>by cases h
 |x::l,hl,h=>by
  have hle:l.countP q<=l.countP p:=List.countP_mono_left fun j hj Mh=>hl j (by simp[hj]) Mh;by_cases e:x=i
  ·subst e;simp only[List.countP_cons,hp,hq,Qz];simp;omega
  ·have xu:i∈l:=by
    rcases Qt.1 h with h|h
    ·exact absurd h.symm e
    ·exact h
   have:=zFY hp hq (l:=l) (fun j hj=>hl j (by simp[hj])) xu;simp only[List.countP_cons];cases Mi:q x with
   |false=>simp;omega
   |true=>rw[hl x (by simp) Mi];simp;omega
def zFr{N:Nat}{es:List (Int×Int)}{b v:Int}(h:es.lookup b=none)(hb:0<=b/\b<(N:Int)):Bp N (es++[(b,v)])<Bp N es:=by
 unfold Bp;rw[<-List.countP_eq_length_filter,<-List.countP_eq_length_filter];obtain⟨i,rfl⟩:∃ i:Nat,b=i:=⟨b.toNat,ω⟩;refine zFY (i:=i) (by simp[h]) (by simp[zBT,h]) (fun j _ hj=> ?_) (Q4.2 ω);rw[zBT]at hj;cases hc:es.lookup (j:Int)with
 |none=>rfl
 |some w=>rw[hc]at hj;cases hj
def zJL{N:Nat}{es:List (Int×Int)}(h:Bp N es=0){b:Int}(hb:0<=b/\b<(N:Int)):(es.lookup b).isSome:=by
 cases hc:es.lookup b with
 |some w=>rfl
 |none=>have:=zFr (v:=0) hc hb;omega
def zEN{nx:Int->List Int}{N:Nat}(aq:∀ b,0<=b/\b<(N:Int)->∀ c∈nx b,0<=c/\c<(N:Int)):∀ (n:Nat) (b:Int) (s:DS),0<=b/\b<(N:Int)->(ZO nx n b s).2.length+Bp N (ZO nx n b s).1<=s.2.length+Bp N s.1:=by
 intro n;induction n with
 |zero=>intro b s _;exact QF _
 |succ n ih=>
  intro b s hb;unfold ZO;split
  ·exact QF _
  ·rename_i H0;have bD:s.1.lookup b=none:=by
    cases hc:s.1.lookup b with
    |none=>rfl
    |some w=>rw[hc]at H0;exact absurd rfl H0
   have:∀ (l:List Int) (s:DS),(∀ c∈l,0<=c/\c<(N:Int))->(l.foldl (fun s c=>ZO nx n c s) s).2.length+Bp N (l.foldl (fun s c=>ZO nx n c s) s).1<=s.2.length+Bp N s.1:=by
    intro l;induction l with
    |nil=>intro s _;exact QF _
    |cons x l cj=>intro s hl;exact QM (cj _ fun c hc=>hl c (by simp[hc])) (ih x s (hl x (by simp)))
   have h1:=this (nx b) (s.1++[(b,(s.1.length:Int))],s.2) (aq b hb);have h2:=zFr (v:=(s.1.length:Int)) bD hb;simp only[QH,Qb]at *;omega
end Go.Proofs.YtndffgfnndoifaaGreatDoor
set_option maxRecDepth 100000
namespace Go.Am
section
variable {P:Program}{tab:Ws}{t:WG Value}{h h0:WA}{ds:List Deferred}{rd:Option Nat}{l:List WE}{Q:WM->WA->Prop}{d:Nat}
def Vk{x y:Operand}{v w:Value}{xs ys:List Int}(hx:ev t x=v)(hy:ev t y=w)(o:WP h0 h v xs)(s:Wc h w ys)(e0:WH h0 h)(ah:ys≠[])(hr:xs.length+ys.length<=4294967296)
  (k:∀ h',WH h0 h'->Wq h0 h' (.slice (some ⟨h.n,0,none⟩) (xs++ys).length 1) (xs++ys)->Bm v h h'->WO P tab l ⟨t.set d (.slice (some ⟨h.n,0,none⟩) (xs++ys).length 1),ds,rd⟩ h' Q):WO P tab (⟨some d,none,.append 1 x y⟩::l) ⟨t,ds,rd⟩ h Q:=by
 have aX:=Zu s;have aN:room=4294967296:=rfl;obtain⟨z,zs,rfl⟩:∃ z zs,ys=z::zs:=by
  cases ys with
  |nil=>exact absurd rfl ah
  |cons z zs=>exact⟨z,zs,rfl⟩
 have aT:zK (I z::zs.map I)=true:=zB7 (z::zs);have hlen:(I z::zs.map I).length / 1=(z::zs).length:=by simp
 rcases o with⟨rfl,rfl⟩|⟨g,g1,g2,rfl,g3⟩
 ·have h1:Nat.ble (z::zs).length room=true:=QK (by rw[aN];simpa using hr);refine WO.op (.slice (some ⟨h.n,0,none⟩) (z::zs).length 1) (h.push (.row ((z::zs).map I) true 0)) rfl ?_ (k _ (e0.push _) ⟨h.n,e0.n,by simp[WA.push],rfl,zT _ _⟩ ⟨GU _,fun k hk _=> ?_⟩)
  ·simp only[WK,hx,hy,yR,aX,Qi,aT,hlen,h1,Qe,cond_true,QU];rfl
  ·rw[zM,QC ω]
 ·have h1:Nat.ble (xs.length+(z::zs).length) room=true:=QK (by rw[aN];exact hr);have h2:cut (xs.map I) 0 (xs.length*1)=some (xs.map I):=by rw[yz (by simp)];simp[Q3]
  have hn:(h.kill g).n=h.n:=rfl;have h3:Nat.ble 0 (0+xs.length*1)=true:=QK (QQ _);have hl:xs.length+(z::zs).length=(xs++z::zs).length:=(QH ..).symm;refine WO.op (.slice (some ⟨h.n,0,none⟩) (xs++z::zs).length 1) ((h.kill g).push (.row (xs.map I++(z::zs).map I) true (0-0))) rfl ?_
   (k _ ((e0.kill g1).push _) ⟨h.n,e0.n,by simp[WA.push,WA.kill],rfl,?_⟩ ⟨GU _,fun k hk hv=> ?_⟩)
  ·rw[<-hl];simp only[WK,hx,hy,yR,aX,Qi,aT,hlen,h1,g3,h2,h3,Qe,cond_true,QU];rfl
  ·have:=zT (h.kill g) (.row (xs.map I++(z::zs).map I) true (0-0));rw[hn]at this;rw[this];simp
  ·rw[zM,QC (by rw[hn];omega),yn,QC (fun e=>hv _ _ _ rfl e.symm)]
end
end Go.Am
namespace Go.Proofs.YtndffgfnndoifaaGreatDoor
open Go.Am
def zUW(p vm vd:Value)(g:Nat):Prop:=p≠ .pointer (some ⟨g,0,none⟩)/\vm≠ .map (some g)/\∀ a n c,vd=.slice (some a) n c->a.block≠g
structure WS(hB h:WA)(p vl vm vd:Value)(s:DS):Prop where
 own:WB hB h p [vl,vm,vd]
 map:BR hB h vm s.1
 dn:WP hB h vd s.2
 ext:WH hB h
def BM(h h':WA)(p vm vd iR:Value):Prop:=h.n<=h'.n/\∀ g,g<h.n->zUW p vm vd g->h'.get g=h.get g/\zUW p vm iR g
def BM.refl(h:WA)(p vm vd:Value):BM h h p vm vd vd:=⟨QF _,fun _ _ n=>⟨rfl,n⟩⟩
def BM.trans{h h1 h2:WA}{p vm vd nS xR:Value}(a:BM h h1 p vm vd nS)(b:BM h1 h2 p vm nS xR):BM h h2 p vm vd xR:=
 ⟨QM a.1 b.1,fun g hg nw=>let⟨x,y⟩:=a.2 g hg nw;let⟨u,v⟩:=b.2 g (QG hg a.1) y;⟨u.trans x,v⟩⟩
def BM.ext{h h':WA}(e:WH h h')(p vm vd:Value):BM h h' p vm vd vd:=⟨e.n,fun g hg n=>⟨e.get g hg,n⟩⟩
def Off(h:WA)(p vm vd v:Value)(l:List Int):Prop:=l=[]\/∃ g off,v=.slice (some ⟨g,off,none⟩) l.length 1/\g<h.n/\zUW p vm vd g
def zQ7{h h':WA}{v:Value}(s:Wc h v []):Wc h' v []:=by
 refine⟨rfl,.inl ⟨rfl,?_⟩⟩;rcases s.2 with⟨_,hv⟩|⟨g,off,row,hv,_⟩
 ·exact hv
 ·exact .inr ⟨_,_,hv⟩
def BM.sl{h h':WA}{p vm vd iR v:Value}{l:List Int}(k:BM h h' p vm vd iR)(s:Wc h v l)(o:Off h p vm vd v l):Wc h' v l/\Off h' p vm iR v l:=by
 rcases o with rfl|⟨g,off,rfl,hg,nw⟩
 ·exact⟨zQ7 s,.inl rfl⟩
 ·obtain⟨e1,e2⟩:=k.2 g hg nw;refine⟨⟨s.1,?_⟩,.inr ⟨g,off,rfl,QG hg k.1,e2⟩⟩;rcases s.2 with⟨h0,hv⟩|⟨g',Mj,row,hv,hr,hc,hl⟩
  ·exact .inl ⟨h0,hv⟩
  ·cases hv;exact .inr ⟨g,off,row,rfl,by unfold z0 at *;rw[e1];exact hr,hc,QG hg k.1⟩
def zNr{hB h h2:WA}{p vl vm vd v:Value}{s:DS}{l:List Int}(w:WS hB h p vl vm vd s)(f:SC h v)(sl:Wc h2 v l):Off h2 p vm vd v l:=by
 rcases sl.2 with⟨h0,hv⟩|⟨g,off,row,hv,hr,hc,hl⟩
 ·exact .inl (Gm.1 h0)
 ·refine .inr ⟨g,off,hv,hl,?_⟩;have hg:h.n<=g:=f _ _ _ hv;obtain⟨g1,_,a1,rfl,_⟩:=w.own;obtain⟨g2,_,_,_,a2,rfl,_⟩:=w.map;refine⟨fun e=>by cases e;omega,fun e=>by cases e;omega,fun a n c e he=> ?_⟩;rcases w.dn with⟨rfl,_⟩|⟨g3,_,a3,rfl,_⟩
  ·cases e
  ·cases e;simp only at he;omega
def zIJ{h0 h1 h:WA}{p v:Value}{a:Option Addr}{n k:Nat}{cs:List Value}{xs:List Int}(o:WB h0 h p (.slice a n k::cs))(i:WP h1 h v xs):∀ b m c,v=.slice (some b) m c->p≠ .pointer (some ⟨b.block,0,none⟩):=by
 intro b m c hv hp;obtain⟨g,_,_,rfl,hg⟩:=o;rcases i with⟨rfl,_⟩|⟨g2,_,_,rfl,ir⟩
 ·cases hv
 ·cases hv;cases hp;rw[hg]at ir;cases xs with
  |nil=>cases ir
  |cons x xs=>cases ir
def WB.upd{h0 h h':WA}{p v:Value}{a:Option Addr}{n k:Nat}{cs:List Value}{xs:List Int}(o:WB h0 h p (.slice a n k::cs))(i:WP h0 h v xs)(u:Bm v h h'):WB h0 h' p (.slice a n k::cs):=by
 have ah:=zIJ o i;obtain⟨g,g1,g2,rfl,hg⟩:=o;exact⟨g,g1,QG g2 u.1,rfl,(u.2 g g2 fun b m c hv e=>ah b m c hv (by rw[e])).trans hg⟩
def WB.updM{h0 h h':WA}{p m:Value}{cs:List Value}{es:List (Int×Int)}(o:WB h0 h p cs)(i:BR h0 h m es)(u:zQ0 m h h'):WB h0 h' p cs:=by
 obtain⟨g,g1,g2,rfl,hg⟩:=o;refine⟨g,g1,QG g2 u.1,rfl,(u.2 g g2 fun e=> ?_).trans hg⟩;obtain⟨g3,_,_,_,_,rfl,h3,_⟩:=i;cases e;rw[hg]at h3;cases h3
def BR.updC{h0 h h':WA}{p m:Value}{cs:List Value}{es:List (Int×Int)}(i:BR h0 h m es)(o:WB h0 h p cs)(u:Wo p h h'):BR h0 h' m es:=by
 obtain⟨g3,c,aF,g1,g2,rfl,h3,h4⟩:=i;refine⟨g3,c,aF,g1,QG g2 u.1,rfl,(u.2 g3 g2 fun e=> ?_).trans h3,h4⟩;obtain⟨g,_,_,rfl,hg⟩:=o;cases e;rw[h3]at hg;cases hg
def Wq.updC{h0 h h':WA}{p v:Value}{a:Option Addr}{n k:Nat}{cs:List Value}{xs:List Int}(i:Wq h0 h v xs)(o:WB h0 h p (.slice a n k::cs))(u:Wo p h h'):Wq h0 h' v xs:=by
 have ah:=zIJ o (.inr i);obtain⟨g,g1,g2,rfl,hg⟩:=i;exact⟨g,g1,QG g2 u.1,rfl,(u.2 g g2 fun e=>ah _ _ _ rfl e).trans hg⟩
def W5(L:List Wk)(b:Int):List Int:=Y7 (L.getD b.toNat default).fin
def zCM{nx:Int->List Int}{n:Nat}{b:Int}{s:DS}(h:(s.1.lookup b).isSome):ZO nx n b s=s:=by
 cases n with
 |zero=>rfl
 |succ n=>unfold ZO;rw[QJ h]
def zMx(hB:WA)(L:List Wk)(vl:Value)(aq:∀ b,0<=b/\b<(L.length:Int)->∀ c∈W5 L b,0<=c/\c<(L.length:Int))(n:Nat)
  (IH:∀ (h:WA) (p vm vd:Value) (s:DS) (b:Int),WS hB h p vl vm vd s->0<=b/\b<(L.length:Int)->Bp L.length s.1<=n->s.2.length+Bp L.length s.1<=L.length->
   G0 296 [p,I b] h fun r h'=>∃ iR,WS hB h' p vl vm iR (ZO (W5 L) n b s)/\BM h h' p vm vd iR)
  (h:WA) (p vm vd De:Value) (s:DS) (l:List Int) (w:WS hB h p vl vm vd s) (sl:Wc h De l) (hl:(l.length:Int)<=1000) (o:Off h p vm vd De l) (hr:∀ c∈l,0<=c/\c<(L.length:Int)) (hu:Bp L.length s.1<=n) (hd:s.2.length+Bp L.length s.1<=L.length):
  G0 295 [p,De,.func (.func 296) #[] #[]] h fun r h'=>∃ iR,WS hB h' p vl vm iR (YI (W5 L) n l s)/\BM h h' p vm vd iR:=by
 refine en ?_;refine VD (fun i=>l.length-i) (fun i t h1=>zC t 10=I i/\i<=l.length/\∃ nS,WS hB h1 p vl vm nS (YI (W5 L) n (l.take i) s)/\BM h h1 p vm vd nS) 0 ?_ ?_
 ·exact⟨WJ,QQ _,vd,w,BM.refl ..⟩
 rintro i t h1 ab ⟨jn,hi,nS,w1,k1⟩;obtain⟨Tm,o1⟩:=k1.sl sl o;refine F0 ?_ ?_<;>intro hc
 ·have af:i<l.length:=ω
  refine go ?_;have hm:=zd af;have A7:Bp L.length (YI (W5 L) n (l.take i) s).1<=n:=QM (zDe fun c hc=>zG6 _ _ hc) hu;have hd1:(YI (W5 L) n (l.take i) s).2.length+Bp L.length (YI (W5 L) n (l.take i) s).1<=L.length:=by
   have:∀ (m:List Int) (s:DS),(∀ c∈m,0<=c/\c<(L.length:Int))->(YI (W5 L) n m s).2.length+Bp L.length (YI (W5 L) n m s).1<=s.2.length+Bp L.length s.1:=by
    intro m;induction m with
    |nil=>intro s _;exact QF _
    |cons x m ih=>intro s hm;exact QM (ih _ fun c hc=>hm c (by simp[hc])) (zEN aq n x s (hm x (by simp)))
   exact QM (this _ _ fun c hc=>hr c (GO hc)) hd
  refine VJ (WV.func (IH h1 p vm nS _ (l.getD i 0) w1 (hr _ hm) A7 hd1)) ?_;rintro r h2 ⟨xR,w2,k2⟩;refine go ?_;refine zA (i+1) ω ⟨Wy,ω,xR,?_,k1.trans k2⟩;have e:YI (W5 L) n (l.take (i+1)) s=ZO (W5 L) n (l.getD i 0) (YI (W5 L) n (l.take i) s):=by
   unfold YI;rw[GF,List.foldl_append];simp[List.getD,QB af]
  rw[e];exact w2
 ·refine go ?_;refine BN ?_;have:i=l.length:=ω
  subst this;rw[Qs]at w1;exact⟨nS,w1,k1⟩
section
variable {t:WG Value}
def zVE{x:Operand}{v:Value}(hx:WN t x v:=by first|with_reducible exact WN.const|((with_reducible apply WN.tmp);(repeat (first|((with_reducible apply VY);rfl)|((with_reducible apply Wt.same);(with_reducible assumption);rfl)));first|with_reducible exact Wt.here|with_reducible assumption|(unfold Wt;with_reducible assumption))|with_reducible exact WN.fn|with_reducible exact XD|fail):ev t x=v:=hx
end
def zKR(x:SK):(Y7 x).length<=2:=by
 unfold Y7;split
 ·simp
 ·split
  ·split<;>simp
  ·simp
def zH6{h0 h:WA}{p:Value}{cs:List Value}(o:WB h0 h p cs):∃ g,p=.pointer (some ⟨g,0,none⟩):=let⟨g,_,_,e,_⟩:=o;⟨g,e⟩
def zOM{hB h h':WA}{p vl vm vd:Value}(u:zQ0 vm h h'):BM h h' p vm vd vd:=⟨u.1,fun g hg n=>⟨u.2 g hg n.2.1,n⟩⟩
def zOz{h h':WA}{p vm vd:Value}{q:Nat}{k c:Nat}(u:Bm vd h h')(hq:q=h.n):BM h h' p vm vd (.slice (some ⟨q,0,none⟩) k c):=
 ⟨u.1,fun g hg n=>⟨u.2 g hg n.2.2,n.1,n.2.1,fun a k c e=>by cases e;simp only;omega⟩⟩
def zNo{h h':WA}{p vm vd:Value}(u:Wo p h h'):BM h h' p vm vd vd:=⟨u.1,fun g hg n=>⟨u.2 g hg n.1,n⟩⟩
def zP7(hB:WA)(bp:hB.mark<=hB.n)(L:List Wk)(vl:Value)(bl:Bb hB vl L)(hL:L.length<=1000)(aq:∀ b,0<=b/\b<(L.length:Int)->∀ c∈W5 L b,0<=c/\c<(L.length:Int)):∀ (n:Nat) (h:WA) (p vm vd:Value) (s:DS) (b:Int),WS hB h p vl vm vd s->0<=b/\b<(L.length:Int)->Bp L.length s.1<=n->s.2.length+Bp L.length s.1<=L.length->
   G0 296 [p,I b] h fun r h'=>∃ iR,WS hB h' p vl vm iR (ZO (W5 L) n b s)/\BM h h' p vm vd iR:=by
 obtain⟨la,ln,lk,xS⟩:=zD bl;subst xS;intro n;induction n with
 |zero=>
  intro h p vm vd s b w hb hu hd;obtain⟨v,hv⟩:=Option.isSome_iff_exists.1 (zJL (Nat.le_zero.1 hu) hb);obtain⟨gp,rfl⟩:=zH6 w.own;have wo:=w.own;have wm:=w.map;refine en ?_;refine rt ?_;exact⟨vd,w,BM.refl ..⟩
 |succ n IH=>
  intro h p vm vd s b w hb hu hd;obtain⟨gp,rfl⟩:=zH6 w.own;have wo:=w.own;have wm:=w.map;refine en ?_;cases hv:s.1.lookup b with
  |some v=>
   refine gr ?_;exact⟨vd,by rw[zCM (by rw[hv];rfl)];exact w,BM.refl ..⟩
  |none=>
   have aD:=zFr (v:=(s.1.length:Int)) hv hb;refine go ?_;refine VC 0 rfl rfl ?_;have o1:WB hB (inC (zB 0 h)) (.pointer (some ⟨gp,0,none⟩)) [.slice la ln lk,vm,vd]:=wo;have m1:BR hB (inC (zB 0 h)) vm s.1:=wm;refine WU ?_;have de:h.mark<=hB.n:=by rw[w.ext.mark];exact bp
   refine Wb.upd wm w.ext de hv ?_;intro h1 e1 H4 u1;have H5:=WB.updM wo wm u1;have H6:=w.dn.updM wm u1;have k1:BM h h1 (.pointer (some ⟨gp,0,none⟩)) vm vd vd:=zOM (hB:=hB) (vl:=vm) u1;clear o1 m1 wo wm;obtain⟨i,rfl⟩:∃ i:Nat,b=i:=⟨b.toNat,ω⟩;have Mk:=Bb.ext bl e1;obtain⟨xQ,⟨vi,rfl,si,qo⟩,su,uJ⟩:=yv (i:=i) Mk ω;refine go ?_;refine VA (zMd h1 _) ?_;rintro r h2 ⟨s2,f2,e2⟩;have Ml:=H5.ext e2;have Mm:=H4.ext e2;have Mn:=H6.ext e2;have aE:=e1.trans e2;have w1:WS hB h1 (.pointer (some ⟨gp,0,none⟩)) (.slice la ln lk) vm vd (s.1++[((i:Int),(s.1.length:Int))],s.2):=⟨H5,H4,H6,e1⟩;have w2:WS hB h2 (.pointer (some ⟨gp,0,none⟩)) (.slice la ln lk) vm vd (s.1++[((i:Int),(s.1.length:Int))],s.2):=⟨Ml,Mm,Mn,aE⟩;have gh:Y7 (L.getD i default).fin=W5 L (i:Int):=by unfold W5;rw[QZ]
   rw[gh]at s2;have uj:(W5 L (i:Int)).length<=2:=by unfold W5;exact zKR _
   refine go ?_;refine VA (zMx hB L (.slice la ln lk) aq n IH h2 (.pointer (some ⟨gp,0,none⟩)) vm vd r _ (W5 L (i:Int)) w2 s2 ω (zNr w1 f2 s2) (aq _ hb) (by simp only;omega) (by simp only at hd |-;omega)) ?_;rintro _ h3 ⟨Mo,w3,k3⟩;have H7:=w3.own;refine go ?_;refine WO.bl [(i:Int)] ?_;intro v4 h4 e4 o4;have Df:=w3.dn.ext e4;have sx:=w3.ext.trans e4;refine go ?_;have jm:(YI (W5 L) n (W5 L (i:Int)) (s.1++[((i:Int),(s.1.length:Int))],s.2)).2.length<=1000:=by
    have:∀ (m:List Int) (s:DS),(∀ c∈m,0<=c/\c<(L.length:Int))->(YI (W5 L) n m s).2.length+Bp L.length (YI (W5 L) n m s).1<=s.2.length+Bp L.length s.1:=by
     intro m;induction m with
     |nil=>intro s _;exact QF _
     |cons x m ih=>intro s hm;exact QM (ih _ fun c hc=>hm c (by simp[hc])) (zEN aq n x s (hm x (by simp)))
    have:=this (W5 L (i:Int)) (s.1++[((i:Int),(s.1.length:Int))],s.2) (aq _ hb);simp only at this;omega
   refine Vk (v:=Mo) (w:=v4) (by exact zVE) (by exact zVE) Df o4.sl sx (by simp) (by simp only[Qb];omega) ?_;intro h5 e5 o5 u5;have Dg:=WB.upd (H7.ext e4) Df u5;have Mp:=(w3.map.ext e4).upd Df u5;refine go ?_;refine VX Dg e5 ?_ (hl:=QF 3);intro h6 e6 Mq u6;refine go ?_;refine BN ?_;have Hx:ZO (W5 L) (n+1) (i:Int) s=((YI (W5 L) n (W5 L (i:Int)) (s.1++[((i:Int),(s.1.length:Int))],s.2)).1,(YI (W5 L) n (W5 L (i:Int)) (s.1++[((i:Int),(s.1.length:Int))],s.2)).2++[(i:Int)]):=by
    conv=>lhs;unfold ZO
    rw[QC (by rw[hv];exact Bool.noConfusion)];rfl
   rw[Hx];refine⟨_,⟨Mq,BR.updC Mp Dg u6,.inr (Wq.updC o5 Dg u6),e6⟩,?_⟩;exact(((k1.trans (BM.ext e2 ..)).trans k3).trans (BM.ext e4 ..)).trans ((zOz u5 rfl).trans (zNo u6))
def zGD(N:Nat)(es:List (Int×Int)):Bp N es<=N:=by
 unfold Bp;have:=JK (fun(i:Nat)=>(es.lookup ((i:Nat):Int)).isNone) (List.range N);simpa using this
def zMj(h:WA)(hm:h.mark<=h.n)(L:List Wk)(vl fv:Value)(l:List Int)(bl:Bb h vl L)(hL:L.length<=1000)(aq:∀ b,0<=b/\b<(L.length:Int)->∀ c∈W5 L b,0<=c/\c<(L.length:Int))(sl:Wc h fv l)(hl:(l.length:Int)<=1000)(hr:∀ c∈l,0<=c/\c<(L.length:Int)):
  G0 272 [vl,fv] h fun r h'=>WP h h' r (YI (W5 L) L.length l ([],[])).2/\WH h h':=by
 obtain⟨la,ln,lk,rfl⟩:=zD bl;refine en ?_;refine WO.mkMap ?_;intro vm h1 e1 m1;obtain⟨gm,rfl⟩:∃ g,vm=.map (some g):=let⟨g,_,_,_,_,e,_⟩:=m1;⟨g,e⟩;refine go ?_;refine VH ?_;intro p h2 e2 o2;have aQ:=e1.trans e2;have w2:WS h h2 p (.slice la ln lk) (.map (some gm)) (.slice none 0 0) ([],[]):=⟨o2.since e1,m1.ext e2,.inl ⟨rfl,rfl⟩,aQ⟩;have gN:Off h2 p (.map (some gm)) (.slice none 0 0) fv l:=by
  rcases sl.2 with⟨h0,hv⟩|⟨g,off,row,hv,hr,hc,hg⟩
  ·exact .inl (Gm.1 h0)
  ·refine .inr ⟨g,off,hv,QG hg aQ.n,?_⟩;obtain⟨g1,a1,_,hp,_⟩:=w2.own;obtain⟨g2,_,_,a2,_,bT,_⟩:=w2.map;cases bT;refine⟨fun e=> ?_,fun e=>by cases e;omega,fun a n c e=>by cases e⟩;rw[hp]at e;cases e;omega
 refine go ?_;refine VA (zMx h L (.slice la ln lk) aq L.length (fun h' p vm vd s b w hb hu hd=>zP7 h hm L (.slice la ln lk) bl hL aq L.length h' p vm vd s b w hb hu hd) h2 p _ _ fv ([],[]) l w2 (sl.ext aQ) hl gN hr (zGD _ _) (by have:=zGD L.length [];simp only[G5];omega)) ?_;rintro _ h3 ⟨vd,w3,k3⟩;obtain⟨gp,rfl⟩:=zH6 w3.own;have H7:=w3.own;refine gr ?_;exact⟨w3.dn,w3.ext⟩
def zMh{T:List WF}{n:Int}{f:We}(h:B8 T n f=true):f.blocks.length<=16/\∀ b,0<=b/\b<(f.blocks.length:Int)->∀ c∈W5 f.blocks b,0<=c/\c<(f.blocks.length:Int):=by
 unfold B8 at h;split at h
 ·cases h
 ·rename_i bM;have hlen:f.blocks.length<=16:=by
   unfold zDM at bM;simp only[GM,not_or,JY,Bool.not_eq_false']at bM;have h1:zp ((f.blocks.length:Int)-1) 16=true:=by simpa using bM.1.2
   unfold zp at h1;simp only[QI,Qc]at h1;omega
  refine⟨hlen,fun b hb c hc=> ?_⟩;rw[Ge,G4]at h;have az:=zH (l:=f.blocks) (i:=b.toNat) ω;have du:=h _ az;unfold zD4 at du;simp only[GM,not_or,JY,Bool.not_eq_false']at du;have he:zB6 (f.blocks.getD b.toNat default).fin (szL T n f)=true:=by simpa using du.2
  unfold W5 Y7 at hc;unfold zB6 zp szL at he;split at hc
  ·rename_i hk;rw[QJ hk]at he;simp only[QI,Qc]at he;simp only[QO]at hc;omega
  ·rename_i hk;rw[QC hk]at he;split at hc
   ·rename_i aU;rw[QJ aU]at he;simp only[QI,Qc]at he;split at hc
    ·simp only[QO]at hc;omega
    ·simp only[Qt,List.mem_nil_iff,or_false]at hc;rcases hc with rfl|rfl<;>omega
   ·cases hc
def Zw{T:List WF}{F:List We}{f b:Int}(h:(zF T F f b).2=0):(zF T F f b).1.length<=16/\∀ c,0<=c/\c<((zF T F f b).1.length:Int)->∀ d∈W5 (zF T F f b).1 c,0<=d/\d<((zF T F f b).1.length:Int):=by
 obtain⟨_,_,h3,h4⟩:=Zh h;have aq:=zCT h4;rw[h3];exact zMh ((yg aq.2.2).2.2.2 _ (zH (l:=F) (i:=f.toNat) ω))
inductive Wx(nx:Int->List Int)(a:Int):Int->Prop
 |here:Wx nx a a
 |step {b c:Int}:Wx nx a b->c∈nx b->Wx nx a c
def Wx.trans{nx:Int->List Int}{a b c:Int}(h:Wx nx a b)(k:Wx nx b c):Wx nx a c:=by
 induction k with
 |here=>exact h
 |step _ hc ih=>exact .step ih hc
def Bg(s:DS)(c:Int):Prop:=(s.1.lookup c).isSome=true
def zA5{s:DS}{b v c:Int}{d:List Int}:Bg (s.1++[(b,v)],d) c↔Bg s c\/c=b:=by
 unfold Bg;rw[zBT];cases h:s.1.lookup c with
 |some w=>simp
 |none=>by_cases e:c=b<;>simp[e]
structure ST(nx:Int->List Int)(l:List Int)(s s':DS):Prop where
 mono:∀ c,Bg s c->Bg s' c
 keep:∀ c∈s.2,c∈s'.2
 all:∀ c∈l,Bg s' c
 way:∀ c,Bg s' c->Bg s c\/∃ a∈l,Wx nx a c
 done:∀ c,Bg s' c->Bg s c\/c∈s'.2/\∀ d∈nx c,Bg s' d
 of:∀ c∈s'.2,c∈s.2\/Bg s' c
def ST.nil(nx:Int->List Int)(s:DS):ST nx [] s s:=
 ⟨fun _ h=>h,fun _ h=>h,(fun _ h=>by cases h),fun _ h=> .inl h,fun _ h=> .inl h,fun _ h=> .inl h⟩
def ST.cons{nx:Int->List Int}{x:Int}{l:List Int}{s t u:DS}(a:ST nx [x] s t)(b:ST nx l t u):ST nx (x::l) s u where
 mono:=fun c h=>b.mono c (a.mono c h)
 keep:=fun c h=>b.keep c (a.keep c h)
 all:=fun c h=>by
  rcases Qt.1 h with rfl|h
  ·exact b.mono _ (a.all _ (by simp))
  ·exact b.all _ h
 way:=fun c h=>by
  rcases b.way c h with h|⟨y,hy,w⟩
  ·rcases a.way c h with h|⟨y,hy,w⟩
   ·exact .inl h
   ·exact .inr ⟨y,by simp at hy;simp[hy],w⟩
  ·exact .inr ⟨y,by simp[hy],w⟩
 done:=fun c h=>by
  rcases b.done c h with h|h
  ·rcases a.done c h with h|⟨h,k⟩
   ·exact .inl h
   ·exact .inr ⟨b.keep _ h,fun d hd=>b.mono _ (k d hd)⟩
  ·exact .inr h
 of:=fun c h=>by
  rcases b.of c h with h|h
  ·rcases a.of c h with h|h
   ·exact .inl h
   ·exact .inr (b.mono _ h)
  ·exact .inr h
def zPC{nx:Int->List Int}{N:Nat}(aq:∀ b,0<=b/\b<(N:Int)->∀ c∈nx b,0<=c/\c<(N:Int)):∀ (n:Nat) (b:Int) (s:DS),Bp N s.1<=n->0<=b/\b<(N:Int)->ST nx [b] s (ZO nx n b s):=by
 intro n;induction n with
 |zero=>
  intro b s h hb;have aR:Bg s b:=zJL (Nat.le_zero.1 h) hb;exact⟨fun _ h=>h,fun _ h=>h,fun c hc=>by simp at hc;subst hc;exact aR,fun _ h=> .inl h,fun _ h=> .inl h,fun _ h=> .inl h⟩
 |succ n ih=>
  intro b s h hb;by_cases aR:Bg s b
  ·rw[zCM aR];exact⟨fun _ h=>h,fun _ h=>h,fun c hc=>by simp at hc;subst hc;exact aR,fun _ h=> .inl h,fun _ h=> .inl h,fun _ h=> .inl h⟩
  ·have bD:s.1.lookup b=none:=by
    unfold Bg at aR;cases hq:s.1.lookup b with
    |none=>rfl
    |some w=>rw[hq]at aR;exact absurd rfl aR
   have aD:=zFr (v:=(s.1.length:Int)) bD hb;have go:∀ (l:List Int) (t:DS),Bp N t.1<=n->(∀ c∈l,0<=c/\c<(N:Int))->ST nx l t (l.foldl (fun(t:DS) (c:Int)=>ZO nx n c t) t):=by
    intro l;induction l with
    |nil=>intro t _ _;exact .nil _ _
    |cons x l cj=>
     intro t ht hl;have hx:=ih x t ht (hl x (by simp));exact hx.cons (cj _ (QM (zDe fun c hc=>hx.mono c hc) ht) fun c hc=>hl c (by simp[hc]))
   have k:=go (nx b) (s.1++[(b,(s.1.length:Int))],s.2) (by simp only;omega) (aq b hb);have hu:ZO nx (n+1) b s=(((nx b).foldl (fun(t:DS) (c:Int)=>ZO nx n c t) (s.1++[(b,(s.1.length:Int))],s.2)).1,((nx b).foldl (fun(t:DS) (c:Int)=>ZO nx n c t) (s.1++[(b,(s.1.length:Int))],s.2)).2++[b]):=by
    conv=>lhs;unfold ZO
    rw[QC (by rw[bD];exact Bool.noConfusion)]
   rw[hu];generalize(nx b).foldl (fun(t:DS) (c:Int)=>ZO nx n c t) (s.1++[(b,(s.1.length:Int))],s.2)=t at k |-;have aI:Bg t b:=k.mono _ (zA5.2 (.inr rfl));refine⟨fun c h=>k.mono _ (zA5.2 (.inl h)),fun c h=>by simp only[Qf];exact .inl (k.keep c h),fun c hc=>by simp at hc;subst hc;exact aI,fun c hc=> ?_,fun c hc=> ?_,fun c hc=> ?_⟩
   ·rcases k.way c hc with h|⟨a,ha,w⟩
    ·rcases zA5.1 h with h|rfl
     ·exact .inl h
     ·exact .inr ⟨c,by simp,.here⟩
    ·exact .inr ⟨b,by simp,Wx.trans (.step .here ha) w⟩
   ·rcases k.done c hc with h|⟨h,hd⟩
    ·rcases zA5.1 h with h|rfl
     ·exact .inl h
     ·exact .inr ⟨by simp,fun d hd=>k.all d hd⟩
    ·exact .inr ⟨by simp only[Qf];exact .inl h,hd⟩
   ·simp only[Qf,QO]at hc;rcases hc with hc|rfl
    ·exact k.of c hc
    ·exact .inr aI
def zER{nx:Int->List Int}{N n:Nat}(aq:∀ b,0<=b/\b<(N:Int)->∀ c∈nx b,0<=c/\c<(N:Int)):∀ (l:List Int) (s:DS),Bp N s.1<=n->(∀ c∈l,0<=c/\c<(N:Int))->ST nx l s (YI nx n l s)
 |[],s,_,_=> .nil _ _
 |x::l,s,h,hl=>by
  have hx:=zPC aq n x s h (hl x (by simp));exact hx.cons (zER aq l _ (QM (zDe fun c hc=>hx.mono c hc) h) fun c hc=>hl c (by simp[hc]))
def zM3{nx:Int->List Int}{N:Nat}(aq:∀ b,0<=b/\b<(N:Int)->∀ c∈nx b,0<=c/\c<(N:Int)){l:List Int}(hl:∀ c∈l,0<=c/\c<(N:Int)){c:Int}:c∈(YI nx N l ([],[])).2↔∃ a∈l,Wx nx a c:=by
 have k:=zER (n:=N) aq l ([],[]) (zGD _ _) hl;have no:∀ d,¬Bg (([],[]):DS) d:=fun d h=>by unfold Bg at h;exact Bool.noConfusion h
 constructor
 ·intro h;rcases k.of c h with h|h
  ·cases h
  ·rcases k.way c h with h|h
   ·exact absurd h (no _)
   ·exact h
 ·rintro⟨a,ha,w⟩;have:Bg (YI nx N l ([],[])) c:=by
   induction w with
   |here=>exact k.all _ ha
   |step _ hc ih=>
    rcases k.done _ ih with h|⟨_,h⟩
    ·exact absurd h (no _)
    ·exact h _ hc
  rcases k.done c this with h|h
  ·exact absurd h (no _)
  ·exact h.1
def zY(L:List Wk)(b:Int)(k:Nat):List Int:=((List.range k).filter fun(i:Nat)=>decide (b∈Y7 (L.getD i default).fin)).map fun(i:Nat)=>(i:Int)
def zEp(L:List Wk)(b:Int)(k:Nat):zY L b (k+1)=if b∈Y7 (L.getD k default).fin then zY L b k++[(k:Int)]else zY L b k:=by
 unfold zY;rw[JC,List.filter_append,Q5];by_cases h:b∈Y7 (L.getD k default).fin
 ·rw[QJ h,List.filter_cons_of_pos (by simpa using h)];rfl
 ·rw[QC h,List.filter_cons_of_neg (by simpa using h)];simp
def zBU(L:List Wk)(b:Int)(k:Nat):(zY L b k).length<=k:=by
 unfold zY;rw[Qr];exact QM (JK _ _) (by simp)
def Yp(T:List WF)(F:List We)(f b:Int):List Int×Int:=
 if(zF T F f b).2≠0 then([],(zF T F f b).2)else(zY (zF T F f b).1 b (zF T F f b).1.length,0)
def zQw(h:WA)(vt vf:Value)(T:List WF)(F:List We)(f b:Int)(tt:SA h)(hm:h.mark<=h.n)(sm:Bd T F)(st:BB h vt T)(sf:BA h vf F):
  G0 274 [.agg #[vt,vf],I f,I b] h fun r h'=>(∃ v,r=.tuple #[v,I (Yp T F f b).2]/\WP h h' v (Yp T F f b).1)/\WH h h':=by
 refine en ?_;refine VH ?_;intro p h1 e1 o1;refine go ?_;refine VA (zET h1 vt vf T F f b (tt.ext e1) (yV e1 hm) sm (st.ext e1) (BA.ext sf e1)) ?_;rintro _ h2 ⟨⟨v,rfl,sb⟩,e2⟩;have aQ:=e1.trans e2;refine F0 ?_ ?_<;>intro hb<;>refine go ?_
 ·refine rt ?_;rw[show Yp T F f b=([],(zF T F f b).2)from by rw[Yp,QJ hb]];exact⟨⟨_,rfl,.inl ⟨rfl,rfl⟩⟩,aQ⟩
 have aW:(zF T F f b).2=0:=ω
 obtain⟨hlen,gh⟩:=Zw aW;rw[show Yp T F f b=(zY (zF T F f b).1 b (zF T F f b).1.length,0)from by rw[Yp,QC ω]];generalize(zF T F f b).1=L at *;refine VD (fun k=>L.length-k) (fun k t h3=>zC t 23=I k/\k<=L.length/\WH h2 h3/\∃ w,zC t 6=w/\WP h2 h3 w (zY L b k)) 0 ?_ ?_
 ·exact⟨WJ,QQ _,WH.refl _,.slice none 0 0,WJ,.inl ⟨rfl,rfl⟩⟩
 rintro k t h3 ab ⟨Tn,hk,nT,w,s6,ow⟩;have qm:=Bb.ext sb nT;refine F0 ?_ ?_<;>intro hc
 ·have cF:k<L.length:=ω
  obtain⟨cs,⟨vi,rfl,si,sq⟩,pc,hs⟩:=yv qm cF;obtain⟨_,_,_,rfl⟩:=zD si;refine go ?_;refine WO.al ?_;intro p4 h4 e4 o4;refine go ?_;refine VG o4 e4 ?_;intro h5 e5 o5 _;refine go ?_;refine VA (zMd h5 (L.getD k default).fin) ?_;rintro r h6 ⟨H8,_,e6⟩;have iJ:=zKR (L.getD k default).fin;refine go ?_;refine VA (zA3 h6 r _ b H8 ω) ?_;rintro _ _ ⟨rfl,rfl⟩;have fD:=(ow.ext e5).ext e6;have jV:=e5.trans e6;have bq:=zEp L b k;have d8:=zBU L b k;refine F0 ?_ ?_<;>intro hd<;>refine go ?_
  ·rw[QJ hd]at bq;refine WO.bl [(k:Int)] ?_;intro v7 h7 e7 o7;refine go ?_;refine Vc (fD.ext e7) o7.sl ((nT.trans jV).trans e7) (by simp only[Qb];omega) ?_;intro v8 h8 e8 o8;refine go ?_;exact zA (k+1) ω ⟨Wy,ω,e8,v8,WJ,by rw[bq];exact o8⟩
  ·rw[QC hd]at bq;exact zA (k+1) ω ⟨Wy,ω,nT.trans jV,w,WJ,by rw[bq];exact fD⟩
 ·have fz:k=L.length:=ω
  subst fz;refine gr ?_;exact⟨⟨_,rfl,ow.since aQ⟩,aQ.trans nT⟩
def zOj(h:WA)(n:Int):G0 266 [I n] h fun r h'=>r=.bool false/\h=h':=by
 refine en ?_;refine rt ?_;exact⟨by simp[one],rfl⟩
def YC(h:WA)(a b:Int):G0 224 [I a,I b] h fun r h'=>r=.bool (decide (a<b))/\h=h':=by
 refine en ?_;refine VA (zOj h a) ?_;rintro _ _ ⟨rfl,rfl⟩;refine gr ?_;exact⟨by simp[one],rfl⟩
def zIo(hB h:WA)(v:Value)(xs:List Int)(a b:Int)(e0:WH hB h)(bp:hB.mark<=hB.n)(o:Wq hB h v xs)(h0:0<=a)(dJ:a<=b)(hb:b<=xs.length)(hlen:xs.length<=1000000000):
  G0 218 [v,I a,I b] h fun r h'=>∃ ys,Wq hB h' v ys/\PI a b xs ys/\B0 a b ys/\WH hB h'/\Bm v h h':=by
 refine en ?_;refine VD (fun x=>(b-x.2).toNat) (fun(x:List Int×Int) t h1=>zC t 6=I x.2/\a+1<=x.2/\(x.2<=b\/x.2=a+1)/\Wq hB h1 v x.1/\WH hB h1/\Bm v h h1/\PI a b xs x.1/\B0 a x.2 x.1) (xs,a+1) ?_ ?_
 ·exact⟨WJ,by simp only;omega,.inr rfl,o,e0,⟨QF _,fun _ _ _=>rfl⟩,PI.refl ..,Ve (by simp only;omega)⟩
 rintro⟨ys,i⟩ t h1 ab ⟨s6,nR,cN,o1,e1,u1,p1,r1⟩;simp only at s6 nR cN o1 e1 u1 p1 r1;have tN:=p1.len;refine F0 ?_ ?_<;>intro hc
 ·refine go ?_;refine VD (fun x=>(x.2-a).toNat) (fun(x:List Int×Int) t h2=>zC t 7=I x.2/\a<=x.2/\x.2<=i/\Wq hB h2 v x.1/\WH hB h2/\Bm v h h2/\PI a b xs x.1/\∀ p q,a<=p->p<=q->q<=i->q≠x.2->WZ x.1 p<=WZ x.1 q) (ys,i) ?_ ?_
  ·exact⟨WJ,by simp only;omega,by simp only;omega,o1,e1,u1,p1,fun p q h1 h2 h3 h4=>r1 p q h1 h2 (by simp only at h4;omega)⟩
  rintro⟨zs,j⟩ t2 h2 br ⟨s7,eJ,ez,o2,e2,u2,p2,r2⟩;simp only at s7 eJ ez o2 e2 u2 p2 r2;have Hp:=p2.len;refine goC ?_;refine VC 0 rfl rfl ?_;have sr:Wc (inC (zB 0 h2)) v zs:=o2.sl;refine WU ?_;refine VI (fun hd=> ?_) (fun hd=> ?_)<;>simp only[DB]at hd<;>refine WU ?_
  ·refine VA (YC _ (WZ zs j) (WZ zs (j-1))) ?_;rintro _ _ ⟨rfl,rfl⟩;refine nQ ?_;refine WU ?_;rw[zBp];refine VE (fun he=> ?_) (fun he=> ?_)<;>simp only[DB]at he<;>refine goC ?_
   ·refine VC 0 rfl rfl ?_;have To:Wc (inC (zB 0 h2)) v zs:=o2.sl;refine WU ?_;refine VQ j (j-1) o2 e2 (by rw[e2.mark];exact bp) ?_;intro h3 e3 o3 u3;refine go ?_;exact zA (swp zs j (j-1),j-1) (by simp only;omega) ⟨WJ,by simp only;omega,by simp only;omega,o3,e3,u2.trans u3,p2.trans (PI.swp ω ω ω ω),zJE h0 hd ez ω he r2⟩
   ·refine go ?_;refine zA (zs,i+1) (by simp only;omega) ⟨WJ,by simp only;omega,by simp only;omega,o2,e2,u2,p2,fun p q h1 h2 h3=> ?_⟩;by_cases hq:q=j
    ·subst hq;by_cases hp:p=q
     ·subst hp;exact Q1 _
     ·have:=r2 p (q-1) h1 ω ω ω;simp only;omega
    ·exact r2 p q h1 h2 (by simp only at h3;omega) hq
  ·rw[zBp];refine goC ?_;refine zA (zs,i+1) (by simp only;omega) ⟨WJ,by simp only;omega,by simp only;omega,o2,e2,u2,p2,fun p q h1 h2 h3=> ?_⟩;by_cases hq:q=j
   ·have hp:p=q:=ω
    subst hp;exact Q1 _
   ·exact r2 p q h1 h2 (by simp only at h3;omega) hq
 ·refine go ?_;refine BN ?_;exact⟨ys,o1,p1,fun p q h1 h2 h3=>r1 p q h1 h2 ω,e1,u1⟩
def zIj(hB h:WA)(v:Value)(xs:List Int)(a b pv:Int)(e0:WH hB h)(bp:hB.mark<=hB.n)(o:Wq hB h v xs)(h0:0<=a)(hp:a<=pv/\pv<b)(hb:b<=xs.length)(hlen:xs.length<=1000000000):
  G0 226 [v,I a,I b,I pv] h fun r h'=>∃ ys m w,r=.tuple #[I m,.bool w]/\SS hB h v a b xs ys h'/\(a<=m/\m<b)/\(∀ k,a<=k->k<m->WZ ys k<=WZ ys m)/\(∀ k,m<k->k<b->WZ ys m<=WZ ys k):=by
 have s0:=Vb a b o e0;refine en ?_;refine VC 0 rfl rfl ?_;have d9:Wc (inC (zB 0 h)) v xs:=(o).sl;refine WU ?_;refine VQ (a) (pv) (s0).own (s0).ext (by rw[(s0).ext.mark];exact bp) ?_;intro h1 e1 o1 u1;have s1:=s0.swp e1 o1 u1 h0 hb ω ω;clear o1 e1 u1;generalize swp xs a pv=ys at s1;have fw:=s1.len;refine go ?_;refine VD (fun i=>(b-i).toNat) (fun(i:Int) t h2=>h1=h2/\zC t 10=I i/\(a+1<=i/\i<=b)/\∀ k,a<k->k<i->WZ ys k<WZ ys a) (a+1) ?_ ?_
 ·exact⟨rfl,WJ,ω,fun k h1 h2=>by omega⟩
 rintro i t _ ab ⟨rfl,jn,hi,au⟩;refine go ?_;refine VL (fun t h'=>h1=h'/\zC t 43=.bool (decide (i<=b-1/\(WZ ys i<WZ ys a)))) ?_ ?_
 ·refine VC 0 rfl rfl ?_;have d9:Wc (inC (zB 0 h1)) v ys:=(s1.own).sl;refine WU ?_;refine VI (fun hd=> ?_) (fun hd=> ?_)<;>simp only[DB]at hd<;>refine WU ?_
  ·refine VA (YC _ (WZ ys i) (WZ ys a)) ?_;rintro _ _ ⟨rfl,rfl⟩;refine nQ ?_;refine WU ?_;exact zJ ⟨rfl,by rw[show decide (i<=b-1/\(WZ ys i<WZ ys a))=decide (WZ ys i<WZ ys a)from zI1 hd];exact WJ⟩
  ·exact zJ ⟨rfl,by rw[show decide (i<=b-1/\(WZ ys i<WZ ys a))=false from QY (fun hh=>absurd hh.1 ω)];exact WJ⟩
 rintro t2 _ jh ⟨rfl,q2⟩;refine F0 ?_ ?_<;>intro he
 ·refine go ?_;refine zA (i+1) ω ⟨rfl,WJ,ω,fun k h1 h2=> ?_⟩;by_cases e:k=i
  ·rw[e];exact he.2
  ·exact au k h1 ω
 refine go ?_;refine VD (fun j=>(j+1-a).toNat) (fun(j:Int) t h2=>h1=h2/\zC t 11=I j/\(i-1<=j/\j<=b-1)/\∀ k,j<k->k<b->WZ ys a<=WZ ys k) (b-1) ?_ ?_
 ·exact⟨rfl,WJ,ω,fun k h1 h2=>by omega⟩
 rintro j t _ ab ⟨rfl,mz,hj,cL⟩;refine go ?_;refine VL (fun t h'=>h1=h'/\zC t 60=.bool (decide (i<=j/\¬(WZ ys j<WZ ys a)))) ?_ ?_
 ·refine VC 0 rfl rfl ?_;have d9:Wc (inC (zB 0 h1)) v ys:=(s1.own).sl;refine WU ?_;refine VI (fun hd=> ?_) (fun hd=> ?_)<;>simp only[DB]at hd<;>refine WU ?_
  ·refine VA (YC _ (WZ ys j) (WZ ys a)) ?_;rintro _ _ ⟨rfl,rfl⟩;refine nQ ?_;refine WU ?_;exact zJ ⟨rfl,by rw[show decide (i<=j/\¬(WZ ys j<WZ ys a))= !decide (WZ ys j<WZ ys a)from zDt hd];exact WJ⟩
  ·exact zJ ⟨rfl,by rw[show decide (i<=j/\¬(WZ ys j<WZ ys a))=false from QY (fun hh=>absurd hh.1 ω)];exact WJ⟩
 rintro t3 _ xG ⟨rfl,q3⟩;refine F0 ?_ ?_<;>intro hf
 ·refine go ?_;refine zA (j-1) ω ⟨rfl,WJ,ω,fun k h1 h2=> ?_⟩;by_cases e:k=j
  ·rw[e];omega
  ·exact cL k ω h2
 refine F0 ?_ ?_<;>intro hg
 ·refine go ?_;refine VC 0 rfl rfl ?_;have d9:Wc (inC (zB 0 h1)) v ys:=(s1.own).sl;refine WU ?_;refine VQ (j) (a) (s1).own (s1).ext (by rw[(s1).ext.mark];exact bp) ?_;intro h3 e3 o3 u3;have s3:=s1.swp e3 o3 u3 h0 hb ω ω;refine gr ?_;refine⟨_,_,_,rfl,s3,ω,fun k h1 h2=> ?_,fun k h1 h2=> ?_⟩
  ·rw[yo ω ω ω,yo ω ω ω];by_cases e:k=a
   ·rw[QJ e,QC ω,QJ rfl];have:=au j ω ω;omega
   ·rw[QC e,QC ω,QC ω,QJ rfl];have:=au k ω ω;omega
  ·rw[yo ω ω ω,yo ω ω ω];rw[QC (by omega:¬k=a),QC (by omega:¬k=j)];have:=cL k ω ω;by_cases e:j=a
   ·rw[QJ e,e];exact this
   ·rw[QC e,QJ rfl];exact this
 refine go ?_;refine VC 0 rfl rfl ?_;have d9:Wc (inC (zB 0 h1)) v ys:=(s1.own).sl;refine WU ?_;refine VQ (i) (j) (s1).own (s1).ext (by rw[(s1).ext.mark];exact bp) ?_;intro h3 e3 o3 u3;have s3:=s1.swp e3 o3 u3 h0 hb ω ω;have cN:¬WZ ys i<WZ ys a:=fun hh=>he ⟨ω,hh⟩;have ez:WZ ys j<WZ ys a:=Int.not_le.1 fun hh=>hf ⟨ω,hh⟩;have jy:i≠j:=fun e=>by subst e;exact cN ez
 have hP:(a+1<=i+1/\i+1<=j-1+1/\j-1<=b-1)/\(∀ k,a<k->k<i+1->WZ (swp ys i j) k<WZ (swp ys i j) a)/\∀ k,j-1<k->k<b->WZ (swp ys i j) a<=WZ (swp ys i j) k:=by
  have ea:WZ (swp ys i j) a=WZ ys a:=by rw[yo ω ω ω,QC ω,QC ω]
  rw[ea];refine⟨ω,fun k h1 h2=> ?_,fun k h1 h2=> ?_⟩
  ·rw[yo ω ω ω,QC ω];by_cases e:k=i
   ·rw[QJ e];exact ez
   ·rw[QC e];exact au k h1 ω
  ·rw[yo ω ω ω];by_cases e:k=j
   ·rw[QJ e];omega
   ·rw[QC e,QC ω];exact cL k ω h2
 clear o3 e3 u3 au cL;generalize swp ys i j=zs at s3 hP;refine go ?_;refine VD (fun x=>(x.2.2+1-x.2.1).toNat) (fun(x:List Int×Int×Int) t h4=>SS hB h v a b xs x.1 h4/\zC t 10=I x.2.1/\zC t 11=I x.2.2/\(a+1<=x.2.1/\x.2.1<=x.2.2+1/\x.2.2<=b-1)/\(∀ k,a<k->k<x.2.1->WZ x.1 k<WZ x.1 a)/\∀ k,x.2.2<k->k<b->WZ x.1 a<=WZ x.1 k) (zs,i+1,j-1) ?_ ?_
 ·exact⟨s3,WJ,WJ,hP.1,hP.2.1,hP.2.2⟩
 clear hP s3 jn mz he hf hg cN ez jy q2 q3 hi hj;rintro⟨ws,p,q⟩ t h4 ab ⟨s4,jn,mz,uK,au,cL⟩;simp only at s4 jn mz uK au cL;have sy:=s4.len;refine go ?_;refine VD (fun i=>(b-i).toNat) (fun(i:Int) t h2=>h4=h2/\zC t 10=I i/\(p<=i/\i<=q+1)/\∀ k,a<k->k<i->WZ ws k<WZ ws a) p ?_ ?_
 ·exact⟨rfl,WJ,ω,au⟩
 rintro i2 t _ ab ⟨rfl,jn,hi,dE⟩;refine go ?_;refine VL (fun t h'=>h4=h'/\zC t 112=.bool (decide (i2<=q/\(WZ ws i2<WZ ws a)))) ?_ ?_
 ·refine VC 0 rfl rfl ?_;have d9:Wc (inC (zB 0 h4)) v ws:=(s4.own).sl;refine WU ?_;refine VI (fun hd=> ?_) (fun hd=> ?_)<;>simp only[DB]at hd<;>refine WU ?_
  ·refine VA (YC _ (WZ ws i2) (WZ ws a)) ?_;rintro _ _ ⟨rfl,rfl⟩;refine nQ ?_;refine WU ?_;exact zJ ⟨rfl,by rw[show decide (i2<=q/\(WZ ws i2<WZ ws a))=decide (WZ ws i2<WZ ws a)from zI1 hd];exact WJ⟩
  ·exact zJ ⟨rfl,by rw[show decide (i2<=q/\(WZ ws i2<WZ ws a))=false from QY (fun hh=>absurd hh.1 ω)];exact WJ⟩
 rintro t5 _ xM ⟨rfl,q5⟩;refine F0 ?_ ?_<;>intro he
 ·refine go ?_;refine zA (i2+1) ω ⟨rfl,WJ,ω,fun k h1 h2=> ?_⟩;by_cases e:k=i2
  ·rw[e];exact he.2
  ·exact dE k h1 ω
 refine go ?_;refine VD (fun j=>(j+1-a).toNat) (fun(j:Int) t h2=>h4=h2/\zC t 11=I j/\(i2-1<=j/\j<=q)/\∀ k,j<k->k<b->WZ ws a<=WZ ws k) q ?_ ?_
 ·exact⟨rfl,WJ,ω,cL⟩
 rintro j2 t _ ab ⟨rfl,mz,hj,cU⟩;refine go ?_;refine VL (fun t h'=>h4=h'/\zC t 129=.bool (decide (i2<=j2/\¬(WZ ws j2<WZ ws a)))) ?_ ?_
 ·refine VC 0 rfl rfl ?_;have d9:Wc (inC (zB 0 h4)) v ws:=(s4.own).sl;refine WU ?_;refine VI (fun hd=> ?_) (fun hd=> ?_)<;>simp only[DB]at hd<;>refine WU ?_
  ·refine VA (YC _ (WZ ws j2) (WZ ws a)) ?_;rintro _ _ ⟨rfl,rfl⟩;refine nQ ?_;refine WU ?_;exact zJ ⟨rfl,by rw[show decide (i2<=j2/\¬(WZ ws j2<WZ ws a))= !decide (WZ ws j2<WZ ws a)from zDt hd];exact WJ⟩
  ·exact zJ ⟨rfl,by rw[show decide (i2<=j2/\¬(WZ ws j2<WZ ws a))=false from QY (fun hh=>absurd hh.1 ω)];exact WJ⟩
 rintro t6 _ xN ⟨rfl,q6⟩;refine F0 ?_ ?_<;>intro hf
 ·refine go ?_;refine zA (j2-1) ω ⟨rfl,WJ,ω,fun k h1 h2=> ?_⟩;by_cases e:k=j2
  ·rw[e];omega
  ·exact cU k ω h2
 refine F0 ?_ ?_<;>intro hg
 ·refine go ?_;refine VC 0 rfl rfl ?_;have d9:Wc (inC (zB 0 h4)) v ws:=(s4.own).sl;refine WU ?_;refine VQ (j2) (a) (s4).own (s4).ext (by rw[(s4).ext.mark];exact bp) ?_;intro h3 e3 o3 u3;have s3:=s4.swp e3 o3 u3 h0 hb ω ω;refine gr ?_;refine⟨_,_,_,rfl,s3,ω,fun k h1 h2=> ?_,fun k h1 h2=> ?_⟩
  ·rw[yo ω ω ω,yo ω ω ω];by_cases e:k=a
   ·rw[QJ e,QC ω,QJ rfl];have:=dE j2 ω ω;omega
   ·rw[QC e,QC ω,QC ω,QJ rfl];have:=dE k ω ω;omega
  ·rw[yo ω ω ω,yo ω ω ω];rw[QC (by omega:¬k=a),QC (by omega:¬k=j2)];have:=cU k ω ω;by_cases e:j2=a
   ·rw[QJ e,e];exact this
   ·rw[QC e,QJ rfl];exact this
 refine go ?_;refine VC 0 rfl rfl ?_;have d9:Wc (inC (zB 0 h4)) v ws:=(s4.own).sl;refine WU ?_;refine VQ (i2) (j2) (s4).own (s4).ext (by rw[(s4).ext.mark];exact bp) ?_;intro h3 e3 o3 u3;have s3:=s4.swp e3 o3 u3 h0 hb ω ω;have cN:¬WZ ws i2<WZ ws a:=fun hh=>he ⟨ω,hh⟩;have ez:WZ ws j2<WZ ws a:=Int.not_le.1 fun hh=>hf ⟨ω,hh⟩;have jy:i2≠j2:=fun e=>by subst e;exact cN ez
 have ea:WZ (swp ws i2 j2) a=WZ ws a:=by rw[yo ω ω ω,QC ω,QC ω]
 refine go ?_;refine zA (swp ws i2 j2,i2+1,j2-1) (by simp only;omega) ⟨s3,WJ,WJ,by simp only;omega,fun k h1 h2=> ?_,fun k h1 h2=> ?_⟩
 ·simp only at h2 |-;rw[ea,yo ω ω ω,QC ω];by_cases e:k=i2
  ·rw[QJ e];exact ez
  ·rw[QC e];exact dE k h1 ω
 ·simp only at h1 |-;rw[ea,yo ω ω ω];by_cases e:k=j2
  ·rw[QJ e];omega
  ·rw[QC e,QC ω];exact cU k ω h2
def zIh(hB h:WA)(v:Value)(xs:List Int)(a b pv:Int)(e0:WH hB h)(bp:hB.mark<=hB.n)(o:Wq hB h v xs)(h0:0<=a)(hp:a<=pv/\pv<b)(hb:b<=xs.length)(hlen:xs.length<=1000000000):
  G0 225 [v,I a,I b,I pv] h fun r h'=>∃ ys m,r=I m/\SS hB h v a b xs ys h'/\(a+1<=m/\m<=b)/\(∀ k,a<=k->k<m->WZ ys k<=WZ xs pv)/\(∀ k,m<=k->k<b->WZ xs pv<WZ ys k):=by
 have s0:=Vb a b o e0;refine en ?_;refine VC 0 rfl rfl ?_;have d9:Wc (inC (zB 0 h)) v xs:=(o).sl;refine WU ?_;refine VQ (a) (pv) (s0).own (s0).ext (by rw[(s0).ext.mark];exact bp) ?_;intro h1 e1 o1 u1;have s1:=s0.swp e1 o1 u1 h0 hb ω ω;clear o1 e1 u1;have ha:WZ (swp xs a pv) a=WZ xs pv:=by
  rw[yo ω ω ω];by_cases e:a=pv
  ·rw[QJ e,e]
  ·rw[QC e,QJ rfl]
 generalize swp xs a pv=ys at s1 ha;generalize WZ xs pv=P at ha |-;have fw:=s1.len;refine go ?_;refine VD (fun x=>(x.2.2+1-x.2.1).toNat) (fun(x:List Int×Int×Int) t h4=>SS hB h v a b xs x.1 h4/\zC t 9=I x.2.1/\zC t 10=I x.2.2/\(a+1<=x.2.1/\x.2.1<=x.2.2+1/\x.2.2<=b-1)/\WZ x.1 a=P/\(∀ k,a<k->k<x.2.1->WZ x.1 k<=P)/\∀ k,x.2.2<k->k<b->P<WZ x.1 k) (ys,a+1,b-1) ?_ ?_
 ·exact⟨s1,WJ,WJ,by simp only;omega,ha,fun k h1 h2=>by simp only at h2;omega,fun k h1 h2=>by simp only at h1;omega⟩
 clear s1 ha fw;rintro⟨ws,p,q⟩ t h4 ab ⟨s4,s9,jn,uK,ha,au,cL⟩;simp only at s4 s9 jn uK ha au cL;have sy:=s4.len;refine go ?_;refine VD (fun i=>(b-i).toNat) (fun(i:Int) t h2=>h4=h2/\zC t 9=I i/\(p<=i/\i<=q+1)/\∀ k,a<k->k<i->WZ ws k<=P) p ?_ ?_
 ·exact⟨rfl,WJ,ω,au⟩
 rintro i2 t _ ab ⟨rfl,s9,hi,dE⟩;refine go ?_;refine VL (fun t h'=>h4=h'/\zC t 43=.bool (decide (i2<=q/\¬(WZ ws a<WZ ws i2)))) ?_ ?_
 ·refine VC 0 rfl rfl ?_;have d9:Wc (inC (zB 0 h4)) v ws:=(s4.own).sl;refine WU ?_;refine VI (fun hd=> ?_) (fun hd=> ?_)<;>simp only[DB]at hd<;>refine WU ?_
  ·refine VA (YC _ (WZ ws a) (WZ ws i2)) ?_;rintro _ _ ⟨rfl,rfl⟩;refine nQ ?_;refine WU ?_;exact zJ ⟨rfl,by rw[show decide (i2<=q/\¬(WZ ws a<WZ ws i2))= !decide (WZ ws a<WZ ws i2)from zDt hd];exact WJ⟩
  ·exact zJ ⟨rfl,by rw[show decide (i2<=q/\¬(WZ ws a<WZ ws i2))=false from QY (fun hh=>absurd hh.1 ω)];exact WJ⟩
 rintro t5 _ xM ⟨rfl,q5⟩;refine F0 ?_ ?_<;>intro he
 ·refine go ?_;refine zA (i2+1) ω ⟨rfl,WJ,ω,fun k h1 h2=> ?_⟩;by_cases e:k=i2
  ·rw[e];omega
  ·exact dE k h1 ω
 refine go ?_;refine VD (fun j=>(j+1-a).toNat) (fun(j:Int) t h2=>h4=h2/\zC t 10=I j/\(i2-1<=j/\j<=q)/\∀ k,j<k->k<b->P<WZ ws k) q ?_ ?_
 ·exact⟨rfl,WJ,ω,cL⟩
 rintro j2 t _ ab ⟨rfl,jn,hj,cU⟩;refine go ?_;refine VL (fun t h'=>h4=h'/\zC t 59=.bool (decide (i2<=j2/\(WZ ws a<WZ ws j2)))) ?_ ?_
 ·refine VC 0 rfl rfl ?_;have d9:Wc (inC (zB 0 h4)) v ws:=(s4.own).sl;refine WU ?_;refine VI (fun hd=> ?_) (fun hd=> ?_)<;>simp only[DB]at hd<;>refine WU ?_
  ·refine VA (YC _ (WZ ws a) (WZ ws j2)) ?_;rintro _ _ ⟨rfl,rfl⟩;refine nQ ?_;refine WU ?_;exact zJ ⟨rfl,by rw[show decide (i2<=j2/\(WZ ws a<WZ ws j2))=decide (WZ ws a<WZ ws j2)from zI1 hd];exact WJ⟩
  ·exact zJ ⟨rfl,by rw[show decide (i2<=j2/\(WZ ws a<WZ ws j2))=false from QY (fun hh=>absurd hh.1 ω)];exact WJ⟩
 rintro t6 _ xN ⟨rfl,q6⟩;refine F0 ?_ ?_<;>intro hf
 ·refine go ?_;refine zA (j2-1) ω ⟨rfl,WJ,ω,fun k h1 h2=> ?_⟩;by_cases e:k=j2
  ·rw[e];omega
  ·exact cU k ω h2
 refine F0 ?_ ?_<;>intro hg
 ·refine gr ?_;refine⟨_,_,rfl,s4,ω,fun k h1 h2=> ?_,fun k h1 h2=> ?_⟩
  ·by_cases e:k=a
   ·rw[e,ha];exact Q1 _
   ·exact dE k ω h2
  ·exact cU k ω h2
 have cN:P<WZ ws i2:=by
  rw[<-ha];exact Int.not_le.1 fun hh=>he ⟨ω,hh⟩
 have ez:WZ ws j2<=P:=by
  rw[<-ha];exact Int.not_lt.1 fun hh=>hf ⟨ω,hh⟩
 have jy:i2≠j2:=fun e=>by subst e;omega
 refine go ?_;refine VC 0 rfl rfl ?_;have d9:Wc (inC (zB 0 h4)) v ws:=(s4.own).sl;refine WU ?_;refine VQ (i2) (j2) (s4).own (s4).ext (by rw[(s4).ext.mark];exact bp) ?_;intro h3 e3 o3 u3;have s3:=s4.swp e3 o3 u3 h0 hb ω ω;refine go ?_;refine zA (swp ws i2 j2,i2+1,j2-1) (by simp only;omega) ⟨s3,WJ,WJ,by simp only;omega,?_,fun k h1 h2=> ?_,fun k h1 h2=> ?_⟩
 ·simp only;rw[yo ω ω ω,QC ω,QC ω];exact ha
 ·simp only at h2 |-;rw[yo ω ω ω,QC ω];by_cases e:k=i2
  ·rw[QJ e];exact ez
  ·rw[QC e];exact dE k h1 ω
 ·simp only at h1 |-;rw[yo ω ω ω];by_cases e:k=j2
  ·rw[QJ e];omega
  ·rw[QC e,QC ω];exact cU k ω h2
def zLt(hB h:WA)(v:Value)(xs:List Int)(a b:Int)(e0:WH hB h)(bp:hB.mark<=hB.n)(o:Wq hB h v xs)(h0:0<=a)(dJ:a<=b)(hb:b<=xs.length)(hlen:xs.length<=1000000000):
  G0 222 [v,I a,I b] h fun r h'=>∃ ys,SS hB h v a b xs ys h':=by
 have s0:=Vb a b o e0;refine en ?_;refine VD (fun x=>(x.2.2+1-x.2.1).toNat) (fun(x:List Int×Int×Int) t h4=>SS hB h v a b xs x.1 h4/\zC t 6=I x.2.1/\zC t 7=I x.2.2/\(a<=x.2.1/\x.2.2<=b-1)/\(x.2.1<=b/\a-1<=x.2.2)) (xs,a,b-1) ?_ ?_
 ·exact⟨s0,WJ,WJ,by simp only;omega,by simp only;omega⟩
 rintro⟨ws,p,q⟩ t h4 ab ⟨s4,s6,s7,uK,Dh⟩;simp only at s4 s6 s7 uK Dh;have sy:=s4.len;refine F0 ?_ ?_<;>intro he
 ·refine go ?_;refine VC 0 rfl rfl ?_;have d9:Wc (inC (zB 0 h4)) v ws:=(s4.own).sl;refine WU ?_;refine VQ (p) (q) (s4).own (s4).ext (by rw[(s4).ext.mark];exact bp) ?_;intro h3 e3 o3 u3;have s3:=s4.swp e3 o3 u3 h0 hb ω ω;refine go ?_;exact zA (swp ws p q,p+1,q-1) (by simp only;omega) ⟨s3,WJ,WJ,by simp only;omega,by simp only;omega⟩
 ·refine go ?_;refine BN ?_;exact⟨ws,s4⟩
end Go.Proofs.YtndffgfnndoifaaGreatDoor
