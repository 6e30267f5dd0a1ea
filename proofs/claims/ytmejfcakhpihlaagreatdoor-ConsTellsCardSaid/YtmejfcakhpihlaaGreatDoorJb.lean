/- Walks of functions, plain laws; proves no statement. -/
import Derived.Test.YtmejfcakhpihlaaGreatDoorJa
set_option linter.all false
set_option maxHeartbeats 4000000
set_option maxRecDepth 100000
namespace Go.Proofs.YtmejfcakhpihlaaGreatDoor
open Go.Am
theorem zE{α:Type}[Inhabited α]{l:List α}{i:Nat}(h:i<l.length):l.getD i default∈l:=by
 simp[List.getD,QB h]
theorem Zo{α:Type}[Inhabited α]{l:List α}{x:α}(h:x∈l):∃ i,i<l.length/\l.getD i default=x:=by
 obtain⟨i,hi,e⟩:=JD h;exact⟨i,hi,by simp[List.getD,QB hi,e]⟩
theorem zMa(h:WA)(v fv:Value)(l:List Wj)(p:Wj->Bool)(s:BB h v l)(hl:(l.length:Int)<=9223372036854775807)(hf:∀ x∈l,∀ h1,Ext h h1->∀ cs,W8 h1 cs x->WV Tryz.prog tb fv [.agg cs.toArray] h1 fun r h'=>r=.bool (p x)/\Ext h1 h'):
  WC Tryz.prog tb 174 [v,fv] h fun r h'=>(∃ n:Int,r=I n/\(decide (0<=n))=l.any p)/\Ext h h':=by
 refine en ?_;refine VD (fun i=>l.length-i) (fun i t h1=>Ext h h1/\zC t 8=I i/\i<=l.length/\∀ j,j<i->p (l.getD j default)=false) 0 ?_ ?_
 ·exact⟨Ext.refl h,WH,QK _,fun j hj=>absurd hj (Qk _)⟩
 rintro i t h1 ab ⟨e1,s8,hi,hm⟩;have s1:=BB.ext s e1;refine go ?_;refine VE (fun hb=> ?_) (fun hb=> ?_)<;>simp only[DB]at hb
 ·have ae:i<l.length:=by omega
  obtain⟨cs,bP,pc,hs⟩:=zq s1 ae;have xM:=hf _ (zE ae) h1 e1 cs bP;obtain⟨va,vf,rfl,hR⟩:=bP;refine go ?_;refine VQ xM ?_;rintro _ h2 ⟨rfl,e2⟩;refine go ?_;refine VE (fun hb=> ?_) (fun hb=> ?_)
  ·refine gr ?_;refine⟨⟨i,rfl,?_⟩,e1.trans e2⟩;rw[Gy.2 ⟨_,zE ae,hb⟩];simp
  ·refine go ?_;refine zA (i+1) (by omega) ⟨e1.trans e2,Wn,by omega,fun j hj=> ?_⟩;by_cases e:j=i
   ·subst e;exact hb
   ·exact hm j (by omega)
 ·refine gr ?_;refine⟨⟨-1,rfl,?_⟩,e1⟩;rw[YW fun x hx=>by obtain⟨j,hj,rfl⟩:=Zo hx;exact hm j (by omega)];rfl
theorem zMb(h:WA)(v fv:Value)(l:List Wj)(p:Wj->Bool)(s:BB h v l)(hl:(l.length:Int)<=9223372036854775807)(hf:∀ x∈l,∀ h1,Ext h h1->∀ cs,W8 h1 cs x->WV Tryz.prog tb fv [.agg cs.toArray] h1 fun r h'=>r=.bool (p x)/\Ext h1 h'):
  WC Tryz.prog tb 115 [v,fv] h fun r h'=>r=.bool (l.any p)/\Ext h h':=by
 refine en ?_;refine VA (zMa h v fv l p s hl hf) ?_;rintro _ h1 ⟨⟨n,rfl,e⟩,e1⟩;refine gr ?_;exact⟨by rw[<-e];rfl,e1⟩
theorem zMZ(h:WA)(v fv:Value)(l:List Wc)(p:Wc->Bool)(s:Wv h v l)(hl:(l.length:Int)<=9223372036854775807)(hf:∀ x∈l,∀ h1,Ext h h1->∀ cs,Bc h1 cs x->WV Tryz.prog tb fv [.agg cs.toArray] h1 fun r h'=>r=.bool (p x)/\Ext h1 h'):
  WC Tryz.prog tb 173 [v,fv] h fun r h'=>(∃ n:Int,r=I n/\(decide (0<=n))=l.any p)/\Ext h h':=by
 refine en ?_;refine VD (fun i=>l.length-i) (fun i t h1=>Ext h h1/\zC t 8=I i/\i<=l.length/\∀ j,j<i->p (l.getD j default)=false) 0 ?_ ?_
 ·exact⟨Ext.refl h,WH,QK _,fun j hj=>absurd hj (Qk _)⟩
 rintro i t h1 ab ⟨e1,s8,hi,hm⟩;have s1:=Wv.ext s e1;refine go ?_;refine VE (fun hb=> ?_) (fun hb=> ?_)<;>simp only[DB]at hb
 ·have ae:i<l.length:=by omega
  obtain⟨cs,bP,pc,hs⟩:=zq s1 ae;have xM:=hf _ (zE ae) h1 e1 cs bP;obtain⟨va,rfl,hR⟩:=bP;refine go ?_;refine VQ xM ?_;rintro _ h2 ⟨rfl,e2⟩;refine go ?_;refine VE (fun hb=> ?_) (fun hb=> ?_)
  ·refine gr ?_;refine⟨⟨i,rfl,?_⟩,e1.trans e2⟩;rw[Gy.2 ⟨_,zE ae,hb⟩];simp
  ·refine go ?_;refine zA (i+1) (by omega) ⟨e1.trans e2,Wn,by omega,fun j hj=> ?_⟩;by_cases e:j=i
   ·subst e;exact hb
   ·exact hm j (by omega)
 ·refine gr ?_;refine⟨⟨-1,rfl,?_⟩,e1⟩;rw[YW fun x hx=>by obtain⟨j,hj,rfl⟩:=Zo hx;exact hm j (by omega)];rfl
theorem zNB(h:WA)(v fv:Value)(l:List Wc)(p:Wc->Bool)(s:Wv h v l)(hl:(l.length:Int)<=9223372036854775807)(hf:∀ x∈l,∀ h1,Ext h h1->∀ cs,Bc h1 cs x->WV Tryz.prog tb fv [.agg cs.toArray] h1 fun r h'=>r=.bool (p x)/\Ext h1 h'):
  WC Tryz.prog tb 113 [v,fv] h fun r h'=>r=.bool (l.any p)/\Ext h h':=by
 refine en ?_;refine VA (zMZ h v fv l p s hl hf) ?_;rintro _ h1 ⟨⟨n,rfl,e⟩,e1⟩;refine gr ?_;exact⟨by rw[<-e];rfl,e1⟩
theorem zPY(h:WA)(v fv:Value)(l:List Wa)(p:Wa->Bool)(s:Wo h v l)(hl:(l.length:Int)<=9223372036854775807)(hf:∀ x∈l,∀ h1,Ext h h1->∀ cs,RFn h1 cs x->WV Tryz.prog tb fv [.agg cs.toArray] h1 fun r h'=>r=.bool (p x)/\Ext h1 h'):
  WC Tryz.prog tb 110 [v,fv] h fun r h'=>(∃ n:Int,r=I n/\(decide (0<=n))=l.any p)/\Ext h h':=by
 refine en ?_;refine VD (fun i=>l.length-i) (fun i t h1=>Ext h h1/\zC t 8=I i/\i<=l.length/\∀ j,j<i->p (l.getD j default)=false) 0 ?_ ?_
 ·exact⟨Ext.refl h,WH,QK _,fun j hj=>absurd hj (Qk _)⟩
 rintro i t h1 ab ⟨e1,s8,hi,hm⟩;have s1:=Wo.ext s e1;refine go ?_;refine VE (fun hb=> ?_) (fun hb=> ?_)<;>simp only[DB]at hb
 ·have ae:i<l.length:=by omega
  obtain⟨cs,bP,pc,hs⟩:=zq s1 ae;have xM:=hf _ (zE ae) h1 e1 cs bP;obtain⟨va,rfl,hR⟩:=bP;refine go ?_;refine VQ xM ?_;rintro _ h2 ⟨rfl,e2⟩;refine go ?_;refine VE (fun hb=> ?_) (fun hb=> ?_)
  ·refine gr ?_;refine⟨⟨i,rfl,?_⟩,e1.trans e2⟩;rw[Gy.2 ⟨_,zE ae,hb⟩];simp
  ·refine go ?_;refine zA (i+1) (by omega) ⟨e1.trans e2,Wn,by omega,fun j hj=> ?_⟩;by_cases e:j=i
   ·subst e;exact hb
   ·exact hm j (by omega)
 ·refine gr ?_;refine⟨⟨-1,rfl,?_⟩,e1⟩;rw[YW fun x hx=>by obtain⟨j,hj,rfl⟩:=Zo hx;exact hm j (by omega)];rfl
theorem zOW(h:WA)(v fv:Value)(l:List Wa)(p:Wa->Bool)(s:Wo h v l)(hl:(l.length:Int)<=9223372036854775807)(hf:∀ x∈l,∀ h1,Ext h h1->∀ cs,RFn h1 cs x->WV Tryz.prog tb fv [.agg cs.toArray] h1 fun r h'=>r=.bool (p x)/\Ext h1 h'):
  WC Tryz.prog tb 72 [v,fv] h fun r h'=>r=.bool (l.any p)/\Ext h h':=by
 refine en ?_;refine VA (zPY h v fv l p s hl hf) ?_;rintro _ h1 ⟨⟨n,rfl,e⟩,e1⟩;refine gr ?_;exact⟨by rw[<-e];rfl,e1⟩
end Go.Proofs.YtmejfcakhpihlaaGreatDoor
set_option maxRecDepth 100000
namespace Go.Proofs.YtmejfcakhpihlaaGreatDoor
open Go.Am
abbrev szV(s:By):List Value:=[I s.types,I s.funcs,I s.aG,I s.blocks]
theorem zQp(h h0:WA)(p:Value)(x:Wj)(s:By)(cs:List Value)(T:Br h)(hR:W8 h cs x)(o:WB h0 h p (szV s)):
  WC Tryz.prog tb 111 [.agg cs.toArray,p] h fun r h'=>r=.bool (!B2 x s)/\Ext h h':=by
 obtain⟨va,vf,rfl,sa,sf,br,dZ,ho⟩:=hR;refine en ?_;refine VF ?_;intro p2 h1 e1 o1;have o:=o.ext e1;refine go ?_;refine VA (zQT h1 x va vf s (T.ext e1) (sa.ext e1) (sf.ext e1) (by omega) (by omega) ho) ?_;rintro _ h2 ⟨rfl,e2⟩;refine gr ?_;exact⟨rfl,e1.trans e2⟩
theorem zQO(h h0 kP:WA)(p1 p2:Value)(b:Wc)(s:By)(cs:List Value)(T:Br h)(hR:Bc h cs b)(o1:WB h0 h p1 [.func (.func 111) #[] #[p2]])(o2:WB kP h p2 (szV s)):
  WC Tryz.prog tb 114 [.agg cs.toArray,p1,p2] h fun r h'=>r=.bool (Yv b s)/\Ext h h':=by
 obtain⟨vi,rfl,si,hl⟩:=hR;refine en ?_;refine VF ?_;intro p3 h1 e1 o3;have o1:=o1.ext e1;have o2:=o2.ext e1;have T1:=T.ext e1;refine go ?_;refine VA (zMb h1 vi _ b.ins (fun x=> !B2 x s) (BB.ext si e1) (by omega) ?_) ?_
 ·intro x hx h2 e2 cs bP;exact WV.func (zQp h2 kP p2 x s cs (T1.ext e2) bP (o2.ext e2))
 rintro _ h2 ⟨rfl,e2⟩;have o3:=o3.ext e2;have o2:=o2.ext e2;refine go ?_;refine VJ (fun hb=> ?_) (fun hb=> ?_)<;>refine go ?_
 ·refine rt ?_;exact⟨by simp only[Yv,hb,Q3];rfl,e1.trans e2⟩
 ·refine VA (zQJ h2 b.fin s) ?_;rintro _ h3 ⟨rfl,e3⟩;refine gr ?_;exact⟨by simp only[Yv,hb,Q0];rfl,(e1.trans e2).trans e3⟩
theorem Y2(l:List Wc):0<=zJ l:=by
 unfold zJ;induction l with
 |nil=>simp
 |cons b l ih=>simp only[Qm,JE];omega
theorem zQ9(h:WA)(vt vf vb:Value)(T:List WE)(F:List Wa)(f:Wa)(tt:Br h)(hm:h.mark<=h.n)(st:Wu h vt T)(sf:Wo h vf F)(sb:Wv h vb f.blocks)(hT:T.length<=100)(hp:∀ x∈T,x.parts.length<=100)(hF:(F.length:Int)<=9223372036854775807)(hB:f.blocks.length<=1000)(hI:∀ b∈f.blocks,b.ins.length<=1000):
  WC Tryz.prog tb 74 [.agg #[vt,vf],.agg #[I f.sig,vb]] h fun r h'=>r=.bool (BW T F.length f)/\Ext h h':=by
 refine en ?_;refine VF ?_;intro p2 h1 e1 o1;refine VF ?_;intro p3 h2 e2 o2;have o1:=o1.ext e2;have az:=e1.trans e2;have bC:=st.ext az;have cW:=Wo.ext sf az;have th:=Wv.ext sb az;have Fh:=tt.ext az;have cS:h2.mark<=h2.n:=by have:=az.mark;have:=az.n;omega
 have bQ:B6 T f=B6 T f:=rfl;conv at bQ=>rhs;unfold B6
 refine go ?_;refine VA (Zg h2 f.sig T.length) ?_;rintro _ _ ⟨rfl,rfl⟩;refine go ?_;refine VJ (fun hb=> ?_) (fun hb=> ?_)<;>simp only[DB]at hb<;>refine go ?_
 ·refine rt ?_;refine⟨?_,az⟩;rw[BW,QF (show B6 T f=true by rw[bQ,hb];rfl)];rfl
 have bH:0<=f.sig/\f.sig<(T.length:Int):=by
  unfold zd at hb;simpa using hb
 obtain⟨kQ,⟨vp,rfl,sp,fq⟩,dR,mh⟩:=yM (i:=f.sig.toNat) bC (by omega);have EW:(T.getD f.sig.toNat default).parts.length<=100:=hp _ (zE (by omega));refine go ?_;refine VJ (fun hc=> ?_) (fun hc=> ?_)<;>simp only[DB]at hc<;>refine go ?_
 ·refine rt ?_;refine⟨?_,az⟩;rw[BW,QF (show B6 T f=true by rw[bQ,hb,QY hc];rfl)];rfl
 refine VA (Zg h2 ((f.blocks.length:Int)-1) 16) ?_;rintro _ _ ⟨rfl,rfl⟩;refine go ?_;refine VJ (fun hd=> ?_) (fun hd=> ?_)<;>simp only[DB]at hd<;>refine go ?_
 ·refine rt ?_;refine⟨?_,az⟩;rw[BW,QF (show B6 T f=true by rw[bQ,hb,Qc hc,hd];rfl)];rfl
 refine VA (zGd h2 f.sig vb f.blocks th hB hI) ?_;rintro _ h3 ⟨rfl,e3⟩;have dk:=az.trans e3;have o1:=o1.ext e3;have o2:=o2.ext e3;have gS:=bC.ext e3;have gT:=Wo.ext cW e3;have nR:=Wv.ext th e3;have NS:=Fh.ext e3;have mi:h3.mark<=h3.n:=by have:=e3.mark;have:=e3.n;omega
 refine go ?_;refine VE (fun he=> ?_) (fun he=> ?_)<;>simp only[DB]at he<;>refine go ?_
 ·refine rt ?_;refine⟨?_,dk⟩;rw[BW,QF (show B6 T f=true by rw[bQ,hb,Qc hc,hd,Qc he];rfl)];rfl
 refine goC ?_;have jB:B6 T f=false:=by rw[bQ,hb,Qc hc,hd,QY (by omega)];rfl
 obtain⟨a',n',k',rfl⟩:=zD gS;clear bQ hb hd dR;refine VC 1 rfl rfl ?_;have e4:=zH 1 h3;generalize iW:zB 1 h3=h4 at *;have Kp:h4.n=h3.n+1:=by rw[<-iW];rfl
 have NT:WB h (inC h4) p2 [.slice a' n' k',vf]:=by have:=o1.ext e4;exact this
 have NU:WB h1 (inC h4) p3 [I f.sig,vb]:=by have:=o2.ext e4;exact this
 have str:Wu (inC h4) (.slice a' n' k') T:=by have:=gS.ext e4;exact this
 have mj:Wo (inC h4) vf F:=by have:=Wo.ext gT e4;exact this
 have Kq:Wv (inC h4) vb f.blocks:=by have:=Wv.ext nR e4;exact this
 obtain⟨csr,⟨vpr,rfl,Kr,NV⟩,pcr,jO⟩:=yM (i:=f.sig.toNat) str (by omega);refine WJ ?_;refine VA (zGd (inC h4) f.sig vb f.blocks Kq hB hI) ?_;rintro _ h5 ⟨rfl,e5⟩;refine WO.nil ?_;refine zPz e5 rfl ?_;have o1s:WB h (inC h5) p2 [.slice a' n' k',vf]:=by have:=NT.ext e5;exact this
 have o2s:WB h1 (inC h5) p3 [I f.sig,vb]:=by have:=NU.ext e5;exact this
 have Ks:Wv (inC h5) vb f.blocks:=by have:=Wv.ext Kq e5;exact this
 have ml:=Y2 f.blocks;refine WJ ?_;refine zCt o2 (by omega) ?_;refine WJ ?_;have Kt:h3.n<h5.n:=by have:h4.n<=h5.n:=e5.n;omega
 refine XL mi Kt ?_;rw[<-iW]at e5;have e6:=zIW (o:= .row [I 0,I 0,I 0,I 0] true 0) (o':= .row [I (T.length:Int),I (F.length:Int),I (((T.getD f.sig.toNat default).parts.length:Int)+zJ f.blocks),I (f.blocks.length:Int)] true 0) (k:=0) e5;have o5:=zHP (cs:=[I (T.length:Int),I (F.length:Int),I (((T.getD f.sig.toNat default).parts.length:Int)+zJ f.blocks),I (f.blocks.length:Int)]) (o:= .row [I 0,I 0,I 0,I 0] true 0) e5;unfold Bt;refine(?_:∀ h6,Ext h3 h6->WB h3 h6 (.pointer (some ⟨h3.n,0,none⟩)) (szV (B0 T F.length f))->zEY _ _ _ _ _ _ h6) _ e6 o5;clear e6 o5;intro h6 e6 o5;generalize Value.pointer (some ⟨h3.n,0,none⟩)=p5 at *;have o2:=o2.ext e6;have xN:=Wv.ext nR e6;have NW:=NS.ext e6;have gG:=dk.trans e6;refine go ?_;refine WO.al ?_;intro p6 h7 e7 o6;refine VH o6 e7 ?_;intro h8 e8 o6 _;have o2:=o2.ext e8;have o5:=o5.ext e8;have NX:=Wv.ext xN e8;have NY:=NW.ext e8;refine go ?_;refine VA (zNB h8 vb _ f.blocks (fun b=>Yv b (B0 T F.length f)) NX (by omega) ?_) ?_
 ·intro b hb h9 e9 cs bP;exact WV.func (zQO h9 h6 h3 p6 p5 b (B0 T F.length f) cs (NY.ext e9) bP (o6.ext e9) (o5.ext e9))
 rintro _ h9 ⟨rfl,e9⟩;refine gr ?_;exact⟨by rw[BW,QC (by rw[jB];exact Bool.noConfusion)];rfl,(gG.trans e8).trans e9⟩
end Go.Proofs.YtmejfcakhpihlaaGreatDoor
set_option maxRecDepth 100000
namespace Go.Proofs.YtmejfcakhpihlaaGreatDoor
open Go.Am
theorem zp{h h':WA}(e:Ext h h')(hm:h.mark<=h.n):h'.mark<=h'.n:=by have:=e.mark;have:=e.n;omega
theorem zO8(h h0:WA)(p vt vf:Value)(T:List WE)(F:List Wa)(f:Wa)(cs:List Value)(tt:Br h)(hm:h.mark<=h.n)(sm:BC T F)(hf:f∈F)(st:Wu h vt T)(sf:Wo h vf F)(hR:RFn h cs f)(o:WB h0 h p [vt,vf]):
  WC Tryz.prog tb 73 [.agg cs.toArray,p] h fun r h'=>r=.bool (!BW T F.length f)/\Ext h h':=by
 obtain⟨vb,rfl,sb,hl⟩:=hR;refine en ?_;refine VF ?_;intro p2 h1 e1 o1;have o:=o.ext e1;refine go ?_;refine VA (zQ9 h1 vt vf vb T F f (tt.ext e1) (zp e1 hm) (st.ext e1) (Wo.ext sf e1) (Wv.ext sb e1) sm.types sm.parts (by have:=sm.funcs;omega) (sm.blocks f hf) (sm.ins f hf)) ?_;rintro _ h2 ⟨rfl,e2⟩;refine gr ?_;exact⟨rfl,e1.trans e2⟩
theorem zKf(h:WA)(vt vf:Value)(T:List WE)(F:List Wa)(tt:Br h)(hm:h.mark<=h.n)(sm:BC T F)(st:Wu h vt T)(sf:Wo h vf F):
  WC Tryz.prog tb 37 [.agg #[vt,vf]] h fun r h'=>r=I (ZE T F)/\Ext h h':=by
 refine en ?_;refine VF ?_;intro p h1 e1 o1;have bL:=st.ext e1;refine go ?_;refine VA (zHU h1 vt T bL sm.types sm.parts) ?_;rintro _ h2 ⟨rfl,e2⟩;have az:=e1.trans e2;have o1:=o1.ext e2;have bC:=bL.ext e2;have cW:=Wo.ext sf az;have Fh:=tt.ext az;have hF:=sm.funcs;refine go ?_;refine VE (fun hb=> ?_) (fun hb=> ?_)<;>simp only[DB]at hb<;>refine go ?_
 ·refine rt ?_;exact⟨by rw[ZE,QF hb];rfl,az⟩
 refine VA (Zg h2 ((F.length:Int)-1) 8) ?_;rintro _ _ ⟨rfl,rfl⟩;refine go ?_;refine VJ (fun hc=> ?_) (fun hc=> ?_)<;>simp only[DB]at hc<;>refine go ?_
 ·refine rt ?_;exact⟨by rw[ZE,QC (by omega),hc];simp[one],az⟩
 refine VA (zOW h2 vf _ F (fun f=> !BW T F.length f) cW (by omega) ?_) ?_
 ·intro f hf h3 e3 cs bP;exact WV.func (zO8 h3 h p vt vf T F f cs (Fh.ext e3) (zp (az.trans e3) hm) sm hf (bC.ext e3) (Wo.ext cW e3) bP (o1.ext e3))
 rintro _ h3 ⟨rfl,e3⟩;refine go ?_;refine VE (fun hd=> ?_) (fun hd=> ?_)<;>refine go ?_<;>refine rt ?_<;>refine⟨?_,az.trans e3⟩<;>rw[ZE,QC (by omega),hc,hd]
 ·simp[one]
 ·simp[one]
theorem yN{T:List WE}{F:List Wa}(h:ZE T F=0):yS T=0/\1<=F.length/\F.length<=8/\∀ f∈F,BW T F.length f=true:=by
 unfold ZE at h;split at h
 ·rename_i hc;exact absurd h hc
 ·rename_i hc;split at h
  ·cases h
  ·rename_i hd;simp only[GN,not_or,JH,Bool.not_eq_false']at hd;have h1:zd ((F.length:Int)-1) 8=true:=by simpa using hd.1
   unfold zd at h1;simp only[QN,Qd]at h1;refine⟨by omega,by omega,by omega,fun f hf=> ?_⟩;have:=Gx.1 hd.2 f hf;simpa using this
theorem zEX{T:List WE}{n:Int}{f:Wa}(h:BW T n f=true):0<=f.sig/\f.sig<(T.length:Int):=by
 unfold BW at h;split at h
 ·cases h
 ·rename_i hb;unfold B6 at hb;simp only[GN,not_or,JH,Bool.not_eq_false']at hb;have h1:zd f.sig T.length=true:=by simpa using hb.1.1.1
  unfold zd at h1;simpa using h1
theorem zNA(h:WA)(vt vf:Value)(T:List WE)(F:List Wa)(f:Int)(tt:Br h)(hm:h.mark<=h.n)(sm:BC T F)(st:Wu h vt T)(sf:Wo h vf F):
  WC Tryz.prog tb 40 [.agg #[vt,vf],I f] h fun r h'=>r=.tuple #[I (yL T F f).1,I (yL T F f).2]/\Ext h h':=by
 refine en ?_;refine VF ?_;intro p h1 e1 o1;refine go ?_;refine VA (zKf h1 vt vf T F (tt.ext e1) (zp e1 hm) sm (st.ext e1) (Wo.ext sf e1)) ?_;rintro _ h2 ⟨rfl,e2⟩;have az:=e1.trans e2;have o1:=o1.ext e2;have bC:=st.ext az;have cW:=Wo.ext sf az;have hF:=sm.funcs;refine go ?_;refine VE (fun hb=> ?_) (fun hb=> ?_)<;>simp only[DB]at hb<;>refine go ?_
 ·refine rt ?_;exact⟨by rw[yL,QF hb];rfl,az⟩
 have hb:ZE T F=0:=by omega
 refine VA (Zg h2 f F.length) ?_;rintro _ _ ⟨rfl,rfl⟩;refine go ?_;refine VE (fun hc=> ?_) (fun hc=> ?_)<;>simp only[DB]at hc<;>refine go ?_
 ·refine rt ?_;exact⟨by rw[yL,QC (by omega),hc,QC (by exact Bool.noConfusion)];rfl,az⟩
 have hf:0<=f/\f<(F.length:Int):=by unfold zd at hc;simpa using hc
 obtain⟨iX,⟨vb,rfl,sb,cD⟩,fb,iB⟩:=zq (i:=f.toNat) cW (by omega);have bH:=zEX ((yN hb).2.2.2 _ (zE (l:=F) (i:=f.toNat) (by omega)));obtain⟨kQ,⟨vp,rfl,sp,fq⟩,dR,mh⟩:=yM (i:=(F.getD f.toNat default).sig.toNat) bC (by omega);refine gr ?_;exact⟨by rw[yL,QC (by omega),hc,QF rfl];rfl,az⟩
theorem zKW(h:WA)(vt vf:Value)(T:List WE)(F:List Wa)(f:Int)(tt:Br h)(hm:h.mark<=h.n)(sm:BC T F)(st:Wu h vt T)(sf:Wo h vf F):
  WC Tryz.prog tb 17 [.agg #[vt,vf],I f] h fun r h'=>r=.tuple #[I (Y9 T F f).1,I (Y9 T F f).2]/\Ext h h':=by
 refine en ?_;refine VF ?_;intro p h1 e1 o1;refine go ?_;refine VA (zNA h1 vt vf T F f (tt.ext e1) (zp e1 hm) sm (st.ext e1) (Wo.ext sf e1)) ?_;rintro _ h2 ⟨rfl,e2⟩;have az:=e1.trans e2;have o1:=o1.ext e2;have cW:=Wo.ext sf az;have hF:=sm.funcs;refine go ?_;refine VE (fun hb=> ?_) (fun hb=> ?_)<;>simp only[DB]at hb<;>refine go ?_
 ·refine rt ?_;exact⟨by rw[Y9,QF hb];rfl,az⟩
 have aI:(yL T F f).2=0:=by omega
 have ah:0<=f/\f<(F.length:Int)/\ZE T F=0:=by
  unfold yL at aI;split at aI
  ·rename_i hp;exact absurd aI hp
  ·rename_i hp;split at aI
   ·rename_i hc;unfold zd at hc;simp at hc;exact⟨hc.1,hc.2,by omega⟩
   ·cases aI
 obtain⟨iX,⟨vb,rfl,sb,cD⟩,fb,iB⟩:=zq (i:=f.toNat) cW (by omega);have aw:=zE (l:=F) (i:=f.toNat) (by omega);refine go ?_;refine VA (zGd h2 _ vb _ sb (sm.blocks _ aw) (sm.ins _ aw)) ?_;rintro _ h3 ⟨rfl,e3⟩;have hfn:=(yN ah.2.2).2.2.2 _ aw;have gx:zJ (F.getD f.toNat default).blocks<=128:=by
  unfold BW at hfn;split at hfn
  ·cases hfn
  ·rename_i bQ;unfold B6 at bQ;simp only[GN,not_or,JH,Gk]at bQ;omega
 have cC:=Y2 (F.getD f.toNat default).blocks;have hn:0<=(yL T F f).1/\(yL T F f).1<=100:=by
  unfold yL;split
  ·simp
  ·split
   ·have hs:=zEX hfn;have:=sm.parts _ (zE (l:=T) (i:=(F.getD f.toNat default).sig.toNat) (by omega));simp only;omega
   ·simp
 refine gr ?_;exact⟨by rw[Y9,QC (by omega)];rfl,az.trans e3⟩
end Go.Proofs.YtmejfcakhpihlaaGreatDoor
set_option maxRecDepth 100000
namespace Go.Proofs.YtmejfcakhpihlaaGreatDoor
open Go.Am
theorem zLT(h:WA)(vt:Value)(T:List WE)(st:Wu h vt T)(hT:(T.length:Int)<=9223372036854775807):
  WC Tryz.prog tb 22 [vt] h fun r h'=>(r=.bool true\/r=.bool false/\T.length<=20/\∀ x∈T,x.parts.length<=20)/\h=h':=by
 refine en ?_;refine VD (fun i=>T.length-i) (fun i t h1=>h=h1/\zC t 3=I i/\i<=T.length/\∀ j,j<i->(T.getD j default).parts.length<=20) 0 ?_ ?_
 ·exact⟨rfl,WH,QK _,fun j hj=>absurd hj (Qk _)⟩
 rintro i t _ ab ⟨rfl,s3,hi,hm⟩;have fin:(20<(T.length:Int))\/(i=T.length/\T.length<=20)\/i<T.length:=by omega
 refine go ?_;refine VJ (fun hb=> ?_) (fun hb=> ?_)<;>simp only[DB]at hb<;>refine go ?_
 ·obtain⟨cs,⟨va,rfl,sa,br⟩,pc,hs⟩:=yM st (show i<T.length by omega);refine VE (fun hc=> ?_) (fun hc=> ?_)<;>simp only[DB]at hc
  ·refine go ?_;refine VE (fun hd=> ?_) (fun hd=> ?_)<;>simp only[DB]at hd
   ·refine gr ?_;exact⟨.inl rfl,rfl⟩
   ·refine go ?_;refine zA (i+1) (by omega) ⟨rfl,Wn,by omega,fun j hj=> ?_⟩;by_cases e:j=i
    ·subst e;omega
    ·exact hm j (by omega)
  ·refine gr ?_;refine⟨.inl ?_,rfl⟩;rw[Qc (show(20:Int)<T.length by omega)];rfl
 ·refine rt ?_;refine⟨?_,rfl⟩;by_cases hg:20<(T.length:Int)
  ·left;rw[Qc hg];rfl
  ·right;refine⟨by rw[QY hg];rfl,by omega,fun x hx=> ?_⟩;obtain⟨j,hj,rfl⟩:=Zo hx;exact hm j (by omega)
def zEw(F:List Wa):Prop:=∀ f∈F,∀ b∈f.blocks,∀ x∈b.ins,x.args.length<=20/\x.frm.length<=20
theorem zL7{T:List WE}{F:List Wa}(h1:T.length<=20)(h2:∀ x∈T,x.parts.length<=20)(h3:F.length<=10)(h4:∀ f∈F,f.blocks.length<=20/\∀ b∈f.blocks,b.ins.length<=1000):BC T F:=
 ⟨by omega,fun x hx=>by have:=h2 x hx;omega,by omega,fun f hf=>by have:=(h4 f hf).1;omega,fun f hf=>(h4 f hf).2⟩
theorem zLf(h:WA)(vt vf:Value)(T:List WE)(F:List Wa)(mn:Int)(Ku:0<=mn/\mn<=1000)(st:Wu h vt T)(sf:Wo h vf F)(hT:(T.length:Int)<=9223372036854775807)(hF:(F.length:Int)<=9223372036854775807):
  WC Tryz.prog tb 8 [.agg #[vt,vf],I mn] h fun r h'=>(r=.bool true\/r=.bool false/\BC T F/\zEw F)/\Ext h h':=by
 refine en ?_;refine VF ?_;intro p h1 e1 o1;have bL:=st.ext e1;have fV:=Wo.ext sf e1;refine go ?_;refine VA (zLT h1 vt T bL hT) ?_;rintro r _ ⟨hr,rfl⟩;refine go ?_;rcases hr with rfl|⟨rfl,NZ,cU⟩
 ·refine gr ?_;exact⟨.inl rfl,e1⟩
 refine go ?_;refine VE (fun hb=> ?_) (fun hb=> ?_)<;>simp only[DB]at hb<;>refine go ?_
 ·refine rt ?_;exact⟨.inl rfl,e1⟩
 refine VD (fun i=>F.length-i) (fun i t h2=>h1=h2/\zC t 6=I i/\i<=F.length/\(∃ n,zC t 5=I n/\0<=n/\n<=mn)/\∀ j,j<i->(F.getD j default).blocks.length<=20/\∀ b∈(F.getD j default).blocks,b.ins.length<=1000/\∀ x∈b.ins,x.args.length<=20/\x.frm.length<=20) 0 ?_ ?_
 ·exact⟨rfl,WH,QK _,⟨0,WH,by omega,by omega⟩,fun j hj=>absurd hj (Qk _)⟩
 rintro i t _ ab ⟨rfl,s6,hi,⟨n,s5,kz,hn⟩,hm⟩;refine go ?_;refine VE (fun hc=> ?_) (fun hc=> ?_)<;>simp only[DB]at hc
 ·have ae:i<F.length:=by omega
  obtain⟨iX,⟨vb,rfl,sb,cD⟩,fb,iB⟩:=zq fV ae;refine go ?_;refine VE (fun hd=> ?_) (fun hd=> ?_)<;>simp only[DB]at hd<;>refine go ?_
  ·refine rt ?_;exact⟨.inl rfl,e1⟩
  refine VD (fun k=>(F.getD i default).blocks.length-k) (fun k t h2=>h1=h2/\zC t 7=I k/\k<=(F.getD i default).blocks.length/\(∃ n,zC t 5=I n/\0<=n/\n<=mn)/\∀ j,j<k->((F.getD i default).blocks.getD j default).ins.length<=1000/\∀ x∈((F.getD i default).blocks.getD j default).ins,x.args.length<=20/\x.frm.length<=20) 0 ?_ ?_
  ·exact⟨rfl,WH,QK _,⟨n,WH,kz,hn⟩,fun j hj=>absurd hj (Qk _)⟩
  rintro k t2 _ aZ ⟨rfl,s7,hk,⟨n2,s5b,Fi,ez⟩,cS⟩;refine go ?_;refine VE (fun he=> ?_) (fun he=> ?_)<;>simp only[DB]at he
  ·have bK:k<(F.getD i default).blocks.length:=by omega
   obtain⟨pE,⟨vi,rfl,si,fc⟩,kR,mo⟩:=zq sb bK;refine go ?_;refine VE (fun hf=> ?_) (fun hf=> ?_)<;>simp only[DB]at hf<;>refine go ?_
   ·refine rt ?_;exact⟨.inl rfl,e1⟩
   refine VD (fun j=>((F.getD i default).blocks.getD k default).ins.length-j) (fun j t h2=>h1=h2/\zC t 9=I j/\j<=((F.getD i default).blocks.getD k default).ins.length/\∀ q,q<j->(((F.getD i default).blocks.getD k default).ins.getD q default).args.length<=20/\(((F.getD i default).blocks.getD k default).ins.getD q default).frm.length<=20) 0 ?_ ?_
   ·exact⟨rfl,WH,QK _,fun q hq=>absurd hq (Qk _)⟩
   rintro j t3 _ cN ⟨rfl,s9,hj,Kv⟩;refine go ?_;refine VE (fun hg=> ?_) (fun hg=> ?_)<;>simp only[DB]at hg
   ·have fD:j<((F.getD i default).blocks.getD k default).ins.length:=by omega
    obtain⟨N1,⟨va,xO,rfl,sa,mj,br,dZ,ho⟩,N2,Fj⟩:=zq si fD;refine go ?_;refine VJ (fun hh=> ?_) (fun hh=> ?_)<;>simp only[DB]at hh<;>refine go ?_
    ·refine rt ?_;exact⟨.inl rfl,e1⟩
    refine VE (fun gU=> ?_) (fun gU=> ?_)<;>simp only[DB]at gU<;>refine go ?_
    ·refine rt ?_;exact⟨.inl rfl,e1⟩
    ·refine zA (j+1) (by omega) ⟨rfl,Wn,by omega,fun q hq=> ?_⟩;by_cases e:q=j
     ·subst e;omega
     ·exact Kv q (by omega)
   ·refine go ?_;refine zA (k+1) (by omega) ⟨rfl,Wn,by omega,⟨n2+(((F.getD i default).blocks.getD k default).ins.length:Int),WH,by omega,by omega⟩,fun q hq=> ?_⟩;by_cases e:q=k
    ·subst e;refine⟨by omega,fun x hx=> ?_⟩;obtain⟨y,hy,rfl⟩:=Zo hx;exact Kv y (by omega)
    ·exact cS q (by omega)
  ·refine go ?_;refine zA (i+1) (by omega) ⟨rfl,Wn,by omega,⟨n2,WH,Fi,ez⟩,fun q hq=> ?_⟩;by_cases e:q=i
   ·subst e;refine⟨by omega,fun b hb=> ?_⟩;obtain⟨y,hy,rfl⟩:=Zo hb;exact cS y (by omega)
   ·exact hm q (by omega)
 ·refine gr ?_;have aF:∀ f∈F,f.blocks.length<=20/\∀ b∈f.blocks,b.ins.length<=1000/\∀ x∈b.ins,x.args.length<=20/\x.frm.length<=20:=fun f hf=>by
   obtain⟨y,hy,rfl⟩:=Zo hf;exact hm y (by omega)
  exact⟨.inr ⟨rfl,zL7 NZ cU (by omega) fun f hf=>⟨(aF f hf).1,fun b hb=>((aF f hf).2 b hb).1⟩,fun f hf b hb=>((aF f hf).2 b hb).2⟩,e1⟩
end Go.Proofs.YtmejfcakhpihlaaGreatDoor
set_option maxRecDepth 100000
namespace Go.Proofs.YtmejfcakhpihlaaGreatDoor
open Go.Am
def ZU(x:Bl):List Int:=if x.kind=1 then[x.to]else if x.kind=2 then(if x.to=x.aE then[x.to]else[x.to,x.aE])else[]
def Bu(h:WA)(v:Value):Prop:=∀ a n c,v=.slice (some a) n c->h.n<=a.block
theorem Bu.since{h h':WA}{v:Value}(f:Bu h' v)(n:h.n<=h'.n):Bu h v:=fun a k c e=>QP n (f a k c e)
theorem zF0{h0 h:WA}{v:Value}{l:List Int}(o:Wq h0 h v l):Bu h0 v:=by
 obtain⟨g,a,_,rfl,_⟩:=o;intro a n c e;cases e;assumption
theorem zJR(h0 h:WA)(v:Value)(a b:Int)(e0:Ext h0 h)(o:Wq h0 h v [a,b]):
  WC Tryz.prog tb 218 [v] h fun r h'=>WQ h' r (if a=b then[a]else[a,b])/\Bu h0 r/\Ext h0 h':=by
 have s:WQ h v [a,b]:=o.sl;have fr:=zF0 o;refine en ?_;refine VE (fun hb=> ?_) (fun hb=> ?_)<;>simp only[DB]at hb
 ·exact absurd hb (by simp)
 refine go ?_;refine VD (fun i=>2-i) (fun i t h1=>h=h1/\zC t 3=I i/\(i=1\/i=2/\a≠b)) 1 ?_ ?_
 ·exact⟨rfl,WH,.inl rfl⟩
 rintro i t _ ab ⟨rfl,s3,hi⟩;have hlen:([a,b]:List Int).length=2:=rfl;refine go ?_;refine VE (fun hc=> ?_) (fun hc=> ?_)<;>simp only[DB]at hc
 ·have qT:i=1:=by rw[hlen]at hc;omega
  subst qT;refine go ?_;refine VE (fun hd=> ?_) (fun hd=> ?_)<;>simp only[DB]at hd
  ·have du:a=b:=by simpa [List.getD]using hd.symm
   subst du;obtain⟨g,g1,g2,rfl,g3⟩:=o;refine go ?_;refine Vi (i:=1) (v:= .slice (some ⟨g,0,none⟩) [a,a].length 1) (r:= .slice (some ⟨g,1,none⟩) 1 1) (by rfl) ?_;have s4:WQ h (.slice (some ⟨g,1,none⟩) 1 1) [a]:=⟨rfl,.inr ⟨g,1,_,rfl,Za g3,by rfl,g2⟩⟩;refine go ?_;refine VD (fun i=>1) (fun(i:Unit) t h1=>h=h1/\zC t 5=I 1/\zC t 3=I ((1:Nat):Int)) () ?_ ?_
   ·exact⟨rfl,WH,WH⟩
   rintro _ t2 _ aZ ⟨rfl,s5,s3b⟩;have Kw:([a]:List Int).length=1:=rfl;refine go ?_;refine Vi (i:=1) (v:= .slice (some ⟨g,0,none⟩) [a,a].length 1) (r:= .slice (some ⟨g,1,none⟩) 1 1) (by rfl) ?_;have a7:zBy 1 [I 0] (.slice (some ⟨g,1,none⟩) 1 1) h=some (.tuple #[],h.set g (.row [I a,I 0] true 0)):=by
    show((zr h ⟨g,1,none⟩ [I 0]).map (Value.tuple #[],·))=_;have:zr h ⟨g,1,none⟩ [I 0]=some (h.set g (.row [I a,I 0] true 0)):=by
     unfold zr;rw[g3];rfl
    rw[this];rfl
   refine Uu a7 ?_;have e1:Ext h0 (h.set g (.row [I a,I 0] true 0)):=e0.set g1 g2 _;refine go ?_;refine Vu (i:=1) (v:= .slice (some ⟨g,0,none⟩) [a,a].length 1) (r:= .slice (some ⟨g,0,none⟩) 1 1) (by rfl) ?_;refine gr ?_;refine⟨?_,(fun a k c e=>by cases e;exact g1),e1⟩;rw[QF rfl];exact⟨rfl,.inr ⟨g,0,[I a,I 0],rfl,by unfold yj;rw[zg,QF rfl],by rfl,g2⟩⟩
  ·have du:a≠b:=fun e=>hd (by simp[List.getD,e]);refine go ?_;exact zA 2 (by omega) ⟨rfl,WH,.inr ⟨rfl,du⟩⟩
 ·refine gr ?_
  have:a≠b:=by rcases hi with rfl|⟨_,h⟩;. exact absurd hc (by simp)
               ·exact h
  exact⟨by rw[QC this];exact s,fr,e0⟩
theorem zKZ(h:WA)(x:Bl):
  WC Tryz.prog tb 181 [.agg #[.int .u8 x.kind,I x.a,I x.to,I x.aE]] h fun r h'=>WQ h' r (ZU x)/\Bu h r/\Ext h h':=by
 refine en ?_;refine VF ?_;intro p h1 e1 o1;refine go ?_;refine VE (fun hb=> ?_) (fun hb=> ?_)<;>simp only[DB]at hb<;>refine go ?_
 ·refine WO.bl [x.to] ?_;intro v h2 e2 o2;refine gr ?_;refine⟨?_,(zF0 o2).since e1.n,e1.trans e2⟩;rw[ZU,QF hb];exact o2.sl
 refine VE (fun hc=> ?_) (fun hc=> ?_)<;>simp only[DB]at hc<;>refine go ?_
 ·refine WO.bl [x.to,x.aE] ?_;intro v h2 e2 o2;refine go ?_;refine VA (zJR h1 h2 v x.to x.aE e2 o2) ?_;rintro r h3 ⟨s3,f3,e3⟩;refine gr ?_;refine⟨?_,f3.since e1.n,e1.trans e3⟩;rw[ZU,QC hb,QF hc];exact s3
 ·refine rt ?_;refine⟨?_,(fun a k c e=>by cases e),e1⟩;rw[ZU,QC hb,QC hc];exact WQ.nil _
def zG(T:List WE)(F:List Wa)(f b:Int):List Wc×Int:=
 if(Y9 T F f).2≠0 then([],(Y9 T F f).2)else if b<0\/((F.getD f.toNat default).blocks.length:Int)<=b then([],2)else((F.getD f.toNat default).blocks,0)
theorem zBs{T:List WE}{F:List Wa}{f:Int}(h:(Y9 T F f).2=0):0<=f/\f<(F.length:Int)/\ZE T F=0:=by
 have aI:(yL T F f).2=0:=by
  unfold Y9 at h;split at h
  ·rename_i hn;exact absurd h hn
  ·rename_i hn;omega
 unfold yL at aI;split at aI
 ·rename_i hp;exact absurd aI hp
 ·rename_i hp;split at aI
  ·rename_i hc;unfold zd at hc;simp at hc;exact⟨hc.1,hc.2,by omega⟩
  ·cases aI
theorem zDX(h:WA)(vt vf:Value)(T:List WE)(F:List Wa)(f b:Int)(tt:Br h)(hm:h.mark<=h.n)(sm:BC T F)(st:Wu h vt T)(sf:Wo h vf F):
  WC Tryz.prog tb 117 [.agg #[vt,vf],I f,I b] h fun r h'=>(∃ v,r=.tuple #[v,I (zG T F f b).2]/\Wv h' v (zG T F f b).1)/\Ext h h':=by
 refine en ?_;refine VF ?_;intro p h1 e1 o1;refine go ?_;refine VA (zKW h1 vt vf T F f (tt.ext e1) (zp e1 hm) sm (st.ext e1) (Wo.ext sf e1)) ?_;rintro _ h2 ⟨rfl,e2⟩;have az:=e1.trans e2;have o1:=o1.ext e2;have cW:=Wo.ext sf az;have hF:=sm.funcs;refine go ?_;refine VE (fun hb=> ?_) (fun hb=> ?_)<;>simp only[DB]at hb<;>refine go ?_
 ·refine rt ?_;rw[show zG T F f b=([],(Y9 T F f).2)from by rw[zG,QF hb]];exact⟨⟨_,rfl,BE.nil⟩,az⟩
 have aQ:(Y9 T F f).2=0:=by omega
 have ah:=zBs aQ;obtain⟨iX,⟨vb,rfl,sb,cD⟩,fb,iB⟩:=zq (i:=f.toNat) cW (by omega);refine VJ (fun hc=> ?_) (fun hc=> ?_)<;>simp only[DB]at hc<;>refine go ?_
 ·refine rt ?_;rw[show zG T F f b=([],2)from by rw[zG,QC (by omega),QF (.inl hc)]];exact⟨⟨_,rfl,BE.nil⟩,az⟩
 refine VE (fun hd=> ?_) (fun hd=> ?_)<;>simp only[DB]at hd<;>refine go ?_<;>refine rt ?_
 ·rw[show zG T F f b=([],2)from by rw[zG,QC (by omega),QF (.inr hd)]];exact⟨⟨_,rfl,BE.nil⟩,az⟩
 ·rw[show zG T F f b=((F.getD f.toNat default).blocks,0)from by rw[zG,QC (by omega),QC (by omega)]];exact⟨⟨_,rfl,sb⟩,az⟩
theorem ZO{T:List WE}{F:List Wa}{f b:Int}(h:(zG T F f b).2=0):0<=b/\b<((zG T F f b).1.length:Int)/\(zG T F f b).1=(F.getD f.toNat default).blocks/\(Y9 T F f).2=0:=by
 unfold zG at h |-;split at h
 ·rename_i hn;exact absurd h hn
 ·rename_i hn;rw[QC hn];split at h
  ·cases h
  ·rename_i hb;rw[QC hb];exact⟨by omega,by simp only;omega,rfl,by omega⟩
end Go.Proofs.YtmejfcakhpihlaaGreatDoor
set_option maxRecDepth 100000
namespace Go.Proofs.YtmejfcakhpihlaaGreatDoor
open Go.Am
theorem zP5{l:List Int}{n:Int}{i:Nat}(h:i<l.length)(e:l.getD i 0=n):n∈l:=e▸zM h
theorem zIp{l:List Int}{n:Int}(h:∀ i,i<l.length->l.getD i 0≠n):n∉l:=fun hn=>by
 obtain⟨i,hi,e⟩:=Zw hn;exact h i hi e
theorem zNp(h:WA)(v:Value)(l:List Int)(n:Int)(s:WQ h v l)(hl:(l.length:Int)<=9223372036854775807):
  WC Tryz.prog tb 182 [v,I n] h fun r h'=>(∃ k:Int,r=I k/\decide (0<=k)=decide (n∈l))/\h=h':=by
 refine en ?_;refine VD (fun i=>l.length-i) (fun i t h1=>h=h1/\zC t 8=I i/\i<=l.length/\∀ j,j<i->l.getD j 0≠n) 0 ?_ ?_
 ·exact⟨rfl,WH,QK _,fun j hj=>absurd hj (Qk _)⟩
 rintro i t _ ab ⟨rfl,s8,hi,hm⟩;refine go ?_;refine VE (fun hb=> ?_) (fun hb=> ?_)<;>simp only[DB]at hb
 ·have ae:i<l.length:=by omega
  refine go ?_;refine VE (fun hc=> ?_) (fun hc=> ?_)<;>simp only[DB]at hc<;>refine go ?_
  ·refine rt ?_;exact⟨⟨i,rfl,by rw[Qc (zP5 ae hc.symm)];simp⟩,rfl⟩
  ·refine zA (i+1) (by omega) ⟨rfl,Wn,by omega,fun j hj=> ?_⟩;by_cases e:j=i
   ·subst e;exact fun h=>hc h.symm
   ·exact hm j (by omega)
 ·refine gr ?_;exact⟨⟨-1,rfl,by rw[QY (zIp fun j hj=>hm j (by omega))];rfl⟩,rfl⟩
theorem zAW(h:WA)(v:Value)(l:List Int)(n:Int)(s:WQ h v l)(hl:(l.length:Int)<=9223372036854775807):
  WC Tryz.prog tb 126 [v,I n] h fun r h'=>r=.bool (decide (n∈l))/\h=h':=by
 refine en ?_;refine VA (zNp h v l n s hl) ?_;rintro _ _ ⟨⟨k,rfl,e⟩,rfl⟩;refine gr ?_;exact⟨by rw[<-e];rfl,rfl⟩
abbrev DS:=List (Int×Int)×List Int
def Zc(nx:Int->List Int):Nat->Int->DS->DS
 |0,_,s=>s
 |n+1,b,s=>if(s.1.lookup b).isSome then s else
  (((nx b).foldl (fun(t:DS) (c:Int)=>Zc nx n c t) (s.1++[(b,(s.1.length:Int))],s.2)).1,((nx b).foldl (fun(t:DS) (c:Int)=>Zc nx n c t) (s.1++[(b,(s.1.length:Int))],s.2)).2++[b])
def YB(nx:Int->List Int)(n:Nat)(l:List Int)(s:DS):DS:=l.foldl (fun s c=>Zc nx n c s) s
def Bb(N:Nat)(es:List (Int×Int)):Nat:=((List.range N).filter fun(i:Nat)=>(es.lookup ((i:Nat):Int)).isNone).length
theorem zAy{es:List (Int×Int)}{b v c:Int}:(es++[(b,v)]).lookup c=match es.lookup c with|some w=>some w|none=>if c=b then some v else none:=by
 induction es with
 |nil=>
  simp only[GJ,List.lookup_cons,List.lookup_nil];by_cases h:c=b
  ·subst h;simp
  ·have:(c == b)=false:=by simpa using h
   rw[this,QC h]
 |cons e es ih=>
  obtain⟨k,w⟩:=e;simp only[JC,List.lookup_cons];cases hk:(c == k)with
  |true=>rfl
  |false=>simp only;exact ih
theorem zIO{es:List (Int×Int)}{b v c:Int}(h:(es.lookup c).isSome):((es++[(b,v)]).lookup c).isSome:=by
 rw[zAy];cases hc:es.lookup c with
 |none=>rw[hc]at h;cases h
 |some w=>rfl
theorem zNs{nx:Int->List Int}:∀ (n:Nat) (b:Int) (s:DS) (c:Int),(s.1.lookup c).isSome->((Zc nx n b s).1.lookup c).isSome:=by
 intro n;induction n with
 |zero=>intro b s c h;exact h
 |succ n ih=>
  intro b s c h;unfold Zc;split
  ·exact h
  ·simp only;have:∀ (l:List Int) (s:DS),(s.1.lookup c).isSome->((l.foldl (fun s c=>Zc nx n c s) s).1.lookup c).isSome:=by
    intro l;induction l with
    |nil=>intro s h;exact h
    |cons x l cI=>intro s h;exact cI _ (ih x s c h)
   exact this _ _ (zIO h)
theorem zGJ{nx:Int->List Int}{n:Nat}{c:Int}:∀ (l:List Int) (s:DS),(s.1.lookup c).isSome->((YB nx n l s).1.lookup c).isSome
 |[],s,h=>h
 |x::l,s,h=>zGJ l _ (zNs n x s c h)
theorem zLS{N:Nat}{p q:Nat->Bool}(h:∀ i,i<N->q i=true->p i=true):((List.range N).filter q).length<=((List.range N).filter p).length:=by
 rw[<-List.countP_eq_length_filter,<-List.countP_eq_length_filter];exact List.countP_mono_left fun i hi hq=>h i (GV.1 hi) hq
theorem zC3{N:Nat}{es aM:List (Int×Int)}(h:∀ c,(es.lookup c).isSome->(aM.lookup c).isSome):Bb N aM<=Bb N es:=by
 unfold Bb;apply zLS;intro i _ hi;cases hc:es.lookup (i:Int)with
 |none=>rfl
 |some w=>
  have:=h i (by rw[hc];rfl);rw[Option.isNone_iff_eq_none]at hi;rw[hi]at this;cases this
theorem zFU{p q:Nat->Bool}{i:Nat}(hp:p i=true)(hq:q i=false):∀ {l:List Nat},(∀ j∈l,q j=true->p j=true)->i∈l->l.countP q<l.countP p
 |[],_,h=>by cases h
 |x::l,hl,h=>by
  have hle:l.countP q<=l.countP p:=List.countP_mono_left fun j hj N3=>hl j (by simp[hj]) N3;by_cases e:x=i
  ·subst e;simp only[List.countP_cons,hp,hq,Q6];simp;omega
  ·have CH:i∈l:=by
    rcases GG.1 h with h|h
    ·exact absurd h.symm e
    ·exact h
   have:=zFU hp hq (l:=l) (fun j hj=>hl j (by simp[hj])) CH;simp only[List.countP_cons];cases N4:q x with
   |false=>simp;omega
   |true=>rw[hl x (by simp) N4];simp;omega
theorem zFP{N:Nat}{es:List (Int×Int)}{b v:Int}(h:es.lookup b=none)(hb:0<=b/\b<(N:Int)):Bb N (es++[(b,v)])<Bb N es:=by
 unfold Bb;rw[<-List.countP_eq_length_filter,<-List.countP_eq_length_filter];obtain⟨i,rfl⟩:∃ i:Nat,b=i:=⟨b.toNat,by omega⟩;refine zFU (i:=i) (by simp[h]) (by simp[zAy,h]) (fun j _ hj=> ?_) (GV.2 (by omega));rw[zAy]at hj;cases hc:es.lookup (j:Int)with
 |none=>rfl
 |some w=>rw[hc]at hj;cases hj
theorem zHR{N:Nat}{es:List (Int×Int)}(h:Bb N es=0){b:Int}(hb:0<=b/\b<(N:Int)):(es.lookup b).isSome:=by
 cases hc:es.lookup b with
 |some w=>rfl
 |none=>have:=zFP (v:=0) hc hb;omega
theorem zDd{nx:Int->List Int}{N:Nat}(ah:∀ b,0<=b/\b<(N:Int)->∀ c∈nx b,0<=c/\c<(N:Int)):∀ (n:Nat) (b:Int) (s:DS),0<=b/\b<(N:Int)->(Zc nx n b s).2.length+Bb N (Zc nx n b s).1<=s.2.length+Bb N s.1:=by
 intro n;induction n with
 |zero=>intro b s _;exact QE _
 |succ n ih=>
  intro b s hb;unfold Zc;split
  ·exact QE _
  ·rename_i Kx;have bZ:s.1.lookup b=none:=by
    cases hc:s.1.lookup b with
    |none=>rfl
    |some w=>rw[hc]at Kx;exact absurd rfl Kx
   have:∀ (l:List Int) (s:DS),(∀ c∈l,0<=c/\c<(N:Int))->(l.foldl (fun s c=>Zc nx n c s) s).2.length+Bb N (l.foldl (fun s c=>Zc nx n c s) s).1<=s.2.length+Bb N s.1:=by
    intro l;induction l with
    |nil=>intro s _;exact QE _
    |cons x l cI=>intro s hl;exact QP (cI _ fun c hc=>hl c (by simp[hc])) (ih x s (hl x (by simp)))
   have h1:=this (nx b) (s.1++[(b,(s.1.length:Int))],s.2) (ah b hb);have h2:=zFP (v:=(s.1.length:Int)) bZ hb;simp only[QM,QV]at *;omega
end Go.Proofs.YtmejfcakhpihlaaGreatDoor
set_option maxRecDepth 100000
namespace Go.Am
section
variable {P:Program}{tab:Wy}{t:WG Value}{h h0:WA}{ds:List Deferred}{rd:Option Nat}{l:List WF}{Q:WR->WA->Prop}{d:Nat}
theorem Vk{x y:Operand}{v w:Value}{xs ys:List Int}(hx:ev t x=v)(hy:ev t y=w)(o:WL h0 h v xs)(s:WQ h w ys)(e0:Ext h0 h)(aq:ys≠[])(hr:xs.length+ys.length<=4294967296)
  (k:∀ h',Ext h0 h'->Wq h0 h' (.slice (some ⟨h.n,0,none⟩) (xs++ys).length 1) (xs++ys)->Bh v h h'->WO P tab l ⟨t.set d (.slice (some ⟨h.n,0,none⟩) (xs++ys).length 1),ds,rd⟩ h' Q):WO P tab (⟨some d,none,.append 1 x y⟩::l) ⟨t,ds,rd⟩ h Q:=by
 have aT:=YF s;have a6:room=4294967296:=rfl;obtain⟨z,zs,rfl⟩:∃ z zs,ys=z::zs:=by
  cases ys with
  |nil=>exact absurd rfl aq
  |cons z zs=>exact⟨z,zs,rfl⟩
 have a9:zL (I z::zs.map I)=true:=zC7 (z::zs);have hlen:(I z::zs.map I).length / 1=(z::zs).length:=by simp
 rcases o with⟨rfl,rfl⟩|⟨g,g1,g2,rfl,g3⟩
 ·have h1:Nat.ble (z::zs).length room=true:=QH (by rw[a6];simpa using hr);refine WO.op (.slice (some ⟨h.n,0,none⟩) (z::zs).length 1) (h.push (.row ((z::zs).map I) true 0)) rfl ?_ (k _ (e0.push _) ⟨h.n,e0.n,by simp[WA.push],rfl,zX _ _⟩ ⟨Qr _,fun k hk _=> ?_⟩)
  ·simp only[WN,hx,hy,yb,aT,Qm,a9,hlen,h1,QW,cond_true,QU];rfl
  ·rw[zS,QC (by omega)]
 ·have h1:Nat.ble (xs.length+(z::zs).length) room=true:=QH (by rw[a6];exact hr);have h2:cut (xs.map I) 0 (xs.length*1)=some (xs.map I):=by rw[ZD (by simp)];simp[Q7]
  have hn:(h.kill g).n=h.n:=rfl;have h3:Nat.ble 0 (0+xs.length*1)=true:=QH (QK _);have hl:xs.length+(z::zs).length=(xs++z::zs).length:=(QM ..).symm;refine WO.op (.slice (some ⟨h.n,0,none⟩) (xs++z::zs).length 1) ((h.kill g).push (.row (xs.map I++(z::zs).map I) true (0-0))) rfl ?_
   (k _ ((e0.kill g1).push _) ⟨h.n,e0.n,by simp[WA.push,WA.kill],rfl,?_⟩ ⟨Qr _,fun k hk hv=> ?_⟩)
  ·rw[<-hl];simp only[WN,hx,hy,yb,aT,Qm,a9,hlen,h1,g3,h2,h3,QW,cond_true,QU];rfl
  ·have:=zX (h.kill g) (.row (xs.map I++(z::zs).map I) true (0-0));rw[hn]at this;rw[this];simp
  ·rw[zS,QC (by rw[hn];omega),yt,QC (fun e=>hv _ _ _ rfl e.symm)]
end
end Go.Am
namespace Go.Proofs.YtmejfcakhpihlaaGreatDoor
open Go.Am
def zQw(p vm vd:Value)(g:Nat):Prop:=p≠ .pointer (some ⟨g,0,none⟩)/\vm≠ .map (some g)/\∀ a n c,vd=.slice (some a) n c->a.block≠g
structure WS(hB h:WA)(p vl vm vd:Value)(s:DS):Prop where
 own:WB hB h p [vl,vm,vd]
 map:BK hB h vm s.1
 dn:WL hB h vd s.2
 ext:Ext hB h
def BG(h h':WA)(p vm vd jX:Value):Prop:=h.n<=h'.n/\∀ g,g<h.n->zQw p vm vd g->h'.get g=h.get g/\zQw p vm jX g
theorem BG.refl(h:WA)(p vm vd:Value):BG h h p vm vd vd:=⟨QE _,fun _ _ n=>⟨rfl,n⟩⟩
theorem BG.trans{h h1 h2:WA}{p vm vd qU CZ:Value}(a:BG h h1 p vm vd qU)(b:BG h1 h2 p vm qU CZ):BG h h2 p vm vd CZ:=
 ⟨QP a.1 b.1,fun g hg nw=>let⟨x,y⟩:=a.2 g hg nw;let⟨u,v⟩:=b.2 g (QI hg a.1) y;⟨u.trans x,v⟩⟩
theorem BG.ext{h h':WA}(e:Ext h h')(p vm vd:Value):BG h h' p vm vd vd:=⟨e.n,fun g hg n=>⟨e.get g hg,n⟩⟩
def Off(h:WA)(p vm vd v:Value)(l:List Int):Prop:=l=[]\/∃ g off,v=.slice (some ⟨g,off,none⟩) l.length 1/\g<h.n/\zQw p vm vd g
theorem zMK{h h':WA}{v:Value}(s:WQ h v []):WQ h' v []:=by
 refine⟨rfl,.inl ⟨rfl,?_⟩⟩;rcases s.2 with⟨_,hv⟩|⟨g,off,row,hv,_⟩
 ·exact hv
 ·exact .inr ⟨_,_,hv⟩
theorem BG.sl{h h':WA}{p vm vd jX v:Value}{l:List Int}(k:BG h h' p vm vd jX)(s:WQ h v l)(o:Off h p vm vd v l):WQ h' v l/\Off h' p vm jX v l:=by
 rcases o with rfl|⟨g,off,rfl,hg,nw⟩
 ·exact⟨zMK s,.inl rfl⟩
 ·obtain⟨e1,e2⟩:=k.2 g hg nw;refine⟨⟨s.1,?_⟩,.inr ⟨g,off,rfl,QI hg k.1,e2⟩⟩;rcases s.2 with⟨h0,hv⟩|⟨g',N5,row,hv,hr,hc,hl⟩
  ·exact .inl ⟨h0,hv⟩
  ·cases hv;exact .inr ⟨g,off,row,rfl,by unfold yj at *;rw[e1];exact hr,hc,QI hg k.1⟩
theorem zLa{hB h h2:WA}{p vl vm vd v:Value}{s:DS}{l:List Int}(w:WS hB h p vl vm vd s)(f:Bu h v)(sl:WQ h2 v l):Off h2 p vm vd v l:=by
 rcases sl.2 with⟨h0,hv⟩|⟨g,off,row,hv,hr,hc,hl⟩
 ·exact .inl (Gm.1 h0)
 ·refine .inr ⟨g,off,hv,hl,?_⟩;have hg:h.n<=g:=f _ _ _ hv;obtain⟨g1,_,a1,rfl,_⟩:=w.own;obtain⟨g2,_,_,_,a2,rfl,_⟩:=w.map;refine⟨fun e=>by cases e;omega,fun e=>by cases e;omega,fun a n c e he=> ?_⟩;rcases w.dn with⟨rfl,_⟩|⟨g3,_,a3,rfl,_⟩
  ·cases e
  ·cases e;simp only at he;omega
theorem zGY{h0 h1 h:WA}{p v:Value}{a:Option Addr}{n k:Nat}{cs:List Value}{xs:List Int}(o:WB h0 h p (.slice a n k::cs))(i:WL h1 h v xs):∀ b m c,v=.slice (some b) m c->p≠ .pointer (some ⟨b.block,0,none⟩):=by
 intro b m c hv hp;obtain⟨g,_,_,rfl,hg⟩:=o;rcases i with⟨rfl,_⟩|⟨g2,_,_,rfl,nO⟩
 ·cases hv
 ·cases hv;cases hp;rw[hg]at nO;cases xs with
  |nil=>cases nO
  |cons x xs=>cases nO
theorem WB.upd{h0 h h':WA}{p v:Value}{a:Option Addr}{n k:Nat}{cs:List Value}{xs:List Int}(o:WB h0 h p (.slice a n k::cs))(i:WL h0 h v xs)(u:Bh v h h'):WB h0 h' p (.slice a n k::cs):=by
 have aq:=zGY o i;obtain⟨g,g1,g2,rfl,hg⟩:=o;exact⟨g,g1,QI g2 u.1,rfl,(u.2 g g2 fun b m c hv e=>aq b m c hv (by rw[e])).trans hg⟩
theorem WB.updM{h0 h h':WA}{p m:Value}{cs:List Value}{es:List (Int×Int)}(o:WB h0 h p cs)(i:BK h0 h m es)(u:zNx m h h'):WB h0 h' p cs:=by
 obtain⟨g,g1,g2,rfl,hg⟩:=o;refine⟨g,g1,QI g2 u.1,rfl,(u.2 g g2 fun e=> ?_).trans hg⟩;obtain⟨g3,_,_,_,_,rfl,h3,_⟩:=i;cases e;rw[hg]at h3;cases h3
theorem BK.updC{h0 h h':WA}{p m:Value}{cs:List Value}{es:List (Int×Int)}(i:BK h0 h m es)(o:WB h0 h p cs)(u:Wm p h h'):BK h0 h' m es:=by
 obtain⟨g3,c,aM,g1,g2,rfl,h3,h4⟩:=i;refine⟨g3,c,aM,g1,QI g2 u.1,rfl,(u.2 g3 g2 fun e=> ?_).trans h3,h4⟩;obtain⟨g,_,_,rfl,hg⟩:=o;cases e;rw[h3]at hg;cases hg
theorem Wq.updC{h0 h h':WA}{p v:Value}{a:Option Addr}{n k:Nat}{cs:List Value}{xs:List Int}(i:Wq h0 h v xs)(o:WB h0 h p (.slice a n k::cs))(u:Wm p h h'):Wq h0 h' v xs:=by
 have aq:=zGY o (.inr i);obtain⟨g,g1,g2,rfl,hg⟩:=i;exact⟨g,g1,QI g2 u.1,rfl,(u.2 g g2 fun e=>aq _ _ _ rfl e).trans hg⟩
def Wr(L:List Wc)(b:Int):List Int:=ZU (L.getD b.toNat default).fin
theorem zB0{nx:Int->List Int}{n:Nat}{b:Int}{s:DS}(h:(s.1.lookup b).isSome):Zc nx n b s=s:=by
 cases n with
 |zero=>rfl
 |succ n=>unfold Zc;rw[QF h]
theorem zKY(hB:WA)(L:List Wc)(vl:Value)(ah:∀ b,0<=b/\b<(L.length:Int)->∀ c∈Wr L b,0<=c/\c<(L.length:Int))(n:Nat)
  (IH:∀ (h:WA) (p vm vd:Value) (s:DS) (b:Int),WS hB h p vl vm vd s->0<=b/\b<(L.length:Int)->Bb L.length s.1<=n->s.2.length+Bb L.length s.1<=L.length->
   WC Tryz.prog tb 179 [p,I b] h fun r h'=>∃ jX,WS hB h' p vl vm jX (Zc (Wr L) n b s)/\BG h h' p vm vd jX)
  (h:WA) (p vm vd Fk:Value) (s:DS) (l:List Int) (w:WS hB h p vl vm vd s) (sl:WQ h Fk l) (hl:(l.length:Int)<=1000) (o:Off h p vm vd Fk l) (hr:∀ c∈l,0<=c/\c<(L.length:Int)) (hu:Bb L.length s.1<=n) (hd:s.2.length+Bb L.length s.1<=L.length):
  WC Tryz.prog tb 178 [p,Fk,.func (.func 179) #[] #[]] h fun r h'=>∃ jX,WS hB h' p vl vm jX (YB (Wr L) n l s)/\BG h h' p vm vd jX:=by
 refine en ?_;refine VD (fun i=>l.length-i) (fun i t h1=>zC t 10=I i/\i<=l.length/\∃ qU,WS hB h1 p vl vm qU (YB (Wr L) n (l.take i) s)/\BG h h1 p vm vd qU) 0 ?_ ?_
 ·exact⟨WH,QK _,vd,w,BG.refl ..⟩
 rintro i t h1 ab ⟨iY,hi,qU,w1,k1⟩;obtain⟨sl1,o1⟩:=k1.sl sl o;refine go ?_;refine VE (fun hc=> ?_) (fun hc=> ?_)<;>simp only[DB]at hc
 ·have ae:i<l.length:=by omega
  refine go ?_;have hm:=zM ae;have D2:Bb L.length (YB (Wr L) n (l.take i) s).1<=n:=QP (zC3 fun c hc=>zGJ _ _ hc) hu;have kF:(YB (Wr L) n (l.take i) s).2.length+Bb L.length (YB (Wr L) n (l.take i) s).1<=L.length:=by
   have:∀ (m:List Int) (s:DS),(∀ c∈m,0<=c/\c<(L.length:Int))->(YB (Wr L) n m s).2.length+Bb L.length (YB (Wr L) n m s).1<=s.2.length+Bb L.length s.1:=by
    intro m;induction m with
    |nil=>intro s _;exact QE _
    |cons x m ih=>intro s hm;exact QP (ih _ fun c hc=>hm c (by simp[hc])) (zDd ah n x s (hm x (by simp)))
   exact QP (this _ _ fun c hc=>hr c (Q5 hc)) hd
  refine VQ (WV.func (IH h1 p vm qU _ (l.getD i 0) w1 (hr _ hm) D2 kF)) ?_;rintro r h2 ⟨CZ,w2,k2⟩;refine go ?_;refine zA (i+1) (by omega) ⟨Wn,by omega,CZ,?_,k1.trans k2⟩;have e:YB (Wr L) n (l.take (i+1)) s=Zc (Wr L) n (l.getD i 0) (YB (Wr L) n (l.take i) s):=by
   unfold YB;rw[Q1,List.foldl_append];simp[List.getD,QB ae]
  rw[e];exact w2
 ·refine go ?_;refine BP ?_;have:i=l.length:=by omega
  subst this;rw[Qg]at w1;exact⟨qU,w1,k1⟩
end Go.Proofs.YtmejfcakhpihlaaGreatDoor
set_option maxRecDepth 100000
namespace Go.Proofs.YtmejfcakhpihlaaGreatDoor
open Go.Am
section
variable {t:WG Value}
theorem zQ6{x:Operand}{v:Value}(hx:WM t x v:=by first|with_reducible exact WM.const|((with_reducible apply WM.tmp);(repeat (first|((with_reducible apply VY);rfl)|((with_reducible apply Wt.same);(with_reducible assumption);rfl)));first|with_reducible exact Wt.here|with_reducible assumption|(unfold Wt;with_reducible assumption))|with_reducible exact WM.fn|with_reducible exact V9|fail):ev t x=v:=hx
end
theorem zDH(x:Bl):(ZU x).length<=2:=by
 unfold ZU;split
 ·simp
 ·split
  ·split<;>simp
  ·simp
theorem zGp{h0 h:WA}{p:Value}{cs:List Value}(o:WB h0 h p cs):∃ g,p=.pointer (some ⟨g,0,none⟩):=let⟨g,_,_,e,_⟩:=o;⟨g,e⟩
theorem zLl{hB h h':WA}{p vl vm vd:Value}(u:zNx vm h h'):BG h h' p vm vd vd:=⟨u.1,fun g hg n=>⟨u.2 g hg n.2.1,n⟩⟩
theorem zM3{h h':WA}{p vm vd:Value}{q:Nat}{k c:Nat}(u:Bh vd h h')(hq:q=h.n):BG h h' p vm vd (.slice (some ⟨q,0,none⟩) k c):=
 ⟨u.1,fun g hg n=>⟨u.2 g hg n.2.2,n.1,n.2.1,fun a k c e=>by cases e;simp only;omega⟩⟩
theorem zLw{h h':WA}{p vm vd:Value}(u:Wm p h h'):BG h h' p vm vd vd:=⟨u.1,fun g hg n=>⟨u.2 g hg n.1,n⟩⟩
theorem zMU(hB:WA)(bU:hB.mark<=hB.n)(L:List Wc)(vl:Value)(bl:Wv hB vl L)(hL:L.length<=1000)(ah:∀ b,0<=b/\b<(L.length:Int)->∀ c∈Wr L b,0<=c/\c<(L.length:Int)):∀ (n:Nat) (h:WA) (p vm vd:Value) (s:DS) (b:Int),WS hB h p vl vm vd s->0<=b/\b<(L.length:Int)->Bb L.length s.1<=n->s.2.length+Bb L.length s.1<=L.length->
   WC Tryz.prog tb 179 [p,I b] h fun r h'=>∃ jX,WS hB h' p vl vm jX (Zc (Wr L) n b s)/\BG h h' p vm vd jX:=by
 obtain⟨la,ln,lk,N6⟩:=zD bl;subst N6;intro n;induction n with
 |zero=>
  intro h p vm vd s b w hb hu hd;obtain⟨v,hv⟩:=Option.isSome_iff_exists.1 (zHR (Nat.le_zero.1 hu) hb);obtain⟨gp,rfl⟩:=zGp w.own;have wo:=w.own;have wm:=w.map;refine en ?_;refine rt ?_;exact⟨vd,w,BG.refl ..⟩
 |succ n IH=>
  intro h p vm vd s b w hb hu hd;obtain⟨gp,rfl⟩:=zGp w.own;have wo:=w.own;have wm:=w.map;refine en ?_;cases hv:s.1.lookup b with
  |some v=>
   refine gr ?_;exact⟨vd,by rw[zB0 (by rw[hv];rfl)];exact w,BG.refl ..⟩
  |none=>
   have aL:=zFP (v:=(s.1.length:Int)) hv hb;refine go ?_;refine VC 0 rfl rfl ?_;have o1:WB hB (inC (zB 0 h)) (.pointer (some ⟨gp,0,none⟩)) [.slice la ln lk,vm,vd]:=wo;have m1:BK hB (inC (zB 0 h)) vm s.1:=wm;refine WJ ?_;have cT:h.mark<=hB.n:=by rw[w.ext.mark];exact bU
   refine Wb.upd wm w.ext cT hv ?_;intro h1 e1 Ky u1;have Kz:=WB.updM wo wm u1;have KA:=w.dn.updM wm u1;have k1:BG h h1 (.pointer (some ⟨gp,0,none⟩)) vm vd vd:=zLl (hB:=hB) (vl:=vm) u1;clear o1 m1 wo wm;obtain⟨i,rfl⟩:∃ i:Nat,b=i:=⟨b.toNat,by omega⟩;have N7:=Wv.ext bl e1;obtain⟨pE,⟨vi,rfl,si,fc⟩,kR,mo⟩:=zq (i:=i) N7 (by omega);refine go ?_;refine VA (zKZ h1 _) ?_;rintro r h2 ⟨s2,f2,e2⟩;have N8:=Kz.ext e2;have N9:=Ky.ext e2;have Oa:=KA.ext e2;have bj:=e1.trans e2;have w1:WS hB h1 (.pointer (some ⟨gp,0,none⟩)) (.slice la ln lk) vm vd (s.1++[((i:Int),(s.1.length:Int))],s.2):=⟨Kz,Ky,KA,e1⟩;have w2:WS hB h2 (.pointer (some ⟨gp,0,none⟩)) (.slice la ln lk) vm vd (s.1++[((i:Int),(s.1.length:Int))],s.2):=⟨N8,N9,Oa,bj⟩;have fe:ZU (L.getD i default).fin=Wr L (i:Int):=by unfold Wr;rw[QL]
   rw[fe]at s2;have vM:(Wr L (i:Int)).length<=2:=by unfold Wr;exact zDH _
   refine go ?_;refine VA (zKY hB L (.slice la ln lk) ah n IH h2 (.pointer (some ⟨gp,0,none⟩)) vm vd r _ (Wr L (i:Int)) w2 s2 (by omega) (zLa w1 f2 s2) (ah _ hb) (by simp only;omega) (by simp only at hd |-;omega)) ?_;rintro _ h3 ⟨Ob,w3,k3⟩;have KB:=w3.own;refine go ?_;refine WO.bl [(i:Int)] ?_;intro v4 h4 e4 o4;have Fm:=w3.dn.ext e4;have iZ:=w3.ext.trans e4;refine go ?_;have gx:(YB (Wr L) n (Wr L (i:Int)) (s.1++[((i:Int),(s.1.length:Int))],s.2)).2.length<=1000:=by
    have:∀ (m:List Int) (s:DS),(∀ c∈m,0<=c/\c<(L.length:Int))->(YB (Wr L) n m s).2.length+Bb L.length (YB (Wr L) n m s).1<=s.2.length+Bb L.length s.1:=by
     intro m;induction m with
     |nil=>intro s _;exact QE _
     |cons x m ih=>intro s hm;exact QP (ih _ fun c hc=>hm c (by simp[hc])) (zDd ah n x s (hm x (by simp)))
    have:=this (Wr L (i:Int)) (s.1++[((i:Int),(s.1.length:Int))],s.2) (ah _ hb);simp only at this;omega
   refine Vk (v:=Ob) (w:=v4) (by exact zQ6) (by exact zQ6) Fm o4.sl iZ (by simp) (by simp only[QV];omega) ?_;intro h5 e5 o5 u5;have Fo:=WB.upd (KB.ext e4) Fm u5;have Oc:=(w3.map.ext e4).upd Fm u5;refine go ?_;refine VX Fo e5 ?_ (hl:=QE 3);intro h6 e6 Od u6;refine go ?_;refine BP ?_;have J3:Zc (Wr L) (n+1) (i:Int) s=((YB (Wr L) n (Wr L (i:Int)) (s.1++[((i:Int),(s.1.length:Int))],s.2)).1,(YB (Wr L) n (Wr L (i:Int)) (s.1++[((i:Int),(s.1.length:Int))],s.2)).2++[(i:Int)]):=by
    conv=>lhs;unfold Zc
    rw[QC (by rw[hv];exact Bool.noConfusion)];rfl
   rw[J3];refine⟨_,⟨Od,BK.updC Oc Fo u6,.inr (Wq.updC o5 Fo u6),e6⟩,?_⟩;exact(((k1.trans (BG.ext e2 ..)).trans k3).trans (BG.ext e4 ..)).trans ((zM3 u5 rfl).trans (zLw u6))
end Go.Proofs.YtmejfcakhpihlaaGreatDoor
set_option maxRecDepth 100000
namespace Go.Proofs.YtmejfcakhpihlaaGreatDoor
open Go.Am
theorem zEZ(N:Nat)(es:List (Int×Int)):Bb N es<=N:=by
 unfold Bb;have:=List.length_filter_le (fun(i:Nat)=>(es.lookup ((i:Nat):Int)).isNone) (List.range N);simpa using this
theorem zKR(h:WA)(hm:h.mark<=h.n)(L:List Wc)(vl fv:Value)(l:List Int)(bl:Wv h vl L)(hL:L.length<=1000)(ah:∀ b,0<=b/\b<(L.length:Int)->∀ c∈Wr L b,0<=c/\c<(L.length:Int))(sl:WQ h fv l)(hl:(l.length:Int)<=1000)(hr:∀ c∈l,0<=c/\c<(L.length:Int)):
  WC Tryz.prog tb 120 [vl,fv] h fun r h'=>WL h h' r (YB (Wr L) L.length l ([],[])).2/\Ext h h':=by
 obtain⟨la,ln,lk,rfl⟩:=zD bl;refine en ?_;refine WO.mkMap ?_;intro vm h1 e1 m1;obtain⟨gm,rfl⟩:∃ g,vm=.map (some g):=let⟨g,_,_,_,_,e,_⟩:=m1;⟨g,e⟩;refine go ?_;refine VF ?_;intro p h2 e2 o2;have az:=e1.trans e2;have w2:WS h h2 p (.slice la ln lk) (.map (some gm)) (.slice none 0 0) ([],[]):=⟨o2.since e1,m1.ext e2,.inl ⟨rfl,rfl⟩,az⟩;have pt:Off h2 p (.map (some gm)) (.slice none 0 0) fv l:=by
  rcases sl.2 with⟨h0,hv⟩|⟨g,off,row,hv,hr,hc,hg⟩
  ·exact .inl (Gm.1 h0)
  ·refine .inr ⟨g,off,hv,QI hg az.n,?_⟩;obtain⟨g1,a1,_,hp,_⟩:=w2.own;obtain⟨g2,_,_,a2,_,cS,_⟩:=w2.map;cases cS;refine⟨fun e=> ?_,fun e=>by cases e;omega,fun a n c e=>by cases e⟩;rw[hp]at e;cases e;omega
 refine go ?_;refine VA (zKY h L (.slice la ln lk) ah L.length (fun h' p vm vd s b w hb hu hd=>zMU h hm L (.slice la ln lk) bl hL ah L.length h' p vm vd s b w hb hu hd) h2 p _ _ fv ([],[]) l w2 (sl.ext az) hl pt hr (zEZ _ _) (by have:=zEZ L.length [];simp only[G9];omega)) ?_;rintro _ h3 ⟨vd,w3,k3⟩;obtain⟨gp,rfl⟩:=zGp w3.own;have KB:=w3.own;refine gr ?_;exact⟨w3.dn,w3.ext⟩
theorem zKD{T:List WE}{n:Int}{f:Wa}(h:BW T n f=true):f.blocks.length<=16/\∀ b,0<=b/\b<(f.blocks.length:Int)->∀ c∈Wr f.blocks b,0<=c/\c<(f.blocks.length:Int):=by
 unfold BW at h;split at h
 ·cases h
 ·rename_i bQ;have hlen:f.blocks.length<=16:=by
   unfold B6 at bQ;simp only[GN,not_or,JH,Bool.not_eq_false']at bQ;have h1:zd ((f.blocks.length:Int)-1) 16=true:=by simpa using bQ.1.2
   unfold zd at h1;simp only[QN,Qd]at h1;omega
  refine⟨hlen,fun b hb c hc=> ?_⟩;rw[Gj,Gx]at h;have aw:=zE (l:=f.blocks) (i:=b.toNat) (by omega);have dP:=h _ aw;unfold Yv at dP;simp only[GN,not_or,JH,Bool.not_eq_false']at dP;have he:B4 (f.blocks.getD b.toNat default).fin (B0 T n f)=true:=by simpa using dP.2
  unfold Wr ZU at hc;unfold B4 zd B0 at he;split at hc
  ·rename_i hk;rw[QF hk]at he;simp only[QN,Qd]at he;simp only[QZ]at hc;omega
  ·rename_i hk;rw[QC hk]at he;split at hc
   ·rename_i aS;rw[QF aS]at he;simp only[QN,Qd]at he;split at hc
    ·simp only[QZ]at hc;omega
    ·simp only[GG,List.mem_nil_iff,or_false]at hc;rcases hc with rfl|rfl<;>omega
   ·cases hc
theorem Ze{T:List WE}{F:List Wa}{f b:Int}(h:(zG T F f b).2=0):(zG T F f b).1.length<=16/\∀ c,0<=c/\c<((zG T F f b).1.length:Int)->∀ d∈Wr (zG T F f b).1 c,0<=d/\d<((zG T F f b).1.length:Int):=by
 obtain⟨_,_,h3,h4⟩:=ZO h;have ah:=zBs h4;rw[h3];exact zKD ((yN ah.2.2).2.2.2 _ (zE (l:=F) (i:=f.toNat) (by omega)))
end Go.Proofs.YtmejfcakhpihlaaGreatDoor
