/- Walks of functions, plain laws; proves no statement. -/
import Derived.Test.YtfnndahpddkniaaGreatDoorJa
set_option linter.all false
set_option maxHeartbeats 4000000
set_option maxRecDepth 100000
namespace Go.Proofs.YtfnndahpddkniaaGreatDoor
open Go.Am
theorem zG{α:Type}[Inhabited α]{l:List α}{i:Nat}(h:i<l.length):l.getD i default∈l:=by
 simp[List.getD,QB h]
theorem ZY{α:Type}[Inhabited α]{l:List α}{x:α}(h:x∈l):∃ i,i<l.length/\l.getD i default=x:=by
 obtain⟨i,hi,e⟩:=List.getElem_of_mem h;exact⟨i,hi,by simp[List.getD,QB hi,e]⟩
theorem zMg(h:Uy)(v fv:Value)(l:List WU)(p:WU->Bool)(s:W2 h v l)(hl:(l.length:Int)<=9223372036854775807)(hf:∀ x∈l,∀ h1,Ext h h1->∀ cs,Wq h1 cs x->WV Tryz.prog tb fv [.agg cs.toArray] h1 fun r h'=>r=.bool (p x)/\Ext h1 h'):
  WC Tryz.prog tb 169 [v,fv] h fun r h'=>(∃ n:Int,r=I n/\(decide (0<=n))=l.any p)/\Ext h h':=by
 refine en ?_;refine VD (fun i=>l.length-i) (fun i t h1=>Ext h h1/\zB t 8=I i/\i<=l.length/\∀ j,j<i->p (l.getD j default)=false) 0 ?_ ?_
 ·exact⟨Ext.refl h,U4,QL _,fun j hj=>absurd hj (Ql _)⟩
 rintro i t h1 hsame ⟨e1,s8,hi,hm⟩;have s1:=W2.ext s e1;refine go ?_;refine VE (fun hb=> ?_) (fun hb=> ?_)<;>simp only[DB]at hb
 ·have hi':i<l.length:=by omega
  obtain⟨cs,hcs,pc,hs⟩:=zi s1 hi';have hff:=hf _ (zG hi') h1 e1 cs hcs;obtain⟨va,vf,rfl,hR⟩:=hcs;refine go ?_;refine VU hff ?_;rintro _ h2 ⟨rfl,e2⟩;refine go ?_;refine VE (fun hb=> ?_) (fun hb=> ?_)
  ·refine gr ?_;refine⟨⟨i,rfl,?_⟩,e1.trans e2⟩;rw[Gx.2 ⟨_,zG hi',hb⟩];simp
  ·refine go ?_;refine zA (i+1) (by omega) ⟨e1.trans e2,Wd,by omega,fun j hj=> ?_⟩;by_cases e:j=i
   ·subst e;exact hb
   ·exact hm j (by omega)
 ·refine gr ?_;refine⟨⟨-1,rfl,?_⟩,e1⟩;rw[YK fun x hx=>by obtain⟨j,hj,rfl⟩:=ZY hx;exact hm j (by omega)];rfl
theorem zLp(h:Uy)(v fv:Value)(l:List WU)(p:WU->Bool)(s:W2 h v l)(hl:(l.length:Int)<=9223372036854775807)(hf:∀ x∈l,∀ h1,Ext h h1->∀ cs,Wq h1 cs x->WV Tryz.prog tb fv [.agg cs.toArray] h1 fun r h'=>r=.bool (p x)/\Ext h1 h'):
  WC Tryz.prog tb 133 [v,fv] h fun r h'=>r=.bool (l.any p)/\Ext h h':=by
 refine en ?_;refine VA (zMg h v fv l p s hl hf) ?_;rintro _ h1 ⟨⟨n,rfl,e⟩,e1⟩;refine gr ?_;exact⟨by rw[<-e];rfl,e1⟩
theorem zNc(h:Uy)(v fv:Value)(l:List WK)(p:WK->Bool)(s:We h v l)(hl:(l.length:Int)<=9223372036854775807)(hf:∀ x∈l,∀ h1,Ext h h1->∀ cs,BJ h1 cs x->WV Tryz.prog tb fv [.agg cs.toArray] h1 fun r h'=>r=.bool (p x)/\Ext h1 h'):
  WC Tryz.prog tb 168 [v,fv] h fun r h'=>(∃ n:Int,r=I n/\(decide (0<=n))=l.any p)/\Ext h h':=by
 refine en ?_;refine VD (fun i=>l.length-i) (fun i t h1=>Ext h h1/\zB t 8=I i/\i<=l.length/\∀ j,j<i->p (l.getD j default)=false) 0 ?_ ?_
 ·exact⟨Ext.refl h,U4,QL _,fun j hj=>absurd hj (Ql _)⟩
 rintro i t h1 hsame ⟨e1,s8,hi,hm⟩;have s1:=We.ext s e1;refine go ?_;refine VE (fun hb=> ?_) (fun hb=> ?_)<;>simp only[DB]at hb
 ·have hi':i<l.length:=by omega
  obtain⟨cs,hcs,pc,hs⟩:=zi s1 hi';have hff:=hf _ (zG hi') h1 e1 cs hcs;obtain⟨va,rfl,hR⟩:=hcs;refine go ?_;refine VU hff ?_;rintro _ h2 ⟨rfl,e2⟩;refine go ?_;refine VE (fun hb=> ?_) (fun hb=> ?_)
  ·refine gr ?_;refine⟨⟨i,rfl,?_⟩,e1.trans e2⟩;rw[Gx.2 ⟨_,zG hi',hb⟩];simp
  ·refine go ?_;refine zA (i+1) (by omega) ⟨e1.trans e2,Wd,by omega,fun j hj=> ?_⟩;by_cases e:j=i
   ·subst e;exact hb
   ·exact hm j (by omega)
 ·refine gr ?_;refine⟨⟨-1,rfl,?_⟩,e1⟩;rw[YK fun x hx=>by obtain⟨j,hj,rfl⟩:=ZY hx;exact hm j (by omega)];rfl
theorem zM7(h:Uy)(v fv:Value)(l:List WK)(p:WK->Bool)(s:We h v l)(hl:(l.length:Int)<=9223372036854775807)(hf:∀ x∈l,∀ h1,Ext h h1->∀ cs,BJ h1 cs x->WV Tryz.prog tb fv [.agg cs.toArray] h1 fun r h'=>r=.bool (p x)/\Ext h1 h'):
  WC Tryz.prog tb 131 [v,fv] h fun r h'=>r=.bool (l.any p)/\Ext h h':=by
 refine en ?_;refine VA (zNc h v fv l p s hl hf) ?_;rintro _ h1 ⟨⟨n,rfl,e⟩,e1⟩;refine gr ?_;exact⟨by rw[<-e];rfl,e1⟩
theorem zOQ(h:Uy)(v fv:Value)(l:List WJ)(p:WJ->Bool)(s:Wa h v l)(hl:(l.length:Int)<=9223372036854775807)(hf:∀ x∈l,∀ h1,Ext h h1->∀ cs,RFn h1 cs x->WV Tryz.prog tb fv [.agg cs.toArray] h1 fun r h'=>r=.bool (p x)/\Ext h1 h'):
  WC Tryz.prog tb 128 [v,fv] h fun r h'=>(∃ n:Int,r=I n/\(decide (0<=n))=l.any p)/\Ext h h':=by
 refine en ?_;refine VD (fun i=>l.length-i) (fun i t h1=>Ext h h1/\zB t 8=I i/\i<=l.length/\∀ j,j<i->p (l.getD j default)=false) 0 ?_ ?_
 ·exact⟨Ext.refl h,U4,QL _,fun j hj=>absurd hj (Ql _)⟩
 rintro i t h1 hsame ⟨e1,s8,hi,hm⟩;have s1:=Wa.ext s e1;refine go ?_;refine VE (fun hb=> ?_) (fun hb=> ?_)<;>simp only[DB]at hb
 ·have hi':i<l.length:=by omega
  obtain⟨cs,hcs,pc,hs⟩:=zi s1 hi';have hff:=hf _ (zG hi') h1 e1 cs hcs;obtain⟨va,rfl,hR⟩:=hcs;refine go ?_;refine VU hff ?_;rintro _ h2 ⟨rfl,e2⟩;refine go ?_;refine VE (fun hb=> ?_) (fun hb=> ?_)
  ·refine gr ?_;refine⟨⟨i,rfl,?_⟩,e1.trans e2⟩;rw[Gx.2 ⟨_,zG hi',hb⟩];simp
  ·refine go ?_;refine zA (i+1) (by omega) ⟨e1.trans e2,Wd,by omega,fun j hj=> ?_⟩;by_cases e:j=i
   ·subst e;exact hb
   ·exact hm j (by omega)
 ·refine gr ?_;refine⟨⟨-1,rfl,?_⟩,e1⟩;rw[YK fun x hx=>by obtain⟨j,hj,rfl⟩:=ZY hx;exact hm j (by omega)];rfl
theorem zOZ(h:Uy)(v fv:Value)(l:List WJ)(p:WJ->Bool)(s:Wa h v l)(hl:(l.length:Int)<=9223372036854775807)(hf:∀ x∈l,∀ h1,Ext h h1->∀ cs,RFn h1 cs x->WV Tryz.prog tb fv [.agg cs.toArray] h1 fun r h'=>r=.bool (p x)/\Ext h1 h'):
  WC Tryz.prog tb 101 [v,fv] h fun r h'=>r=.bool (l.any p)/\Ext h h':=by
 refine en ?_;refine VA (zOQ h v fv l p s hl hf) ?_;rintro _ h1 ⟨⟨n,rfl,e⟩,e1⟩;refine gr ?_;exact⟨by rw[<-e];rfl,e1⟩
end Go.Proofs.YtfnndahpddkniaaGreatDoor
set_option maxRecDepth 100000
namespace Go.Proofs.YtfnndahpddkniaaGreatDoor
open Go.Am
abbrev szV(s:Bb):List Value:=[I s.types,I s.funcs,I s.regs,I s.blocks]
theorem zO4(h h0:Uy)(p:Value)(x:WU)(s:Bb)(cs:List Value)(T:BU h)(hR:Wq h cs x)(o:Uz h0 h p (szV s)):
  WC Tryz.prog tb 129 [.agg cs.toArray,p] h fun r h'=>r=.bool (!Bj x s)/\Ext h h':=by
 obtain⟨va,vf,rfl,sa,sf,hla,hlf,ho⟩:=hR;refine en ?_;refine VF ?_;intro p2 h1 e1 o1;have o:=o.ext e1;refine go ?_;refine VA (zPI h1 x va vf s (T.ext e1) (sa.ext e1) (sf.ext e1) (by omega) (by omega) ho) ?_;rintro _ h2 ⟨rfl,e2⟩;refine gr ?_;exact⟨rfl,e1.trans e2⟩
theorem zPe(h h0 h00:Uy)(p1 p2:Value)(b:WK)(s:Bb)(cs:List Value)(T:BU h)(hR:BJ h cs b)(o1:Uz h0 h p1 [.func (.func 129) #[] #[p2]])(o2:Uz h00 h p2 (szV s)):
  WC Tryz.prog tb 132 [.agg cs.toArray,p1,p2] h fun r h'=>r=.bool (YY b s)/\Ext h h':=by
 obtain⟨vi,rfl,si,hl⟩:=hR;refine en ?_;refine VF ?_;intro p3 h1 e1 o3;have o1:=o1.ext e1;have o2:=o2.ext e1;have T1:=T.ext e1;refine go ?_;refine VA (zLp h1 vi _ b.ins (fun x=> !Bj x s) (W2.ext si e1) (by omega) ?_) ?_
 ·intro x hx h2 e2 cs hcs;exact WV.func (zO4 h2 h00 p2 x s cs (T1.ext e2) hcs (o2.ext e2))
 rintro _ h2 ⟨rfl,e2⟩;have o3:=o3.ext e2;have o2:=o2.ext e2;refine go ?_;refine VJ (fun hb=> ?_) (fun hb=> ?_)<;>refine go ?_
 ·refine rt ?_;exact⟨by simp only[YY,hb,Qw];rfl,e1.trans e2⟩
 ·refine VA (zPQ h2 b.fin s) ?_;rintro _ h3 ⟨rfl,e3⟩;refine gr ?_;exact⟨by simp only[YY,hb,Qu];rfl,(e1.trans e2).trans e3⟩
theorem zAD(l:List WK):0<=zN l:=by
 unfold zN;induction l with
 |nil=>simp
 |cons b l ih=>simp only[Q1,JH];omega
theorem zQI(h:Uy)(vt vf vb:Value)(T:List U0)(F:List WJ)(f:WJ)(tt:BU h)(hm:h.mark<=h.n)(st:Wn h vt T)(sf:Wa h vf F)(sb:We h vb f.blocks)(hT:T.length<=100)(hp:∀ x∈T,x.parts.length<=100)(hF:(F.length:Int)<=9223372036854775807)(hB:f.blocks.length<=1000)(hI:∀ b∈f.blocks,b.ins.length<=1000):
  WC Tryz.prog tb 103 [.agg #[vt,vf],.agg #[I f.sig,vb]] h fun r h'=>r=.bool (BF T F.length f)/\Ext h h':=by
 refine en ?_;refine VF ?_;intro p2 h1 e1 o1;refine VF ?_;intro p3 h2 e2 o2;have o1:=o1.ext e2;have e12:=e1.trans e2;have st2:=st.ext e12;have sf2:=Wa.ext sf e12;have sb2:=We.ext sb e12;have tt2:=tt.ext e12;have hm2:h2.mark<=h2.n:=by have:=e12.mark;have:=e12.n;omega
 have hbad:Bp T f=Bp T f:=rfl;conv at hbad=>rhs;unfold Bp
 refine go ?_;refine VA (ZT h2 f.sig T.length) ?_;rintro _ _ ⟨rfl,rfl⟩;refine go ?_;refine VJ (fun hb=> ?_) (fun hb=> ?_)<;>simp only[DB]at hb<;>refine go ?_
 ·refine rt ?_;refine⟨?_,e12⟩;rw[BF,QF (show Bp T f=true by rw[hbad,hb];rfl)];rfl
 have hsig:0<=f.sig/\f.sig<(T.length:Int):=by
  unfold zY at hb;simpa using hb
 obtain⟨csT,⟨vp,rfl,sp,hsp⟩,pcT,hsT⟩:=yO (i:=f.sig.toNat) st2 (by omega);have hpx:(T.getD f.sig.toNat default).parts.length<=100:=hp _ (zG (by omega));refine go ?_;refine VJ (fun hc=> ?_) (fun hc=> ?_)<;>simp only[DB]at hc<;>refine go ?_
 ·refine rt ?_;refine⟨?_,e12⟩;rw[BF,QF (show Bp T f=true by rw[hbad,hb,QS hc];rfl)];rfl
 refine VA (ZT h2 ((f.blocks.length:Int)-1) 16) ?_;rintro _ _ ⟨rfl,rfl⟩;refine go ?_;refine VJ (fun hd=> ?_) (fun hd=> ?_)<;>simp only[DB]at hd<;>refine go ?_
 ·refine rt ?_;refine⟨?_,e12⟩;rw[BF,QF (show Bp T f=true by rw[hbad,hb,QT hc,hd];rfl)];rfl
 refine VA (zGy h2 f.sig vb f.blocks sb2 hB hI) ?_;rintro _ h3 ⟨rfl,e3⟩;have e13:=e12.trans e3;have o1:=o1.ext e3;have o2:=o2.ext e3;have st3:=st2.ext e3;have sf3:=Wa.ext sf2 e3;have sb3:=We.ext sb2 e3;have tt3:=tt2.ext e3;have hm3:h3.mark<=h3.n:=by have:=e3.mark;have:=e3.n;omega
 refine go ?_;refine VE (fun he=> ?_) (fun he=> ?_)<;>simp only[DB]at he<;>refine go ?_
 ·refine rt ?_;refine⟨?_,e13⟩;rw[BF,QF (show Bp T f=true by rw[hbad,hb,QT hc,hd,QT he];rfl)];rfl
 refine goC ?_;have hbadF:Bp T f=false:=by rw[hbad,hb,QT hc,hd,QS (by omega)];rfl
 obtain⟨a',n',k',rfl⟩:=zD st3;clear hbad hb hd pcT;refine VC 1 rfl rfl ?_;have e4:=zH 1 h3;generalize hqq:zC 1 h3=h4 at *;have hn4:h4.n=h3.n+1:=by rw[<-hqq];rfl
 have o1r:Uz h (inC h4) p2 [.slice a' n' k',vf]:=by have:=o1.ext e4;exact this
 have o2r:Uz h1 (inC h4) p3 [I f.sig,vb]:=by have:=o2.ext e4;exact this
 have str:Wn (inC h4) (.slice a' n' k') T:=by have:=st3.ext e4;exact this
 have sfr:Wa (inC h4) vf F:=by have:=Wa.ext sf3 e4;exact this
 have sbr:We (inC h4) vb f.blocks:=by have:=We.ext sb3 e4;exact this
 obtain⟨csr,⟨vpr,rfl,spr,hspr⟩,pcr,hsr⟩:=yO (i:=f.sig.toNat) str (by omega);refine WB ?_;refine VA (zGy (inC h4) f.sig vb f.blocks sbr hB hI) ?_;rintro _ h5 ⟨rfl,e5⟩;refine WO.nil ?_;refine zOs e5 rfl ?_;have o1s:Uz h (inC h5) p2 [.slice a' n' k',vf]:=by have:=o1r.ext e5;exact this
 have o2s:Uz h1 (inC h5) p3 [I f.sig,vb]:=by have:=o2r.ext e5;exact this
 have sbs:We (inC h5) vb f.blocks:=by have:=We.ext sbr e5;exact this
 have hmp:=zAD f.blocks;refine WB ?_;refine zCJ o2 (by omega) ?_;refine WB ?_;have hn5:h3.n<h5.n:=by have:h4.n<=h5.n:=e5.n;omega
 refine XF hm3 hn5 ?_;rw[<-hqq]at e5;have e6:=zG1 (o:= .row [I 0,I 0,I 0,I 0] true 0) (o':= .row [I (T.length:Int),I (F.length:Int),I (((T.getD f.sig.toNat default).parts.length:Int)+zN f.blocks),I (f.blocks.length:Int)] true 0) (k:=0) e5;have o5:=zG2 (cs:=[I (T.length:Int),I (F.length:Int),I (((T.getD f.sig.toNat default).parts.length:Int)+zN f.blocks),I (f.blocks.length:Int)]) (o:= .row [I 0,I 0,I 0,I 0] true 0) e5;unfold zAy;refine(?_:∀ h6,Ext h3 h6->Uz h3 h6 (.pointer (some ⟨h3.n,0,none⟩)) (szV (Bd T F.length f))->zEx _ _ _ _ _ _ h6) _ e6 o5;clear e6 o5;intro h6 e6 o5;generalize Value.pointer (some ⟨h3.n,0,none⟩)=p5 at *;have o2:=o2.ext e6;have sb6:=We.ext sb3 e6;have tt6:=tt3.ext e6;have e16:=e13.trans e6;refine go ?_;refine VK ?_;intro p6 h7 e7 o6;refine VG o6 e7 ?_;intro h8 e8 o6 _;have o2:=o2.ext e8;have o5:=o5.ext e8;have sb8:=We.ext sb6 e8;have tt8:=tt6.ext e8;refine go ?_;refine VA (zM7 h8 vb _ f.blocks (fun b=>YY b (Bd T F.length f)) sb8 (by omega) ?_) ?_
 ·intro b hb h9 e9 cs hcs;exact WV.func (zPe h9 h6 h3 p6 p5 b (Bd T F.length f) cs (tt8.ext e9) hcs (o6.ext e9) (o5.ext e9))
 rintro _ h9 ⟨rfl,e9⟩;refine gr ?_;exact⟨by rw[BF,QC (by rw[hbadF];exact Bool.noConfusion)];rfl,(e16.trans e8).trans e9⟩
end Go.Proofs.YtfnndahpddkniaaGreatDoor
set_option maxRecDepth 100000
namespace Go.Proofs.YtfnndahpddkniaaGreatDoor
open Go.Am
theorem zp{h h':Uy}(e:Ext h h')(hm:h.mark<=h.n):h'.mark<=h'.n:=by have:=e.mark;have:=e.n;omega
theorem zNr(h h0:Uy)(p vt vf:Value)(T:List U0)(F:List WJ)(f:WJ)(cs:List Value)(tt:BU h)(hm:h.mark<=h.n)(sm:Wv T F)(hf:f∈F)(st:Wn h vt T)(sf:Wa h vf F)(hR:RFn h cs f)(o:Uz h0 h p [vt,vf]):
  WC Tryz.prog tb 102 [.agg cs.toArray,p] h fun r h'=>r=.bool (!BF T F.length f)/\Ext h h':=by
 obtain⟨vb,rfl,sb,hl⟩:=hR;refine en ?_;refine VF ?_;intro p2 h1 e1 o1;have o:=o.ext e1;refine go ?_;refine VA (zQI h1 vt vf vb T F f (tt.ext e1) (zp e1 hm) (st.ext e1) (Wa.ext sf e1) (We.ext sb e1) sm.types sm.parts (by have:=sm.funcs;omega) (sm.blocks f hf) (sm.ins f hf)) ?_;rintro _ h2 ⟨rfl,e2⟩;refine gr ?_;exact⟨rfl,e1.trans e2⟩
theorem zJl(h:Uy)(vt vf:Value)(T:List U0)(F:List WJ)(tt:BU h)(hm:h.mark<=h.n)(sm:Wv T F)(st:Wn h vt T)(sf:Wa h vf F):
  WC Tryz.prog tb 77 [.agg #[vt,vf]] h fun r h'=>r=I (yx T F)/\Ext h h':=by
 refine en ?_;refine VF ?_;intro p h1 e1 o1;have st1:=st.ext e1;refine go ?_;refine VA (zHJ h1 vt T st1 sm.types sm.parts) ?_;rintro _ h2 ⟨rfl,e2⟩;have e12:=e1.trans e2;have o1:=o1.ext e2;have st2:=st1.ext e2;have sf2:=Wa.ext sf e12;have tt2:=tt.ext e12;have hF:=sm.funcs;refine go ?_;refine VE (fun hb=> ?_) (fun hb=> ?_)<;>simp only[DB]at hb<;>refine go ?_
 ·refine rt ?_;exact⟨by rw[yx,QF hb];rfl,e12⟩
 refine VA (ZT h2 ((F.length:Int)-1) 8) ?_;rintro _ _ ⟨rfl,rfl⟩;refine go ?_;refine VJ (fun hc=> ?_) (fun hc=> ?_)<;>simp only[DB]at hc<;>refine go ?_
 ·refine rt ?_;exact⟨by rw[yx,QC (by omega),hc];simp[one],e12⟩
 refine VA (zOZ h2 vf _ F (fun f=> !BF T F.length f) sf2 (by omega) ?_) ?_
 ·intro f hf h3 e3 cs hcs;exact WV.func (zNr h3 h p vt vf T F f cs (tt2.ext e3) (zp (e12.trans e3) hm) sm hf (st2.ext e3) (Wa.ext sf2 e3) hcs (o1.ext e3))
 rintro _ h3 ⟨rfl,e3⟩;refine go ?_;refine VE (fun hd=> ?_) (fun hd=> ?_)<;>refine go ?_<;>refine rt ?_<;>refine⟨?_,e12.trans e3⟩<;>rw[yx,QC (by omega),hc,hd]
 ·simp[one]
 ·simp[one]
theorem yT{T:List U0}{F:List WJ}(h:yx T F=0):yR T=0/\1<=F.length/\F.length<=8/\∀ f∈F,BF T F.length f=true:=by
 unfold yx at h;split at h
 ·rename_i hc;exact absurd h hc
 ·rename_i hc;split at h
  ·cases h
  ·rename_i hd;simp only[GE,not_or,JF,Bool.not_eq_false']at hd;have h1:zY ((F.length:Int)-1) 8=true:=by simpa using hd.1
   unfold zY at h1;simp only[QJ,Qc]at h1;refine⟨by omega,by omega,by omega,fun f hf=> ?_⟩;have:=Gt.1 hd.2 f hf;simpa using this
theorem zEc{T:List U0}{n:Int}{f:WJ}(h:BF T n f=true):0<=f.sig/\f.sig<(T.length:Int):=by
 unfold BF at h;split at h
 ·cases h
 ·rename_i hb;unfold Bp at hb;simp only[GE,not_or,JF,Bool.not_eq_false']at hb;have h1:zY f.sig T.length=true:=by simpa using hb.1.1.1
  unfold zY at h1;simpa using h1
theorem zLt(h:Uy)(vt vf:Value)(T:List U0)(F:List WJ)(f:Int)(tt:BU h)(hm:h.mark<=h.n)(sm:Wv T F)(st:Wn h vt T)(sf:Wa h vf F):
  WC Tryz.prog tb 80 [.agg #[vt,vf],I f] h fun r h'=>r=.tuple #[I (z8 T F f).1,I (z8 T F f).2]/\Ext h h':=by
 refine en ?_;refine VF ?_;intro p h1 e1 o1;refine go ?_;refine VA (zJl h1 vt vf T F (tt.ext e1) (zp e1 hm) sm (st.ext e1) (Wa.ext sf e1)) ?_;rintro _ h2 ⟨rfl,e2⟩;have e12:=e1.trans e2;have o1:=o1.ext e2;have st2:=st.ext e12;have sf2:=Wa.ext sf e12;have hF:=sm.funcs;refine go ?_;refine VE (fun hb=> ?_) (fun hb=> ?_)<;>simp only[DB]at hb<;>refine go ?_
 ·refine rt ?_;exact⟨by rw[z8,QF hb];rfl,e12⟩
 have hb:yx T F=0:=by omega
 refine VA (ZT h2 f F.length) ?_;rintro _ _ ⟨rfl,rfl⟩;refine go ?_;refine VE (fun hc=> ?_) (fun hc=> ?_)<;>simp only[DB]at hc<;>refine go ?_
 ·refine rt ?_;exact⟨by rw[z8,QC (by omega),hc,QC (by exact Bool.noConfusion)];rfl,e12⟩
 have hf:0<=f/\f<(F.length:Int):=by unfold zY at hc;simpa using hc
 obtain⟨csF,⟨vb,rfl,sb,hlb⟩,pcF,hsF⟩:=zi (i:=f.toNat) sf2 (by omega);have hsig:=zEc ((yT hb).2.2.2 _ (zG (l:=F) (i:=f.toNat) (by omega)));obtain⟨csT,⟨vp,rfl,sp,hsp⟩,pcT,hsT⟩:=yO (i:=(F.getD f.toNat default).sig.toNat) st2 (by omega);refine gr ?_;exact⟨by rw[z8,QC (by omega),hc,QF rfl];rfl,e12⟩
theorem zJu(h:Uy)(vt vf:Value)(T:List U0)(F:List WJ)(f:Int)(tt:BU h)(hm:h.mark<=h.n)(sm:Wv T F)(st:Wn h vt T)(sf:Wa h vf F):
  WC Tryz.prog tb 59 [.agg #[vt,vf],I f] h fun r h'=>r=.tuple #[I (Yu T F f).1,I (Yu T F f).2]/\Ext h h':=by
 refine en ?_;refine VF ?_;intro p h1 e1 o1;refine go ?_;refine VA (zLt h1 vt vf T F f (tt.ext e1) (zp e1 hm) sm (st.ext e1) (Wa.ext sf e1)) ?_;rintro _ h2 ⟨rfl,e2⟩;have e12:=e1.trans e2;have o1:=o1.ext e2;have sf2:=Wa.ext sf e12;have hF:=sm.funcs;refine go ?_;refine VE (fun hb=> ?_) (fun hb=> ?_)<;>simp only[DB]at hb<;>refine go ?_
 ·refine rt ?_;exact⟨by rw[Yu,QF hb];rfl,e12⟩
 have hb2:(z8 T F f).2=0:=by omega
 have hin:0<=f/\f<(F.length:Int)/\yx T F=0:=by
  unfold z8 at hb2;split at hb2
  ·rename_i hp;exact absurd hb2 hp
  ·rename_i hp;split at hb2
   ·rename_i hc;unfold zY at hc;simp at hc;exact⟨hc.1,hc.2,by omega⟩
   ·cases hb2
 obtain⟨csF,⟨vb,rfl,sb,hlb⟩,pcF,hsF⟩:=zi (i:=f.toNat) sf2 (by omega);have hmem:=zG (l:=F) (i:=f.toNat) (by omega);refine go ?_;refine VA (zGy h2 _ vb _ sb (sm.blocks _ hmem) (sm.ins _ hmem)) ?_;rintro _ h3 ⟨rfl,e3⟩;have hfn:=(yT hin.2.2).2.2.2 _ hmem;have hbd:zN (F.getD f.toNat default).blocks<=128:=by
  unfold BF at hfn;split at hfn
  ·cases hfn
  ·rename_i hbad;unfold Bp at hbad;simp only[GE,not_or,JF,Gf]at hbad;omega
 have hpos:=zAD (F.getD f.toNat default).blocks;have hn:0<=(z8 T F f).1/\(z8 T F f).1<=100:=by
  unfold z8;split
  ·simp
  ·split
   ·have hs:=zEc hfn;have:=sm.parts _ (zG (l:=T) (i:=(F.getD f.toNat default).sig.toNat) (by omega));simp only;omega
   ·simp
 refine gr ?_;exact⟨by rw[Yu,QC (by omega)];rfl,e12.trans e3⟩
end Go.Proofs.YtfnndahpddkniaaGreatDoor
set_option maxRecDepth 100000
namespace Go.Proofs.YtfnndahpddkniaaGreatDoor
open Go.Am
theorem zLD(h:Uy)(vt:Value)(T:List U0)(st:Wn h vt T)(hT:(T.length:Int)<=9223372036854775807):
  WC Tryz.prog tb 30 [vt] h fun r h'=>(r=.bool true\/r=.bool false/\T.length<=20/\∀ x∈T,x.parts.length<=20)/\h=h':=by
 refine en ?_;refine VD (fun i=>T.length-i) (fun i t h1=>h=h1/\zB t 3=I i/\i<=T.length/\∀ j,j<i->(T.getD j default).parts.length<=20) 0 ?_ ?_
 ·exact⟨rfl,U4,QL _,fun j hj=>absurd hj (Ql _)⟩
 rintro i t _ hsame ⟨rfl,s3,hi,hm⟩;have fin:(20<(T.length:Int))\/(i=T.length/\T.length<=20)\/i<T.length:=by omega
 refine go ?_;refine VJ (fun hb=> ?_) (fun hb=> ?_)<;>simp only[DB]at hb<;>refine go ?_
 ·obtain⟨cs,⟨va,rfl,sa,hla⟩,pc,hs⟩:=yO st (show i<T.length by omega);refine VE (fun hc=> ?_) (fun hc=> ?_)<;>simp only[DB]at hc
  ·refine go ?_;refine VE (fun hd=> ?_) (fun hd=> ?_)<;>simp only[DB]at hd
   ·refine gr ?_;exact⟨.inl rfl,rfl⟩
   ·refine go ?_;refine zA (i+1) (by omega) ⟨rfl,Wd,by omega,fun j hj=> ?_⟩;by_cases e:j=i
    ·subst e;omega
    ·exact hm j (by omega)
  ·refine gr ?_;refine⟨.inl ?_,rfl⟩;rw[QT (show(20:Int)<T.length by omega)];rfl
 ·refine rt ?_;refine⟨?_,rfl⟩;by_cases hg:20<(T.length:Int)
  ·left;rw[QT hg];rfl
  ·right;refine⟨by rw[QS hg];rfl,by omega,fun x hx=> ?_⟩;obtain⟨j,hj,rfl⟩:=ZY hx;exact hm j (by omega)
def zEz(F:List WJ):Prop:=∀ f∈F,∀ b∈f.blocks,∀ x∈b.ins,x.args.length<=20/\x.frm.length<=20
theorem zLl{T:List U0}{F:List WJ}(h1:T.length<=20)(h2:∀ x∈T,x.parts.length<=20)(h3:F.length<=10)(h4:∀ f∈F,f.blocks.length<=20/\∀ b∈f.blocks,b.ins.length<=1000):Wv T F:=
 ⟨by omega,fun x hx=>by have:=h2 x hx;omega,by omega,fun f hf=>by have:=(h4 f hf).1;omega,fun f hf=>(h4 f hf).2⟩
theorem zKe(h:Uy)(vt vf:Value)(T:List U0)(F:List WJ)(most:Int)(hmost:0<=most/\most<=1000)(st:Wn h vt T)(sf:Wa h vf F)(hT:(T.length:Int)<=9223372036854775807)(hF:(F.length:Int)<=9223372036854775807):
  WC Tryz.prog tb 8 [.agg #[vt,vf],I most] h fun r h'=>(r=.bool true\/r=.bool false/\Wv T F/\zEz F)/\Ext h h':=by
 refine en ?_;refine VF ?_;intro p h1 e1 o1;have st1:=st.ext e1;have sf1:=Wa.ext sf e1;refine go ?_;refine VA (zLD h1 vt T st1 hT) ?_;rintro r _ ⟨hr,rfl⟩;refine go ?_;rcases hr with rfl|⟨rfl,hT2,hp2⟩
 ·refine gr ?_;exact⟨.inl rfl,e1⟩
 refine go ?_;refine VE (fun hb=> ?_) (fun hb=> ?_)<;>simp only[DB]at hb<;>refine go ?_
 ·refine rt ?_;exact⟨.inl rfl,e1⟩
 refine VD (fun i=>F.length-i) (fun i t h2=>h1=h2/\zB t 6=I i/\i<=F.length/\(∃ n,zB t 5=I n/\0<=n/\n<=most)/\∀ j,j<i->(F.getD j default).blocks.length<=20/\∀ b∈(F.getD j default).blocks,b.ins.length<=1000/\∀ x∈b.ins,x.args.length<=20/\x.frm.length<=20) 0 ?_ ?_
 ·exact⟨rfl,U4,QL _,⟨0,U4,by omega,by omega⟩,fun j hj=>absurd hj (Ql _)⟩
 rintro i t _ hsame ⟨rfl,s6,hi,⟨n,s5,hn0,hn⟩,hm⟩;refine go ?_;refine VE (fun hc=> ?_) (fun hc=> ?_)<;>simp only[DB]at hc
 ·have hi':i<F.length:=by omega
  obtain⟨csF,⟨vb,rfl,sb,hlb⟩,pcF,hsF⟩:=zi sf1 hi';refine go ?_;refine VE (fun hd=> ?_) (fun hd=> ?_)<;>simp only[DB]at hd<;>refine go ?_
  ·refine rt ?_;exact⟨.inl rfl,e1⟩
  refine VD (fun k=>(F.getD i default).blocks.length-k) (fun k t h2=>h1=h2/\zB t 7=I k/\k<=(F.getD i default).blocks.length/\(∃ n,zB t 5=I n/\0<=n/\n<=most)/\∀ j,j<k->((F.getD i default).blocks.getD j default).ins.length<=1000/\∀ x∈((F.getD i default).blocks.getD j default).ins,x.args.length<=20/\x.frm.length<=20) 0 ?_ ?_
  ·exact⟨rfl,U4,QL _,⟨n,U4,hn0,hn⟩,fun j hj=>absurd hj (Ql _)⟩
  rintro k t2 _ hsame2 ⟨rfl,s7,hk,⟨n2,s5b,hn20,hn2⟩,hm2⟩;refine go ?_;refine VE (fun he=> ?_) (fun he=> ?_)<;>simp only[DB]at he
  ·have hk':k<(F.getD i default).blocks.length:=by omega
   obtain⟨csB,⟨vi,rfl,si,hli⟩,pcB,hsB⟩:=zi sb hk';refine go ?_;refine VE (fun hf=> ?_) (fun hf=> ?_)<;>simp only[DB]at hf<;>refine go ?_
   ·refine rt ?_;exact⟨.inl rfl,e1⟩
   refine VD (fun j=>((F.getD i default).blocks.getD k default).ins.length-j) (fun j t h2=>h1=h2/\zB t 9=I j/\j<=((F.getD i default).blocks.getD k default).ins.length/\∀ q,q<j->(((F.getD i default).blocks.getD k default).ins.getD q default).args.length<=20/\(((F.getD i default).blocks.getD k default).ins.getD q default).frm.length<=20) 0 ?_ ?_
   ·exact⟨rfl,U4,QL _,fun q hq=>absurd hq (Ql _)⟩
   rintro j t3 _ hsame3 ⟨rfl,s9,hj,hq9⟩;refine go ?_;refine VE (fun hg=> ?_) (fun hg=> ?_)<;>simp only[DB]at hg
   ·have hj':j<((F.getD i default).blocks.getD k default).ins.length:=by omega
    obtain⟨csI,⟨va,vfr,rfl,sa,sfr,hla,hlf,ho⟩,pcI,hsI⟩:=zi si hj';refine go ?_;refine VJ (fun hh=> ?_) (fun hh=> ?_)<;>simp only[DB]at hh<;>refine go ?_
    ·refine rt ?_;exact⟨.inl rfl,e1⟩
    refine VE (fun hh2=> ?_) (fun hh2=> ?_)<;>simp only[DB]at hh2<;>refine go ?_
    ·refine rt ?_;exact⟨.inl rfl,e1⟩
    ·refine zA (j+1) (by omega) ⟨rfl,Wd,by omega,fun q hq=> ?_⟩;by_cases e:q=j
     ·subst e;omega
     ·exact hq9 q (by omega)
   ·refine go ?_;refine zA (k+1) (by omega) ⟨rfl,Wd,by omega,⟨n2+(((F.getD i default).blocks.getD k default).ins.length:Int),U4,by omega,by omega⟩,fun q hq=> ?_⟩;by_cases e:q=k
    ·subst e;refine⟨by omega,fun x hx=> ?_⟩;obtain⟨y,hy,rfl⟩:=ZY hx;exact hq9 y (by omega)
    ·exact hm2 q (by omega)
  ·refine go ?_;refine zA (i+1) (by omega) ⟨rfl,Wd,by omega,⟨n2,U4,hn20,hn2⟩,fun q hq=> ?_⟩;by_cases e:q=i
   ·subst e;refine⟨by omega,fun b hb=> ?_⟩;obtain⟨y,hy,rfl⟩:=ZY hb;exact hm2 y (by omega)
   ·exact hm q (by omega)
 ·refine gr ?_;have hall:∀ f∈F,f.blocks.length<=20/\∀ b∈f.blocks,b.ins.length<=1000/\∀ x∈b.ins,x.args.length<=20/\x.frm.length<=20:=fun f hf=>by
   obtain⟨y,hy,rfl⟩:=ZY hf;exact hm y (by omega)
  exact⟨.inr ⟨rfl,zLl hT2 hp2 (by omega) fun f hf=>⟨(hall f hf).1,fun b hb=>((hall f hf).2 b hb).1⟩,fun f hf b hb=>((hall f hf).2 b hb).2⟩,e1⟩
end Go.Proofs.YtfnndahpddkniaaGreatDoor
set_option maxRecDepth 100000
namespace Go.Proofs.YtfnndahpddkniaaGreatDoor
open Go.Am
def ZL(x:BP):List Int:=if x.kind=1 then[x.to]else if x.kind=2 then(if x.to=x.els then[x.to]else[x.to,x.els])else[]
def BZ(h:Uy)(v:Value):Prop:=∀ a n c,v=.slice (some a) n c->h.n<=a.block
theorem BZ.since{h h':Uy}{v:Value}(f:BZ h' v)(n:h.n<=h'.n):BZ h v:=fun a k c e=>QU n (f a k c e)
theorem zFn{h0 h:Uy}{v:Value}{l:List Int}(o:WQ h0 h v l):BZ h0 v:=by
 obtain⟨g,a,_,rfl,_⟩:=o;intro a n c e;cases e;assumption
theorem zIO(h0 h:Uy)(v:Value)(a b:Int)(e0:Ext h0 h)(o:WQ h0 h v [a,b]):
  WC Tryz.prog tb 224 [v] h fun r h'=>WH h' r (if a=b then[a]else[a,b])/\BZ h0 r/\Ext h0 h':=by
 have s:WH h v [a,b]:=o.sl;have fr:=zFn o;refine en ?_;refine VE (fun hb=> ?_) (fun hb=> ?_)<;>simp only[DB]at hb
 ·exact absurd hb (by simp)
 refine go ?_;refine VD (fun i=>2-i) (fun i t h1=>h=h1/\zB t 3=I i/\(i=1\/i=2/\a≠b)) 1 ?_ ?_
 ·exact⟨rfl,U4,.inl rfl⟩
 rintro i t _ hsame ⟨rfl,s3,hi⟩;have hlen:([a,b]:List Int).length=2:=rfl;refine go ?_;refine VE (fun hc=> ?_) (fun hc=> ?_)<;>simp only[DB]at hc
 ·have hi1:i=1:=by rw[hlen]at hc;omega
  subst hi1;refine go ?_;refine VE (fun hd=> ?_) (fun hd=> ?_)<;>simp only[DB]at hd
  ·have hab:a=b:=by simpa [List.getD]using hd.symm
   subst hab;obtain⟨g,g1,g2,rfl,g3⟩:=o;refine go ?_;refine Vi (i:=1) (v:= .slice (some ⟨g,0,none⟩) [a,a].length 1) (r:= .slice (some ⟨g,1,none⟩) 1 1) (by rfl) ?_;have s4:WH h (.slice (some ⟨g,1,none⟩) 1 1) [a]:=⟨rfl,.inr ⟨g,1,_,rfl,ZZ g3,by rfl,g2⟩⟩;refine go ?_;refine VD (fun i=>1) (fun(i:Unit) t h1=>h=h1/\zB t 5=I 1/\zB t 3=I ((1:Nat):Int)) () ?_ ?_
   ·exact⟨rfl,U4,U4⟩
   rintro _ t2 _ hsame2 ⟨rfl,s5,s3b⟩;have hlen1:([a]:List Int).length=1:=rfl;refine go ?_;refine Vi (i:=1) (v:= .slice (some ⟨g,0,none⟩) [a,a].length 1) (r:= .slice (some ⟨g,1,none⟩) 1 1) (by rfl) ?_;have hcl:zBP 1 [I 0] (.slice (some ⟨g,1,none⟩) 1 1) h=some (.tuple #[],h.set g (.row [I a,I 0] true 0)):=by
    show((zr h ⟨g,1,none⟩ [I 0]).map (Value.tuple #[],·))=_;have:zr h ⟨g,1,none⟩ [I 0]=some (h.set g (.row [I a,I 0] true 0)):=by
     unfold zr;rw[g3];rfl
    rw[this];rfl
   refine Ub hcl ?_;have e1:Ext h0 (h.set g (.row [I a,I 0] true 0)):=e0.set g1 g2 _;refine go ?_;refine Vt (i:=1) (v:= .slice (some ⟨g,0,none⟩) [a,a].length 1) (r:= .slice (some ⟨g,0,none⟩) 1 1) (by rfl) ?_;refine gr ?_;refine⟨?_,(fun a k c e=>by cases e;exact g1),e1⟩;rw[QF rfl];exact⟨rfl,.inr ⟨g,0,[I a,I 0],rfl,by unfold yV;rw[zw,QF rfl],by rfl,g2⟩⟩
  ·have hab:a≠b:=fun e=>hd (by simp[List.getD,e]);refine go ?_;exact zA 2 (by omega) ⟨rfl,U4,.inr ⟨rfl,hab⟩⟩
 ·refine gr ?_
  have:a≠b:=by rcases hi with rfl|⟨_,h⟩;. exact absurd hc (by simp)
               ·exact h
  exact⟨by rw[QC this];exact s,fr,e0⟩
theorem zJr(h:Uy)(x:BP):
  WC Tryz.prog tb 206 [.agg #[.int .u8 x.kind,I x.a,I x.to,I x.els]] h fun r h'=>WH h' r (ZL x)/\BZ h r/\Ext h h':=by
 refine en ?_;refine VF ?_;intro p h1 e1 o1;refine go ?_;refine VE (fun hb=> ?_) (fun hb=> ?_)<;>simp only[DB]at hb<;>refine go ?_
 ·refine WO.bl [x.to] ?_;intro v h2 e2 o2;refine gr ?_;refine⟨?_,(zFn o2).since e1.n,e1.trans e2⟩;rw[ZL,QF hb];exact o2.sl
 refine VE (fun hc=> ?_) (fun hc=> ?_)<;>simp only[DB]at hc<;>refine go ?_
 ·refine WO.bl [x.to,x.els] ?_;intro v h2 e2 o2;refine go ?_;refine VA (zIO h1 h2 v x.to x.els e2 o2) ?_;rintro r h3 ⟨s3,f3,e3⟩;refine gr ?_;refine⟨?_,f3.since e1.n,e1.trans e3⟩;rw[ZL,QC hb,QF hc];exact s3
 ·refine rt ?_;refine⟨?_,(fun a k c e=>by cases e),e1⟩;rw[ZL,QC hb,QC hc];exact WH.nil _
def zE(T:List U0)(F:List WJ)(f b:Int):List WK×Int:=
 if(Yu T F f).2≠0 then([],(Yu T F f).2)else if b<0\/((F.getD f.toNat default).blocks.length:Int)<=b then([],2)else((F.getD f.toNat default).blocks,0)
theorem zBX{T:List U0}{F:List WJ}{f:Int}(h:(Yu T F f).2=0):0<=f/\f<(F.length:Int)/\yx T F=0:=by
 have hb2:(z8 T F f).2=0:=by
  unfold Yu at h;split at h
  ·rename_i hn;exact absurd h hn
  ·rename_i hn;omega
 unfold z8 at hb2;split at hb2
 ·rename_i hp;exact absurd hb2 hp
 ·rename_i hp;split at hb2
  ·rename_i hc;unfold zY at hc;simp at hc;exact⟨hc.1,hc.2,by omega⟩
  ·cases hb2
theorem zCr(h:Uy)(vt vf:Value)(T:List U0)(F:List WJ)(f b:Int)(tt:BU h)(hm:h.mark<=h.n)(sm:Wv T F)(st:Wn h vt T)(sf:Wa h vf F):
  WC Tryz.prog tb 174 [.agg #[vt,vf],I f,I b] h fun r h'=>(∃ v,r=.tuple #[v,I (zE T F f b).2]/\We h' v (zE T F f b).1)/\Ext h h':=by
 refine en ?_;refine VF ?_;intro p h1 e1 o1;refine go ?_;refine VA (zJu h1 vt vf T F f (tt.ext e1) (zp e1 hm) sm (st.ext e1) (Wa.ext sf e1)) ?_;rintro _ h2 ⟨rfl,e2⟩;have e12:=e1.trans e2;have o1:=o1.ext e2;have sf2:=Wa.ext sf e12;have hF:=sm.funcs;refine go ?_;refine VE (fun hb=> ?_) (fun hb=> ?_)<;>simp only[DB]at hb<;>refine go ?_
 ·refine rt ?_;rw[show zE T F f b=([],(Yu T F f).2)from by rw[zE,QF hb]];exact⟨⟨_,rfl,Wx.nil⟩,e12⟩
 have hb0:(Yu T F f).2=0:=by omega
 have hin:=zBX hb0;obtain⟨csF,⟨vb,rfl,sb,hlb⟩,pcF,hsF⟩:=zi (i:=f.toNat) sf2 (by omega);refine VJ (fun hc=> ?_) (fun hc=> ?_)<;>simp only[DB]at hc<;>refine go ?_
 ·refine rt ?_;rw[show zE T F f b=([],2)from by rw[zE,QC (by omega),QF (.inl hc)]];exact⟨⟨_,rfl,Wx.nil⟩,e12⟩
 refine VE (fun hd=> ?_) (fun hd=> ?_)<;>simp only[DB]at hd<;>refine go ?_<;>refine rt ?_
 ·rw[show zE T F f b=([],2)from by rw[zE,QC (by omega),QF (.inr hd)]];exact⟨⟨_,rfl,Wx.nil⟩,e12⟩
 ·rw[show zE T F f b=((F.getD f.toNat default).blocks,0)from by rw[zE,QC (by omega),QC (by omega)]];exact⟨⟨_,rfl,sb⟩,e12⟩
theorem ZD{T:List U0}{F:List WJ}{f b:Int}(h:(zE T F f b).2=0):0<=b/\b<((zE T F f b).1.length:Int)/\(zE T F f b).1=(F.getD f.toNat default).blocks/\(Yu T F f).2=0:=by
 unfold zE at h |-;split at h
 ·rename_i hn;exact absurd h hn
 ·rename_i hn;rw[QC hn];split at h
  ·cases h
  ·rename_i hb;rw[QC hb];exact⟨by omega,by simp only;omega,rfl,by omega⟩
end Go.Proofs.YtfnndahpddkniaaGreatDoor
set_option maxRecDepth 100000
namespace Go.Proofs.YtfnndahpddkniaaGreatDoor
open Go.Am
theorem zOy{l:List Int}{n:Int}{i:Nat}(h:i<l.length)(e:l.getD i 0=n):n∈l:=e▸zO h
theorem zI9{l:List Int}{n:Int}(h:∀ i,i<l.length->l.getD i 0≠n):n∉l:=fun hn=>by
 obtain⟨i,hi,e⟩:=Zg hn;exact h i hi e
theorem zMH(h:Uy)(v:Value)(l:List Int)(n:Int)(s:WH h v l)(hl:(l.length:Int)<=9223372036854775807):
  WC Tryz.prog tb 207 [v,I n] h fun r h'=>(∃ k:Int,r=I k/\decide (0<=k)=decide (n∈l))/\h=h':=by
 refine en ?_;refine VD (fun i=>l.length-i) (fun i t h1=>h=h1/\zB t 8=I i/\i<=l.length/\∀ j,j<i->l.getD j 0≠n) 0 ?_ ?_
 ·exact⟨rfl,U4,QL _,fun j hj=>absurd hj (Ql _)⟩
 rintro i t _ hsame ⟨rfl,s8,hi,hm⟩;refine go ?_;refine VE (fun hb=> ?_) (fun hb=> ?_)<;>simp only[DB]at hb
 ·have hi':i<l.length:=by omega
  refine go ?_;refine VE (fun hc=> ?_) (fun hc=> ?_)<;>simp only[DB]at hc<;>refine go ?_
  ·refine rt ?_;exact⟨⟨i,rfl,by rw[QT (zOy hi' hc.symm)];simp⟩,rfl⟩
  ·refine zA (i+1) (by omega) ⟨rfl,Wd,by omega,fun j hj=> ?_⟩;by_cases e:j=i
   ·subst e;exact fun h=>hc h.symm
   ·exact hm j (by omega)
 ·refine gr ?_;exact⟨⟨-1,rfl,by rw[QS (zI9 fun j hj=>hm j (by omega))];rfl⟩,rfl⟩
theorem Y5(h:Uy)(v:Value)(l:List Int)(n:Int)(s:WH h v l)(hl:(l.length:Int)<=9223372036854775807):
  WC Tryz.prog tb 182 [v,I n] h fun r h'=>r=.bool (decide (n∈l))/\h=h':=by
 refine en ?_;refine VA (zMH h v l n s hl) ?_;rintro _ _ ⟨⟨k,rfl,e⟩,rfl⟩;refine gr ?_;exact⟨by rw[<-e];rfl,rfl⟩
abbrev DS:=List (Int×Int)×List Int
def ZQ(nx:Int->List Int):Nat->Int->DS->DS
 |0,_,s=>s
 |n+1,b,s=>if(s.1.lookup b).isSome then s else
  (((nx b).foldl (fun(t:DS) (c:Int)=>ZQ nx n c t) (s.1++[(b,(s.1.length:Int))],s.2)).1,((nx b).foldl (fun(t:DS) (c:Int)=>ZQ nx n c t) (s.1++[(b,(s.1.length:Int))],s.2)).2++[b])
def Zv(nx:Int->List Int)(n:Nat)(l:List Int)(s:DS):DS:=l.foldl (fun s c=>ZQ nx n c s) s
def BI(N:Nat)(es:List (Int×Int)):Nat:=((List.range N).filter fun(i:Nat)=>(es.lookup ((i:Nat):Int)).isNone).length
theorem zAm{es:List (Int×Int)}{b v c:Int}:(es++[(b,v)]).lookup c=match es.lookup c with|some w=>some w|none=>if c=b then some v else none:=by
 induction es with
 |nil=>
  simp only[GJ,List.lookup_cons,List.lookup_nil];by_cases h:c=b
  ·subst h;simp
  ·have:(c == b)=false:=by simpa using h
   rw[this,QC h]
 |cons e es ih=>
  obtain⟨k,w⟩:=e;simp only[G9,List.lookup_cons];cases hk:(c == k)with
  |true=>rfl
  |false=>simp only;exact ih
theorem zIC{es:List (Int×Int)}{b v c:Int}(h:(es.lookup c).isSome):((es++[(b,v)]).lookup c).isSome:=by
 rw[zAm];cases hc:es.lookup c with
 |none=>rw[hc]at h;cases h
 |some w=>rfl
theorem zMe{nx:Int->List Int}:∀ (n:Nat) (b:Int) (s:DS) (c:Int),(s.1.lookup c).isSome->((ZQ nx n b s).1.lookup c).isSome:=by
 intro n;induction n with
 |zero=>intro b s c h;exact h
 |succ n ih=>
  intro b s c h;unfold ZQ;split
  ·exact h
  ·simp only;have:∀ (l:List Int) (s:DS),(s.1.lookup c).isSome->((l.foldl (fun s c=>ZQ nx n c s) s).1.lookup c).isSome:=by
    intro l;induction l with
    |nil=>intro s h;exact h
    |cons x l ihl=>intro s h;exact ihl _ (ih x s c h)
   exact this _ _ (zIC h)
theorem zFd{nx:Int->List Int}{n:Nat}{c:Int}:∀ (l:List Int) (s:DS),(s.1.lookup c).isSome->((Zv nx n l s).1.lookup c).isSome
 |[],s,h=>h
 |x::l,s,h=>zFd l _ (zMe n x s c h)
theorem zKX{N:Nat}{p q:Nat->Bool}(h:∀ i,i<N->q i=true->p i=true):((List.range N).filter q).length<=((List.range N).filter p).length:=by
 rw[<-List.countP_eq_length_filter,<-List.countP_eq_length_filter];exact List.countP_mono_left fun i hi hq=>h i (GP.1 hi) hq
theorem zCb{N:Nat}{es es':List (Int×Int)}(h:∀ c,(es.lookup c).isSome->(es'.lookup c).isSome):BI N es'<=BI N es:=by
 unfold BI;apply zKX;intro i _ hi;cases hc:es.lookup (i:Int)with
 |none=>rfl
 |some w=>
  have:=h i (by rw[hc];rfl);rw[Option.isNone_iff_eq_none]at hi;rw[hi]at this;cases this
theorem zEX{p q:Nat->Bool}{i:Nat}(hp:p i=true)(hq:q i=false):∀ {l:List Nat},(∀ j∈l,q j=true->p j=true)->i∈l->l.countP q<l.countP p
 |[],_,h=>by cases h
 |x::l,hl,h=>by
  have hle:l.countP q<=l.countP p:=List.countP_mono_left fun j hj hqj=>hl j (by simp[hj]) hqj;by_cases e:x=i
  ·subst e;simp only[List.countP_cons,hp,hq,Q2];simp;omega
  ·have him:i∈l:=by
    rcases GH.1 h with h|h
    ·exact absurd h.symm e
    ·exact h
   have:=zEX hp hq (l:=l) (fun j hj=>hl j (by simp[hj])) him;simp only[List.countP_cons];cases hqx:q x with
   |false=>simp;omega
   |true=>rw[hl x (by simp) hqx];simp;omega
theorem zES{N:Nat}{es:List (Int×Int)}{b v:Int}(h:es.lookup b=none)(hb:0<=b/\b<(N:Int)):BI N (es++[(b,v)])<BI N es:=by
 unfold BI;rw[<-List.countP_eq_length_filter,<-List.countP_eq_length_filter];obtain⟨i,rfl⟩:∃ i:Nat,b=i:=⟨b.toNat,by omega⟩;refine zEX (i:=i) (by simp[h]) (by simp[zAm,h]) (fun j _ hj=> ?_) (GP.2 (by omega));rw[zAm]at hj;cases hc:es.lookup (j:Int)with
 |none=>rfl
 |some w=>rw[hc]at hj;cases hj
theorem zG7{N:Nat}{es:List (Int×Int)}(h:BI N es=0){b:Int}(hb:0<=b/\b<(N:Int)):(es.lookup b).isSome:=by
 cases hc:es.lookup b with
 |some w=>rfl
 |none=>have:=zES (v:=0) hc hb;omega
theorem zCt{nx:Int->List Int}{N:Nat}(hin:∀ b,0<=b/\b<(N:Int)->∀ c∈nx b,0<=c/\c<(N:Int)):∀ (n:Nat) (b:Int) (s:DS),0<=b/\b<(N:Int)->(ZQ nx n b s).2.length+BI N (ZQ nx n b s).1<=s.2.length+BI N s.1:=by
 intro n;induction n with
 |zero=>intro b s _;exact QE _
 |succ n ih=>
  intro b s hb;unfold ZQ;split
  ·exact QE _
  ·rename_i hns;have hnone:s.1.lookup b=none:=by
    cases hc:s.1.lookup b with
    |none=>rfl
    |some w=>rw[hc]at hns;exact absurd rfl hns
   have:∀ (l:List Int) (s:DS),(∀ c∈l,0<=c/\c<(N:Int))->(l.foldl (fun s c=>ZQ nx n c s) s).2.length+BI N (l.foldl (fun s c=>ZQ nx n c s) s).1<=s.2.length+BI N s.1:=by
    intro l;induction l with
    |nil=>intro s _;exact QE _
    |cons x l ihl=>intro s hl;exact QU (ihl _ fun c hc=>hl c (by simp[hc])) (ih x s (hl x (by simp)))
   have h1:=this (nx b) (s.1++[(b,(s.1.length:Int))],s.2) (hin b hb);have h2:=zES (v:=(s.1.length:Int)) hnone hb;simp only[QR,QX]at *;omega
end Go.Proofs.YtfnndahpddkniaaGreatDoor
set_option maxRecDepth 100000
namespace Go.Am
section
variable {P:Program}{tab:Wl}{t:U3 Value}{h h0:Uy}{ds:List Deferred}{rd:Option Nat}{l:List U1}{Q:WF->Uy->Prop}{d:Nat}
theorem Vl{x y:Operand}{v w:Value}{xs ys:List Int}(hx:ev t x=v)(hy:ev t y=w)(o:U5 h0 h v xs)(s:WH h w ys)(e0:Ext h0 h)(hne:ys≠[])(hr:xs.length+ys.length<=4294967296)
  (k:∀ h',Ext h0 h'->WQ h0 h' (.slice (some ⟨h.n,0,none⟩) (xs++ys).length 1) (xs++ys)->BH v h h'->WO P tab l ⟨t.set d (.slice (some ⟨h.n,0,none⟩) (xs++ys).length 1),ds,rd⟩ h' Q):WO P tab (⟨some d,none,.append 1 x y⟩::l) ⟨t,ds,rd⟩ h Q:=by
 have hsrc:=Z0 s;have hroom:room=4294967296:=rfl;obtain⟨z,zs,rfl⟩:∃ z zs,ys=z::zs:=by
  cases ys with
  |nil=>exact absurd rfl hne
  |cons z zs=>exact⟨z,zs,rfl⟩
 have hone:zQ (I z::zs.map I)=true:=zCH (z::zs);have hlen:(I z::zs.map I).length / 1=(z::zs).length:=by simp
 rcases o with⟨rfl,rfl⟩|⟨g,g1,g2,rfl,g3⟩
 ·have h1:Nat.ble (z::zs).length room=true:=QG (by rw[hroom];simpa using hr);refine WO.op (.slice (some ⟨h.n,0,none⟩) (z::zs).length 1) (h.push (.row ((z::zs).map I) true 0)) rfl ?_ (k _ (e0.push _) ⟨h.n,e0.n,by simp[Uy.push],rfl,zc _ _⟩ ⟨GU _,fun k hk _=> ?_⟩)
  ·simp only[U6,hx,hy,yd,hsrc,Q1,hone,hlen,h1,QW,cond_true,QV];rfl
  ·rw[zV,QC (by omega)]
 ·have h1:Nat.ble (xs.length+(z::zs).length) room=true:=QG (by rw[hroom];exact hr);have h2:cut (xs.map I) 0 (xs.length*1)=some (xs.map I):=by rw[ZH (by simp)];simp[Qy]
  have hn:(h.kill g).n=h.n:=rfl;have h3:Nat.ble 0 (0+xs.length*1)=true:=QG (QL _);have hl:xs.length+(z::zs).length=(xs++z::zs).length:=(QR ..).symm;refine WO.op (.slice (some ⟨h.n,0,none⟩) (xs++z::zs).length 1) ((h.kill g).push (.row (xs.map I++(z::zs).map I) true (0-0))) rfl ?_
   (k _ ((e0.kill g1).push _) ⟨h.n,e0.n,by simp[Uy.push,Uy.kill],rfl,?_⟩ ⟨GU _,fun k hk hv=> ?_⟩)
  ·rw[<-hl];simp only[U6,hx,hy,yd,hsrc,Q1,hone,hlen,h1,g3,h2,h3,QW,cond_true,QV];rfl
  ·have:=zc (h.kill g) (.row (xs.map I++(z::zs).map I) true (0-0));rw[hn]at this;rw[this];simp
  ·rw[zV,QC (by rw[hn];omega),yq,QC (fun e=>hv _ _ _ rfl e.symm)]
end
end Go.Am
namespace Go.Proofs.YtfnndahpddkniaaGreatDoor
open Go.Am
def zOw(p vm vd:Value)(g:Nat):Prop:=p≠ .pointer (some ⟨g,0,none⟩)/\vm≠ .map (some g)/\∀ a n c,vd=.slice (some a) n c->a.block≠g
structure WS(hB h:Uy)(p vl vm vd:Value)(s:DS):Prop where
 own:Uz hB h p [vl,vm,vd]
 map:W4 hB h vm s.1
 dn:U5 hB h vd s.2
 ext:Ext hB h
def Wy(h h':Uy)(p vm vd vd':Value):Prop:=h.n<=h'.n/\∀ g,g<h.n->zOw p vm vd g->h'.get g=h.get g/\zOw p vm vd' g
theorem Wy.refl(h:Uy)(p vm vd:Value):Wy h h p vm vd vd:=⟨QE _,fun _ _ n=>⟨rfl,n⟩⟩
theorem Wy.trans{h h1 h2:Uy}{p vm vd vd1 vd2:Value}(a:Wy h h1 p vm vd vd1)(b:Wy h1 h2 p vm vd1 vd2):Wy h h2 p vm vd vd2:=
 ⟨QU a.1 b.1,fun g hg nw=>let⟨x,y⟩:=a.2 g hg nw;let⟨u,v⟩:=b.2 g (QK hg a.1) y;⟨u.trans x,v⟩⟩
theorem Wy.ext{h h':Uy}(e:Ext h h')(p vm vd:Value):Wy h h' p vm vd vd:=⟨e.n,fun g hg n=>⟨e.get g hg,n⟩⟩
def Off(h:Uy)(p vm vd v:Value)(l:List Int):Prop:=l=[]\/∃ g off,v=.slice (some ⟨g,off,none⟩) l.length 1/\g<h.n/\zOw p vm vd g
theorem zNK{h h':Uy}{v:Value}(s:WH h v []):WH h' v []:=by
 refine⟨rfl,.inl ⟨rfl,?_⟩⟩;rcases s.2 with⟨_,hv⟩|⟨g,off,row,hv,_⟩
 ·exact hv
 ·exact .inr ⟨_,_,hv⟩
theorem Wy.sl{h h':Uy}{p vm vd vd' v:Value}{l:List Int}(k:Wy h h' p vm vd vd')(s:WH h v l)(o:Off h p vm vd v l):WH h' v l/\Off h' p vm vd' v l:=by
 rcases o with rfl|⟨g,off,rfl,hg,nw⟩
 ·exact⟨zNK s,.inl rfl⟩
 ·obtain⟨e1,e2⟩:=k.2 g hg nw;refine⟨⟨s.1,?_⟩,.inr ⟨g,off,rfl,QK hg k.1,e2⟩⟩;rcases s.2 with⟨h0,hv⟩|⟨g',off',row,hv,hr,hc,hl⟩
  ·exact .inl ⟨h0,hv⟩
  ·cases hv;exact .inr ⟨g,off,row,rfl,by unfold yV at *;rw[e1];exact hr,hc,QK hg k.1⟩
theorem zK6{hB h h2:Uy}{p vl vm vd v:Value}{s:DS}{l:List Int}(w:WS hB h p vl vm vd s)(f:BZ h v)(sl:WH h2 v l):Off h2 p vm vd v l:=by
 rcases sl.2 with⟨h0,hv⟩|⟨g,off,row,hv,hr,hc,hl⟩
 ·exact .inl (Gi.1 h0)
 ·refine .inr ⟨g,off,hv,hl,?_⟩;have hg:h.n<=g:=f _ _ _ hv;obtain⟨g1,_,a1,rfl,_⟩:=w.own;obtain⟨g2,_,_,_,a2,rfl,_⟩:=w.map;refine⟨fun e=>by cases e;omega,fun e=>by cases e;omega,fun a n c e he=> ?_⟩;rcases w.dn with⟨rfl,_⟩|⟨g3,_,a3,rfl,_⟩
  ·cases e
  ·cases e;simp only at he;omega
theorem zGW{h0 h1 h:Uy}{p v:Value}{a:Option Addr}{n k:Nat}{cs:List Value}{xs:List Int}(o:Uz h0 h p (.slice a n k::cs))(i:U5 h1 h v xs):∀ b m c,v=.slice (some b) m c->p≠ .pointer (some ⟨b.block,0,none⟩):=by
 intro b m c hv hp;obtain⟨g,_,_,rfl,hg⟩:=o;rcases i with⟨rfl,_⟩|⟨g2,_,_,rfl,hg2⟩
 ·cases hv
 ·cases hv;cases hp;rw[hg]at hg2;cases xs with
  |nil=>cases hg2
  |cons x xs=>cases hg2
theorem Uz.upd{h0 h h':Uy}{p v:Value}{a:Option Addr}{n k:Nat}{cs:List Value}{xs:List Int}(o:Uz h0 h p (.slice a n k::cs))(i:U5 h0 h v xs)(u:BH v h h'):Uz h0 h' p (.slice a n k::cs):=by
 have hne:=zGW o i;obtain⟨g,g1,g2,rfl,hg⟩:=o;exact⟨g,g1,QK g2 u.1,rfl,(u.2 g g2 fun b m c hv e=>hne b m c hv (by rw[e])).trans hg⟩
theorem Uz.updM{h0 h h':Uy}{p m:Value}{cs:List Value}{es:List (Int×Int)}(o:Uz h0 h p cs)(i:W4 h0 h m es)(u:zM8 m h h'):Uz h0 h' p cs:=by
 obtain⟨g,g1,g2,rfl,hg⟩:=o;refine⟨g,g1,QK g2 u.1,rfl,(u.2 g g2 fun e=> ?_).trans hg⟩;obtain⟨g3,_,_,_,_,rfl,h3,_⟩:=i;cases e;rw[hg]at h3;cases h3
theorem W4.updC{h0 h h':Uy}{p m:Value}{cs:List Value}{es:List (Int×Int)}(i:W4 h0 h m es)(o:Uz h0 h p cs)(u:Wb p h h'):W4 h0 h' m es:=by
 obtain⟨g3,c,es',g1,g2,rfl,h3,h4⟩:=i;refine⟨g3,c,es',g1,QK g2 u.1,rfl,(u.2 g3 g2 fun e=> ?_).trans h3,h4⟩;obtain⟨g,_,_,rfl,hg⟩:=o;cases e;rw[h3]at hg;cases hg
theorem WQ.updC{h0 h h':Uy}{p v:Value}{a:Option Addr}{n k:Nat}{cs:List Value}{xs:List Int}(i:WQ h0 h v xs)(o:Uz h0 h p (.slice a n k::cs))(u:Wb p h h'):WQ h0 h' v xs:=by
 have hne:=zGW o (.inr i);obtain⟨g,g1,g2,rfl,hg⟩:=i;exact⟨g,g1,QK g2 u.1,rfl,(u.2 g g2 fun e=>hne _ _ _ rfl e).trans hg⟩
def WT(L:List WK)(b:Int):List Int:=ZL (L.getD b.toNat default).fin
theorem zBL{nx:Int->List Int}{n:Nat}{b:Int}{s:DS}(h:(s.1.lookup b).isSome):ZQ nx n b s=s:=by
 cases n with
 |zero=>rfl
 |succ n=>unfold ZQ;rw[QF h]
theorem zJ5(hB:Uy)(L:List WK)(vl:Value)(hin:∀ b,0<=b/\b<(L.length:Int)->∀ c∈WT L b,0<=c/\c<(L.length:Int))(n:Nat)
  (IH:∀ (h:Uy) (p vm vd:Value) (s:DS) (b:Int),WS hB h p vl vm vd s->0<=b/\b<(L.length:Int)->BI L.length s.1<=n->s.2.length+BI L.length s.1<=L.length->
   WC Tryz.prog tb 205 [p,I b] h fun r h'=>∃ vd',WS hB h' p vl vm vd' (ZQ (WT L) n b s)/\Wy h h' p vm vd vd')
  (h:Uy) (p vm vd nlv:Value) (s:DS) (l:List Int) (w:WS hB h p vl vm vd s) (sl:WH h nlv l) (hl:(l.length:Int)<=1000) (o:Off h p vm vd nlv l) (hr:∀ c∈l,0<=c/\c<(L.length:Int)) (hu:BI L.length s.1<=n) (hd:s.2.length+BI L.length s.1<=L.length):
  WC Tryz.prog tb 204 [p,nlv,.func (.func 205) #[] #[]] h fun r h'=>∃ vd',WS hB h' p vl vm vd' (Zv (WT L) n l s)/\Wy h h' p vm vd vd':=by
 refine en ?_;refine VD (fun i=>l.length-i) (fun i t h1=>zB t 10=I i/\i<=l.length/\∃ vd1,WS hB h1 p vl vm vd1 (Zv (WT L) n (l.take i) s)/\Wy h h1 p vm vd vd1) 0 ?_ ?_
 ·exact⟨U4,QL _,vd,w,Wy.refl ..⟩
 rintro i t h1 hsame ⟨s10,hi,vd1,w1,k1⟩;obtain⟨sl1,o1⟩:=k1.sl sl o;refine go ?_;refine VE (fun hc=> ?_) (fun hc=> ?_)<;>simp only[DB]at hc
 ·have hi':i<l.length:=by omega
  refine go ?_;have hm:=zO hi';have hu1:BI L.length (Zv (WT L) n (l.take i) s).1<=n:=QU (zCb fun c hc=>zFd _ _ hc) hu;have hd1:(Zv (WT L) n (l.take i) s).2.length+BI L.length (Zv (WT L) n (l.take i) s).1<=L.length:=by
   have:∀ (m:List Int) (s:DS),(∀ c∈m,0<=c/\c<(L.length:Int))->(Zv (WT L) n m s).2.length+BI L.length (Zv (WT L) n m s).1<=s.2.length+BI L.length s.1:=by
    intro m;induction m with
    |nil=>intro s _;exact QE _
    |cons x m ih=>intro s hm;exact QU (ih _ fun c hc=>hm c (by simp[hc])) (zCt hin n x s (hm x (by simp)))
   exact QU (this _ _ fun c hc=>hr c (Qi hc)) hd
  refine VU (WV.func (IH h1 p vm vd1 _ (l.getD i 0) w1 (hr _ hm) hu1 hd1)) ?_;rintro r h2 ⟨vd2,w2,k2⟩;refine go ?_;refine zA (i+1) (by omega) ⟨Wd,by omega,vd2,?_,k1.trans k2⟩;have e:Zv (WT L) n (l.take (i+1)) s=ZQ (WT L) n (l.getD i 0) (Zv (WT L) n (l.take i) s):=by
   unfold Zv;rw[Qv,List.foldl_append];simp[List.getD,QB hi']
  rw[e];exact w2
 ·refine go ?_;refine Bk ?_;have:i=l.length:=by omega
  subst this;rw[Qg]at w1;exact⟨vd1,w1,k1⟩
end Go.Proofs.YtfnndahpddkniaaGreatDoor
set_option maxRecDepth 100000
namespace Go.Proofs.YtfnndahpddkniaaGreatDoor
open Go.Am
section
variable {t:U3 Value}
theorem zP5{x:Operand}{v:Value}(hx:U8 t x v:=by first|with_reducible exact U8.const|((with_reducible apply U8.tmp);(repeat (first|((with_reducible apply Vb);rfl)|((with_reducible apply WY.same);(with_reducible assumption);rfl)));first|with_reducible exact WY.here|with_reducible assumption|(unfold WY;with_reducible assumption))|with_reducible exact U8.fn|with_reducible exact V9|fail):ev t x=v:=hx
end
theorem zCD(x:BP):(ZL x).length<=2:=by
 unfold ZL;split
 ·simp
 ·split
  ·split<;>simp
  ·simp
theorem zGT{h0 h:Uy}{p:Value}{cs:List Value}(o:Uz h0 h p cs):∃ g,p=.pointer (some ⟨g,0,none⟩):=let⟨g,_,_,e,_⟩:=o;⟨g,e⟩
theorem zLN{hB h h':Uy}{p vl vm vd:Value}(u:zM8 vm h h'):Wy h h' p vm vd vd:=⟨u.1,fun g hg n=>⟨u.2 g hg n.2.1,n⟩⟩
theorem zNY{h h':Uy}{p vm vd:Value}{q:Nat}{k c:Nat}(u:BH vd h h')(hq:q=h.n):Wy h h' p vm vd (.slice (some ⟨q,0,none⟩) k c):=
 ⟨u.1,fun g hg n=>⟨u.2 g hg n.2.2,n.1,n.2.1,fun a k c e=>by cases e;simp only;omega⟩⟩
theorem zKN{h h':Uy}{p vm vd:Value}(u:Wb p h h'):Wy h h' p vm vd vd:=⟨u.1,fun g hg n=>⟨u.2 g hg n.1,n⟩⟩
theorem zMP(hB:Uy)(hmB:hB.mark<=hB.n)(L:List WK)(vl:Value)(bl:We hB vl L)(hL:L.length<=1000)(hin:∀ b,0<=b/\b<(L.length:Int)->∀ c∈WT L b,0<=c/\c<(L.length:Int)):∀ (n:Nat) (h:Uy) (p vm vd:Value) (s:DS) (b:Int),WS hB h p vl vm vd s->0<=b/\b<(L.length:Int)->BI L.length s.1<=n->s.2.length+BI L.length s.1<=L.length->
   WC Tryz.prog tb 205 [p,I b] h fun r h'=>∃ vd',WS hB h' p vl vm vd' (ZQ (WT L) n b s)/\Wy h h' p vm vd vd':=by
 obtain⟨la,ln,lk,hvl⟩:=zD bl;subst hvl;intro n;induction n with
 |zero=>
  intro h p vm vd s b w hb hu hd;obtain⟨v,hv⟩:=Option.isSome_iff_exists.1 (zG7 (Nat.le_zero.1 hu) hb);obtain⟨gp,rfl⟩:=zGT w.own;have wo:=w.own;have wm:=w.map;refine en ?_;refine rt ?_;exact⟨vd,w,Wy.refl ..⟩
 |succ n IH=>
  intro h p vm vd s b w hb hu hd;obtain⟨gp,rfl⟩:=zGT w.own;have wo:=w.own;have wm:=w.map;refine en ?_;cases hv:s.1.lookup b with
  |some v=>
   refine gr ?_;exact⟨vd,by rw[zBL (by rw[hv];rfl)];exact w,Wy.refl ..⟩
  |none=>
   have hlt:=zES (v:=(s.1.length:Int)) hv hb;refine go ?_;refine VC 0 rfl rfl ?_;have o1:Uz hB (inC (zC 0 h)) (.pointer (some ⟨gp,0,none⟩)) [.slice la ln lk,vm,vd]:=wo;have m1:W4 hB (inC (zC 0 h)) vm s.1:=wm;refine WB ?_;have hmk:h.mark<=hB.n:=by rw[w.ext.mark];exact hmB
   refine WM.upd wm w.ext hmk hv ?_;intro h1 e1 wm1 u1;have wo1:=Uz.updM wo wm u1;have wd1:=w.dn.updM wm u1;have k1:Wy h h1 (.pointer (some ⟨gp,0,none⟩)) vm vd vd:=zLN (hB:=hB) (vl:=vm) u1;clear o1 m1 wo wm;obtain⟨i,rfl⟩:∃ i:Nat,b=i:=⟨b.toNat,by omega⟩;have bl1:=We.ext bl e1;obtain⟨csB,⟨vi,rfl,si,hli⟩,pcB,hsB⟩:=zi (i:=i) bl1 (by omega);refine go ?_;refine VA (zJr h1 _) ?_;rintro r h2 ⟨s2,f2,e2⟩;have wo2:=wo1.ext e2;have wm2:=wm1.ext e2;have wd2:=wd1.ext e2;have e02:=e1.trans e2;have w1:WS hB h1 (.pointer (some ⟨gp,0,none⟩)) (.slice la ln lk) vm vd (s.1++[((i:Int),(s.1.length:Int))],s.2):=⟨wo1,wm1,wd1,e1⟩;have w2:WS hB h2 (.pointer (some ⟨gp,0,none⟩)) (.slice la ln lk) vm vd (s.1++[((i:Int),(s.1.length:Int))],s.2):=⟨wo2,wm2,wd2,e02⟩;have hnx:ZL (L.getD i default).fin=WT L (i:Int):=by unfold WT;rw[QN]
   rw[hnx]at s2;have hnl:(WT L (i:Int)).length<=2:=by unfold WT;exact zCD _
   refine go ?_;refine VA (zJ5 hB L (.slice la ln lk) hin n IH h2 (.pointer (some ⟨gp,0,none⟩)) vm vd r _ (WT L (i:Int)) w2 s2 (by omega) (zK6 w1 f2 s2) (hin _ hb) (by simp only;omega) (by simp only at hd |-;omega)) ?_;rintro _ h3 ⟨vd3,w3,k3⟩;have wo3:=w3.own;refine go ?_;refine WO.bl [(i:Int)] ?_;intro v4 h4 e4 o4;have wd4:=w3.dn.ext e4;have e34:=w3.ext.trans e4;refine go ?_;have hbd:(Zv (WT L) n (WT L (i:Int)) (s.1++[((i:Int),(s.1.length:Int))],s.2)).2.length<=1000:=by
    have:∀ (m:List Int) (s:DS),(∀ c∈m,0<=c/\c<(L.length:Int))->(Zv (WT L) n m s).2.length+BI L.length (Zv (WT L) n m s).1<=s.2.length+BI L.length s.1:=by
     intro m;induction m with
     |nil=>intro s _;exact QE _
     |cons x m ih=>intro s hm;exact QU (ih _ fun c hc=>hm c (by simp[hc])) (zCt hin n x s (hm x (by simp)))
    have:=this (WT L (i:Int)) (s.1++[((i:Int),(s.1.length:Int))],s.2) (hin _ hb);simp only at this;omega
   refine Vl (v:=vd3) (w:=v4) (by exact zP5) (by exact zP5) wd4 o4.sl e34 (by simp) (by simp only[QX];omega) ?_;intro h5 e5 o5 u5;have wo5:=Uz.upd (wo3.ext e4) wd4 u5;have wm5:=(w3.map.ext e4).upd wd4 u5;refine go ?_;refine VV wo5 e5 ?_ (hl:=QE 3);intro h6 e6 wo6 u6;refine go ?_;refine Bk ?_;have hdf:ZQ (WT L) (n+1) (i:Int) s=((Zv (WT L) n (WT L (i:Int)) (s.1++[((i:Int),(s.1.length:Int))],s.2)).1,(Zv (WT L) n (WT L (i:Int)) (s.1++[((i:Int),(s.1.length:Int))],s.2)).2++[(i:Int)]):=by
    conv=>lhs;unfold ZQ
    rw[QC (by rw[hv];exact Bool.noConfusion)];rfl
   rw[hdf];refine⟨_,⟨wo6,W4.updC wm5 wo5 u6,.inr (WQ.updC o5 wo5 u6),e6⟩,?_⟩;exact(((k1.trans (Wy.ext e2 ..)).trans k3).trans (Wy.ext e4 ..)).trans ((zNY u5 rfl).trans (zKN u6))
end Go.Proofs.YtfnndahpddkniaaGreatDoor
set_option maxRecDepth 100000
namespace Go.Proofs.YtfnndahpddkniaaGreatDoor
open Go.Am
theorem zEy(N:Nat)(es:List (Int×Int)):BI N es<=N:=by
 unfold BI;have:=List.length_filter_le (fun(i:Nat)=>(es.lookup ((i:Nat):Int)).isNone) (List.range N);simpa using this
theorem zKF(h:Uy)(hm:h.mark<=h.n)(L:List WK)(vl fv:Value)(l:List Int)(bl:We h vl L)(hL:L.length<=1000)(hin:∀ b,0<=b/\b<(L.length:Int)->∀ c∈WT L b,0<=c/\c<(L.length:Int))(sl:WH h fv l)(hl:(l.length:Int)<=1000)(hr:∀ c∈l,0<=c/\c<(L.length:Int)):
  WC Tryz.prog tb 177 [vl,fv] h fun r h'=>U5 h h' r (Zv (WT L) L.length l ([],[])).2/\Ext h h':=by
 obtain⟨la,ln,lk,rfl⟩:=zD bl;refine en ?_;refine WO.mkMap ?_;intro vm h1 e1 m1;obtain⟨gm,rfl⟩:∃ g,vm=.map (some g):=let⟨g,_,_,_,_,e,_⟩:=m1;⟨g,e⟩;refine go ?_;refine VF ?_;intro p h2 e2 o2;have e12:=e1.trans e2;have w2:WS h h2 p (.slice la ln lk) (.map (some gm)) (.slice none 0 0) ([],[]):=⟨o2.since e1,m1.ext e2,.inl ⟨rfl,rfl⟩,e12⟩;have hoff:Off h2 p (.map (some gm)) (.slice none 0 0) fv l:=by
  rcases sl.2 with⟨h0,hv⟩|⟨g,off,row,hv,hr,hc,hg⟩
  ·exact .inl (Gi.1 h0)
  ·refine .inr ⟨g,off,hv,QK hg e12.n,?_⟩;obtain⟨g1,a1,_,hp,_⟩:=w2.own;obtain⟨g2,_,_,a2,_,hm2,_⟩:=w2.map;cases hm2;refine⟨fun e=> ?_,fun e=>by cases e;omega,fun a n c e=>by cases e⟩;rw[hp]at e;cases e;omega
 refine go ?_;refine VA (zJ5 h L (.slice la ln lk) hin L.length (fun h' p vm vd s b w hb hu hd=>zMP h hm L (.slice la ln lk) bl hL hin L.length h' p vm vd s b w hb hu hd) h2 p _ _ fv ([],[]) l w2 (sl.ext e12) hl hoff hr (zEy _ _) (by have:=zEy L.length [];simp only[JA];omega)) ?_;rintro _ h3 ⟨vd,w3,k3⟩;obtain⟨gp,rfl⟩:=zGT w3.own;have wo3:=w3.own;refine gr ?_;exact⟨w3.dn,w3.ext⟩
theorem zJi{T:List U0}{n:Int}{f:WJ}(h:BF T n f=true):f.blocks.length<=16/\∀ b,0<=b/\b<(f.blocks.length:Int)->∀ c∈WT f.blocks b,0<=c/\c<(f.blocks.length:Int):=by
 unfold BF at h;split at h
 ·cases h
 ·rename_i hbad;have hlen:f.blocks.length<=16:=by
   unfold Bp at hbad;simp only[GE,not_or,JF,Bool.not_eq_false']at hbad;have h1:zY ((f.blocks.length:Int)-1) 16=true:=by simpa using hbad.1.2
   unfold zY at h1;simp only[QJ,Qc]at h1;omega
  refine⟨hlen,fun b hb c hc=> ?_⟩;rw[Gk,Gt]at h;have hmem:=zG (l:=f.blocks) (i:=b.toNat) (by omega);have hblk:=h _ hmem;unfold YY at hblk;simp only[GE,not_or,JF,Bool.not_eq_false']at hblk;have he:Bl (f.blocks.getD b.toNat default).fin (Bd T n f)=true:=by simpa using hblk.2
  unfold WT ZL at hc;unfold Bl zY Bd at he;split at hc
  ·rename_i hk;rw[QF hk]at he;simp only[QJ,Qc]at he;simp only[Qb]at hc;omega
  ·rename_i hk;rw[QC hk]at he;split at hc
   ·rename_i hk2;rw[QF hk2]at he;simp only[QJ,Qc]at he;split at hc
    ·simp only[Qb]at hc;omega
    ·simp only[GH,List.mem_nil_iff,or_false]at hc;rcases hc with rfl|rfl<;>omega
   ·cases hc
theorem ZR{T:List U0}{F:List WJ}{f b:Int}(h:(zE T F f b).2=0):(zE T F f b).1.length<=16/\∀ c,0<=c/\c<((zE T F f b).1.length:Int)->∀ d∈WT (zE T F f b).1 c,0<=d/\d<((zE T F f b).1.length:Int):=by
 obtain⟨_,_,h3,h4⟩:=ZD h;have hin:=zBX h4;rw[h3];exact zJi ((yT hin.2.2).2.2.2 _ (zG (l:=F) (i:=f.toNat) (by omega)))
end Go.Proofs.YtfnndahpddkniaaGreatDoor
