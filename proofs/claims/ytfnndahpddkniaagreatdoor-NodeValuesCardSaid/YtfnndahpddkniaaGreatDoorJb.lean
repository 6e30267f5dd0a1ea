/- Walks of functions, plain laws; proves no statement. -/
import Derived.Test.YtfnndahpddkniaaGreatDoorJa
set_option linter.all false
set_option maxHeartbeats 4000000
set_option maxRecDepth 100000
namespace Go.Proofs.YtfnndahpddkniaaGreatDoor
open Go.Am
theorem zG{α:Type}[Inhabited α]{l:List α}{i:Nat}(h:i<l.length):l.getD i default∈l:=by
 simp[List.getD,QB h]
theorem ZX{α:Type}[Inhabited α]{l:List α}{x:α}(h:x∈l):∃ i,i<l.length/\l.getD i default=x:=by
 obtain⟨i,hi,e⟩:=JD h;exact⟨i,hi,by simp[List.getD,QB hi,e]⟩
theorem zL1(h:U0)(v fv:Value)(l:List WY)(p:WY->Bool)(s:BB h v l)(hl:(l.length:Int)<=9223372036854775807)(hf:∀ x∈l,∀ h1,Ext h h1->∀ cs,Wt h1 cs x->WV Tryz.prog tb fv [.agg cs.toArray] h1 fun r h'=>r=.bool (p x)/\Ext h1 h'):
  WC Tryz.prog tb 169 [v,fv] h fun r h'=>(∃ n:Int,r=I n/\(decide (0<=n))=l.any p)/\Ext h h':=by
 refine en ?_;refine VD (fun i=>l.length-i) (fun i t h1=>Ext h h1/\zB t 8=I i/\i<=l.length/\∀ j,j<i->p (l.getD j default)=false) 0 ?_ ?_
 ·exact⟨Ext.refl h,U6,QK _,fun j hj=>absurd hj (Qh _)⟩
 rintro i t h1 hsame ⟨e1,s8,hi,hm⟩;have s1:=BB.ext s e1;refine go ?_;refine VE (fun hb=> ?_) (fun hb=> ?_)<;>simp only[DB]at hb
 ·have hi':i<l.length:=by omega
  obtain⟨cs,hcs,pc,hs⟩:=zb s1 hi';have hff:=hf _ (zG hi') h1 e1 cs hcs;obtain⟨va,vf,rfl,hR⟩:=hcs;refine go ?_;refine VV hff ?_;rintro _ h2 ⟨rfl,e2⟩;refine go ?_;refine VE (fun hb=> ?_) (fun hb=> ?_)
  ·refine gr ?_;refine⟨⟨i,rfl,?_⟩,e1.trans e2⟩;rw[Gz.2 ⟨_,zG hi',hb⟩];simp
  ·refine go ?_;refine zA (i+1) (by omega) ⟨e1.trans e2,Wc,by omega,fun j hj=> ?_⟩;by_cases e:j=i
   ·subst e;exact hb
   ·exact hm j (by omega)
 ·refine gr ?_;refine⟨⟨-1,rfl,?_⟩,e1⟩;rw[YC fun x hx=>by obtain⟨j,hj,rfl⟩:=ZX hx;exact hm j (by omega)];rfl
theorem zMz(h:U0)(v fv:Value)(l:List WY)(p:WY->Bool)(s:BB h v l)(hl:(l.length:Int)<=9223372036854775807)(hf:∀ x∈l,∀ h1,Ext h h1->∀ cs,Wt h1 cs x->WV Tryz.prog tb fv [.agg cs.toArray] h1 fun r h'=>r=.bool (p x)/\Ext h1 h'):
  WC Tryz.prog tb 133 [v,fv] h fun r h'=>r=.bool (l.any p)/\Ext h h':=by
 refine en ?_;refine VA (zL1 h v fv l p s hl hf) ?_;rintro _ h1 ⟨⟨n,rfl,e⟩,e1⟩;refine gr ?_;exact⟨by rw[<-e];rfl,e1⟩
theorem zLu(h:U0)(v fv:Value)(l:List WL)(p:WL->Bool)(s:Wi h v l)(hl:(l.length:Int)<=9223372036854775807)(hf:∀ x∈l,∀ h1,Ext h h1->∀ cs,BS h1 cs x->WV Tryz.prog tb fv [.agg cs.toArray] h1 fun r h'=>r=.bool (p x)/\Ext h1 h'):
  WC Tryz.prog tb 168 [v,fv] h fun r h'=>(∃ n:Int,r=I n/\(decide (0<=n))=l.any p)/\Ext h h':=by
 refine en ?_;refine VD (fun i=>l.length-i) (fun i t h1=>Ext h h1/\zB t 8=I i/\i<=l.length/\∀ j,j<i->p (l.getD j default)=false) 0 ?_ ?_
 ·exact⟨Ext.refl h,U6,QK _,fun j hj=>absurd hj (Qh _)⟩
 rintro i t h1 hsame ⟨e1,s8,hi,hm⟩;have s1:=Wi.ext s e1;refine go ?_;refine VE (fun hb=> ?_) (fun hb=> ?_)<;>simp only[DB]at hb
 ·have hi':i<l.length:=by omega
  obtain⟨cs,hcs,pc,hs⟩:=zb s1 hi';have hff:=hf _ (zG hi') h1 e1 cs hcs;obtain⟨va,rfl,hR⟩:=hcs;refine go ?_;refine VV hff ?_;rintro _ h2 ⟨rfl,e2⟩;refine go ?_;refine VE (fun hb=> ?_) (fun hb=> ?_)
  ·refine gr ?_;refine⟨⟨i,rfl,?_⟩,e1.trans e2⟩;rw[Gz.2 ⟨_,zG hi',hb⟩];simp
  ·refine go ?_;refine zA (i+1) (by omega) ⟨e1.trans e2,Wc,by omega,fun j hj=> ?_⟩;by_cases e:j=i
   ·subst e;exact hb
   ·exact hm j (by omega)
 ·refine gr ?_;refine⟨⟨-1,rfl,?_⟩,e1⟩;rw[YC fun x hx=>by obtain⟨j,hj,rfl⟩:=ZX hx;exact hm j (by omega)];rfl
theorem zMV(h:U0)(v fv:Value)(l:List WL)(p:WL->Bool)(s:Wi h v l)(hl:(l.length:Int)<=9223372036854775807)(hf:∀ x∈l,∀ h1,Ext h h1->∀ cs,BS h1 cs x->WV Tryz.prog tb fv [.agg cs.toArray] h1 fun r h'=>r=.bool (p x)/\Ext h1 h'):
  WC Tryz.prog tb 131 [v,fv] h fun r h'=>r=.bool (l.any p)/\Ext h h':=by
 refine en ?_;refine VA (zLu h v fv l p s hl hf) ?_;rintro _ h1 ⟨⟨n,rfl,e⟩,e1⟩;refine gr ?_;exact⟨by rw[<-e];rfl,e1⟩
theorem zNs(h:U0)(v fv:Value)(l:List WM)(p:WM->Bool)(s:Wd h v l)(hl:(l.length:Int)<=9223372036854775807)(hf:∀ x∈l,∀ h1,Ext h h1->∀ cs,RFn h1 cs x->WV Tryz.prog tb fv [.agg cs.toArray] h1 fun r h'=>r=.bool (p x)/\Ext h1 h'):
  WC Tryz.prog tb 128 [v,fv] h fun r h'=>(∃ n:Int,r=I n/\(decide (0<=n))=l.any p)/\Ext h h':=by
 refine en ?_;refine VD (fun i=>l.length-i) (fun i t h1=>Ext h h1/\zB t 8=I i/\i<=l.length/\∀ j,j<i->p (l.getD j default)=false) 0 ?_ ?_
 ·exact⟨Ext.refl h,U6,QK _,fun j hj=>absurd hj (Qh _)⟩
 rintro i t h1 hsame ⟨e1,s8,hi,hm⟩;have s1:=Wd.ext s e1;refine go ?_;refine VE (fun hb=> ?_) (fun hb=> ?_)<;>simp only[DB]at hb
 ·have hi':i<l.length:=by omega
  obtain⟨cs,hcs,pc,hs⟩:=zb s1 hi';have hff:=hf _ (zG hi') h1 e1 cs hcs;obtain⟨va,rfl,hR⟩:=hcs;refine go ?_;refine VV hff ?_;rintro _ h2 ⟨rfl,e2⟩;refine go ?_;refine VE (fun hb=> ?_) (fun hb=> ?_)
  ·refine gr ?_;refine⟨⟨i,rfl,?_⟩,e1.trans e2⟩;rw[Gz.2 ⟨_,zG hi',hb⟩];simp
  ·refine go ?_;refine zA (i+1) (by omega) ⟨e1.trans e2,Wc,by omega,fun j hj=> ?_⟩;by_cases e:j=i
   ·subst e;exact hb
   ·exact hm j (by omega)
 ·refine gr ?_;refine⟨⟨-1,rfl,?_⟩,e1⟩;rw[YC fun x hx=>by obtain⟨j,hj,rfl⟩:=ZX hx;exact hm j (by omega)];rfl
theorem zOg(h:U0)(v fv:Value)(l:List WM)(p:WM->Bool)(s:Wd h v l)(hl:(l.length:Int)<=9223372036854775807)(hf:∀ x∈l,∀ h1,Ext h h1->∀ cs,RFn h1 cs x->WV Tryz.prog tb fv [.agg cs.toArray] h1 fun r h'=>r=.bool (p x)/\Ext h1 h'):
  WC Tryz.prog tb 101 [v,fv] h fun r h'=>r=.bool (l.any p)/\Ext h h':=by
 refine en ?_;refine VA (zNs h v fv l p s hl hf) ?_;rintro _ h1 ⟨⟨n,rfl,e⟩,e1⟩;refine gr ?_;exact⟨by rw[<-e];rfl,e1⟩
end Go.Proofs.YtfnndahpddkniaaGreatDoor
set_option maxRecDepth 100000
namespace Go.Proofs.YtfnndahpddkniaaGreatDoor
open Go.Am
abbrev szV(s:Bm):List Value:=[I s.types,I s.funcs,I s.regs,I s.blocks]
theorem zPh(h h0:U0)(p:Value)(x:WY)(s:Bm)(cs:List Value)(T:Bh h)(hR:Wt h cs x)(o:U1 h0 h p (szV s)):
  WC Tryz.prog tb 129 [.agg cs.toArray,p] h fun r h'=>r=.bool (!Bo x s)/\Ext h h':=by
 obtain⟨va,vf,rfl,sa,sf,hla,hlf,ho⟩:=hR;refine en ?_;refine VF ?_;intro p2 h1 e1 o1;have o:=o.ext e1;refine go ?_;refine VA (zPe h1 x va vf s (T.ext e1) (sa.ext e1) (sf.ext e1) (by omega) (by omega) ho) ?_;rintro _ h2 ⟨rfl,e2⟩;refine gr ?_;exact⟨rfl,e1.trans e2⟩
theorem zPB(h h0 h00:U0)(p1 p2:Value)(b:WL)(s:Bm)(cs:List Value)(T:Bh h)(hR:BS h cs b)(o1:U1 h0 h p1 [.func (.func 129) #[] #[p2]])(o2:U1 h00 h p2 (szV s)):
  WC Tryz.prog tb 132 [.agg cs.toArray,p1,p2] h fun r h'=>r=.bool (Ya b s)/\Ext h h':=by
 obtain⟨vi,rfl,si,hl⟩:=hR;refine en ?_;refine VF ?_;intro p3 h1 e1 o3;have o1:=o1.ext e1;have o2:=o2.ext e1;have T1:=T.ext e1;refine go ?_;refine VA (zMz h1 vi _ b.ins (fun x=> !Bo x s) (BB.ext si e1) (by omega) ?_) ?_
 ·intro x hx h2 e2 cs hcs;exact WV.func (zPh h2 h00 p2 x s cs (T1.ext e2) hcs (o2.ext e2))
 rintro _ h2 ⟨rfl,e2⟩;have o3:=o3.ext e2;have o2:=o2.ext e2;refine go ?_;refine VI (fun hb=> ?_) (fun hb=> ?_)<;>refine go ?_
 ·refine rt ?_;exact⟨by simp only[Ya,hb,Qy];rfl,e1.trans e2⟩
 ·refine VA (zPr h2 b.fin s) ?_;rintro _ h3 ⟨rfl,e3⟩;refine gr ?_;exact⟨by simp only[Ya,hb,Qx];rfl,(e1.trans e2).trans e3⟩
theorem zAI(l:List WL):0<=zN l:=by
 unfold zN;induction l with
 |nil=>simp
 |cons b l ih=>simp only[Qr,Gy];omega
theorem zQH(h:U0)(vt vf vb:Value)(T:List U2)(F:List WM)(f:WM)(tt:Bh h)(hm:h.mark<=h.n)(st:Wp h vt T)(sf:Wd h vf F)(sb:Wi h vb f.blocks)(hT:T.length<=100)(hp:∀ x∈T,x.parts.length<=100)(hF:(F.length:Int)<=9223372036854775807)(hB:f.blocks.length<=1000)(hI:∀ b∈f.blocks,b.ins.length<=1000):
  WC Tryz.prog tb 103 [.agg #[vt,vf],.agg #[I f.sig,vb]] h fun r h'=>r=.bool (BL T F.length f)/\Ext h h':=by
 refine en ?_;refine VF ?_;intro p2 h1 e1 o1;refine VF ?_;intro p3 h2 e2 o2;have o1:=o1.ext e2;have e12:=e1.trans e2;have st2:=st.ext e12;have sf2:=Wd.ext sf e12;have sb2:=Wi.ext sb e12;have tt2:=tt.ext e12;have hm2:h2.mark<=h2.n:=by have:=e12.mark;have:=e12.n;omega
 have hbad:Bw T f=Bw T f:=rfl;conv at hbad=>rhs;unfold Bw
 refine go ?_;refine VA (ZO h2 f.sig T.length) ?_;rintro _ _ ⟨rfl,rfl⟩;refine go ?_;refine VI (fun hb=> ?_) (fun hb=> ?_)<;>simp only[DB]at hb<;>refine go ?_
 ·refine rt ?_;refine⟨?_,e12⟩;rw[BL,QF (show Bw T f=true by rw[hbad,hb];rfl)];rfl
 have hsig:0<=f.sig/\f.sig<(T.length:Int):=by
  unfold zY at hb;simpa using hb
 obtain⟨csT,⟨vp,rfl,sp,hsp⟩,pcT,hsT⟩:=yH (i:=f.sig.toNat) st2 (by omega);have hpx:(T.getD f.sig.toNat default).parts.length<=100:=hp _ (zG (by omega));refine go ?_;refine VI (fun hc=> ?_) (fun hc=> ?_)<;>simp only[DB]at hc<;>refine go ?_
 ·refine rt ?_;refine⟨?_,e12⟩;rw[BL,QF (show Bw T f=true by rw[hbad,hb,QQ hc];rfl)];rfl
 refine VA (ZO h2 ((f.blocks.length:Int)-1) 16) ?_;rintro _ _ ⟨rfl,rfl⟩;refine go ?_;refine VI (fun hd=> ?_) (fun hd=> ?_)<;>simp only[DB]at hd<;>refine go ?_
 ·refine rt ?_;refine⟨?_,e12⟩;rw[BL,QF (show Bw T f=true by rw[hbad,hb,QT hc,hd];rfl)];rfl
 refine VA (zGf h2 f.sig vb f.blocks sb2 hB hI) ?_;rintro _ h3 ⟨rfl,e3⟩;have e13:=e12.trans e3;have o1:=o1.ext e3;have o2:=o2.ext e3;have st3:=st2.ext e3;have sf3:=Wd.ext sf2 e3;have sb3:=Wi.ext sb2 e3;have tt3:=tt2.ext e3;have hm3:h3.mark<=h3.n:=by have:=e3.mark;have:=e3.n;omega
 refine go ?_;refine VE (fun he=> ?_) (fun he=> ?_)<;>simp only[DB]at he<;>refine go ?_
 ·refine rt ?_;refine⟨?_,e13⟩;rw[BL,QF (show Bw T f=true by rw[hbad,hb,QT hc,hd,QT he];rfl)];rfl
 refine goC ?_;have hbadF:Bw T f=false:=by rw[hbad,hb,QT hc,hd,QQ (by omega)];rfl
 obtain⟨a',n',k',rfl⟩:=zD st3;clear hbad hb hd pcT;refine VC 1 rfl rfl ?_;have e4:=zI 1 h3;generalize hqq:zC 1 h3=h4 at *;have hn4:h4.n=h3.n+1:=by rw[<-hqq];rfl
 have o1r:U1 h (inC h4) p2 [.slice a' n' k',vf]:=by have:=o1.ext e4;exact this
 have o2r:U1 h1 (inC h4) p3 [I f.sig,vb]:=by have:=o2.ext e4;exact this
 have str:Wp (inC h4) (.slice a' n' k') T:=by have:=st3.ext e4;exact this
 have sfr:Wd (inC h4) vf F:=by have:=Wd.ext sf3 e4;exact this
 have sbr:Wi (inC h4) vb f.blocks:=by have:=Wi.ext sb3 e4;exact this
 obtain⟨csr,⟨vpr,rfl,spr,hspr⟩,pcr,hsr⟩:=yH (i:=f.sig.toNat) str (by omega);refine U9 ?_;refine VA (zGf (inC h4) f.sig vb f.blocks sbr hB hI) ?_;rintro _ h5 ⟨rfl,e5⟩;refine WO.nil ?_;refine zOr e5 rfl ?_;have o1s:U1 h (inC h5) p2 [.slice a' n' k',vf]:=by have:=o1r.ext e5;exact this
 have o2s:U1 h1 (inC h5) p3 [I f.sig,vb]:=by have:=o2r.ext e5;exact this
 have sbs:Wi (inC h5) vb f.blocks:=by have:=Wi.ext sbr e5;exact this
 have hmp:=zAI f.blocks;refine U9 ?_;refine zDc o2 (by omega) ?_;refine U9 ?_;have hn5:h3.n<h5.n:=by have:h4.n<=h5.n:=e5.n;omega
 refine XE hm3 hn5 ?_;rw[<-hqq]at e5;have e6:=zG0 (o:= .row [I 0,I 0,I 0,I 0] true 0) (o':= .row [I (T.length:Int),I (F.length:Int),I (((T.getD f.sig.toNat default).parts.length:Int)+zN f.blocks),I (f.blocks.length:Int)] true 0) (k:=0) e5;have o5:=zGk (cs:=[I (T.length:Int),I (F.length:Int),I (((T.getD f.sig.toNat default).parts.length:Int)+zN f.blocks),I (f.blocks.length:Int)]) (o:= .row [I 0,I 0,I 0,I 0] true 0) e5;unfold zAv;refine(?_:∀ h6,Ext h3 h6->U1 h3 h6 (.pointer (some ⟨h3.n,0,none⟩)) (szV (Bq T F.length f))->zEe _ _ _ _ _ _ h6) _ e6 o5;clear e6 o5;intro h6 e6 o5;generalize Value.pointer (some ⟨h3.n,0,none⟩)=p5 at *;have o2:=o2.ext e6;have sb6:=Wi.ext sb3 e6;have tt6:=tt3.ext e6;have e16:=e13.trans e6;refine go ?_;refine VL ?_;intro p6 h7 e7 o6;refine VH o6 e7 ?_;intro h8 e8 o6 _;have o2:=o2.ext e8;have o5:=o5.ext e8;have sb8:=Wi.ext sb6 e8;have tt8:=tt6.ext e8;refine go ?_;refine VA (zMV h8 vb _ f.blocks (fun b=>Ya b (Bq T F.length f)) sb8 (by omega) ?_) ?_
 ·intro b hb h9 e9 cs hcs;exact WV.func (zPB h9 h6 h3 p6 p5 b (Bq T F.length f) cs (tt8.ext e9) hcs (o6.ext e9) (o5.ext e9))
 rintro _ h9 ⟨rfl,e9⟩;refine gr ?_;exact⟨by rw[BL,QC (by rw[hbadF];exact Bool.noConfusion)];rfl,(e16.trans e8).trans e9⟩
end Go.Proofs.YtfnndahpddkniaaGreatDoor
set_option maxRecDepth 100000
namespace Go.Proofs.YtfnndahpddkniaaGreatDoor
open Go.Am
theorem zq{h h':U0}(e:Ext h h')(hm:h.mark<=h.n):h'.mark<=h'.n:=by have:=e.mark;have:=e.n;omega
theorem zNh(h h0:U0)(p vt vf:Value)(T:List U2)(F:List WM)(f:WM)(cs:List Value)(tt:Bh h)(hm:h.mark<=h.n)(sm:W0 T F)(hf:f∈F)(st:Wp h vt T)(sf:Wd h vf F)(hR:RFn h cs f)(o:U1 h0 h p [vt,vf]):
  WC Tryz.prog tb 102 [.agg cs.toArray,p] h fun r h'=>r=.bool (!BL T F.length f)/\Ext h h':=by
 obtain⟨vb,rfl,sb,hl⟩:=hR;refine en ?_;refine VF ?_;intro p2 h1 e1 o1;have o:=o.ext e1;refine go ?_;refine VA (zQH h1 vt vf vb T F f (tt.ext e1) (zq e1 hm) (st.ext e1) (Wd.ext sf e1) (Wi.ext sb e1) sm.types sm.parts (by have:=sm.funcs;omega) (sm.blocks f hf) (sm.ins f hf)) ?_;rintro _ h2 ⟨rfl,e2⟩;refine gr ?_;exact⟨rfl,e1.trans e2⟩
theorem zJx(h:U0)(vt vf:Value)(T:List U2)(F:List WM)(tt:Bh h)(hm:h.mark<=h.n)(sm:W0 T F)(st:Wp h vt T)(sf:Wd h vf F):
  WC Tryz.prog tb 77 [.agg #[vt,vf]] h fun r h'=>r=I (yu T F)/\Ext h h':=by
 refine en ?_;refine VF ?_;intro p h1 e1 o1;have st1:=st.ext e1;refine go ?_;refine VA (zHe h1 vt T st1 sm.types sm.parts) ?_;rintro _ h2 ⟨rfl,e2⟩;have e12:=e1.trans e2;have o1:=o1.ext e2;have st2:=st1.ext e2;have sf2:=Wd.ext sf e12;have tt2:=tt.ext e12;have hF:=sm.funcs;refine go ?_;refine VE (fun hb=> ?_) (fun hb=> ?_)<;>simp only[DB]at hb<;>refine go ?_
 ·refine rt ?_;exact⟨by rw[yu,QF hb];rfl,e12⟩
 refine VA (ZO h2 ((F.length:Int)-1) 8) ?_;rintro _ _ ⟨rfl,rfl⟩;refine go ?_;refine VI (fun hc=> ?_) (fun hc=> ?_)<;>simp only[DB]at hc<;>refine go ?_
 ·refine rt ?_;exact⟨by rw[yu,QC (by omega),hc];simp[one],e12⟩
 refine VA (zOg h2 vf _ F (fun f=> !BL T F.length f) sf2 (by omega) ?_) ?_
 ·intro f hf h3 e3 cs hcs;exact WV.func (zNh h3 h p vt vf T F f cs (tt2.ext e3) (zq (e12.trans e3) hm) sm hf (st2.ext e3) (Wd.ext sf2 e3) hcs (o1.ext e3))
 rintro _ h3 ⟨rfl,e3⟩;refine go ?_;refine VE (fun hd=> ?_) (fun hd=> ?_)<;>refine go ?_<;>refine rt ?_<;>refine⟨?_,e12.trans e3⟩<;>rw[yu,QC (by omega),hc,hd]
 ·simp[one]
 ·simp[one]
theorem yX{T:List U2}{F:List WM}(h:yu T F=0):yQ T=0/\1<=F.length/\F.length<=8/\∀ f∈F,BL T F.length f=true:=by
 unfold yu at h;split at h
 ·rename_i hc;exact absurd h hc
 ·rename_i hc;split at h
  ·cases h
  ·rename_i hd;simp only[GG,not_or,JH,Bool.not_eq_false']at hd;have h1:zY ((F.length:Int)-1) 8=true:=by simpa using hd.1
   unfold zY at h1;simp only[QJ,Qc]at h1;refine⟨by omega,by omega,by omega,fun f hf=> ?_⟩;have:=Gu.1 hd.2 f hf;simpa using this
theorem zEn{T:List U2}{n:Int}{f:WM}(h:BL T n f=true):0<=f.sig/\f.sig<(T.length:Int):=by
 unfold BL at h;split at h
 ·cases h
 ·rename_i hb;unfold Bw at hb;simp only[GG,not_or,JH,Bool.not_eq_false']at hb;have h1:zY f.sig T.length=true:=by simpa using hb.1.1.1
  unfold zY at h1;simpa using h1
theorem zLg(h:U0)(vt vf:Value)(T:List U2)(F:List WM)(f:Int)(tt:Bh h)(hm:h.mark<=h.n)(sm:W0 T F)(st:Wp h vt T)(sf:Wd h vf F):
  WC Tryz.prog tb 80 [.agg #[vt,vf],I f] h fun r h'=>r=.tuple #[I (zz T F f).1,I (zz T F f).2]/\Ext h h':=by
 refine en ?_;refine VF ?_;intro p h1 e1 o1;refine go ?_;refine VA (zJx h1 vt vf T F (tt.ext e1) (zq e1 hm) sm (st.ext e1) (Wd.ext sf e1)) ?_;rintro _ h2 ⟨rfl,e2⟩;have e12:=e1.trans e2;have o1:=o1.ext e2;have st2:=st.ext e12;have sf2:=Wd.ext sf e12;have hF:=sm.funcs;refine go ?_;refine VE (fun hb=> ?_) (fun hb=> ?_)<;>simp only[DB]at hb<;>refine go ?_
 ·refine rt ?_;exact⟨by rw[zz,QF hb];rfl,e12⟩
 have hb:yu T F=0:=by omega
 refine VA (ZO h2 f F.length) ?_;rintro _ _ ⟨rfl,rfl⟩;refine go ?_;refine VE (fun hc=> ?_) (fun hc=> ?_)<;>simp only[DB]at hc<;>refine go ?_
 ·refine rt ?_;exact⟨by rw[zz,QC (by omega),hc,QC (by exact Bool.noConfusion)];rfl,e12⟩
 have hf:0<=f/\f<(F.length:Int):=by unfold zY at hc;simpa using hc
 obtain⟨csF,⟨vb,rfl,sb,hlb⟩,pcF,hsF⟩:=zb (i:=f.toNat) sf2 (by omega);have hsig:=zEn ((yX hb).2.2.2 _ (zG (l:=F) (i:=f.toNat) (by omega)));obtain⟨csT,⟨vp,rfl,sp,hsp⟩,pcT,hsT⟩:=yH (i:=(F.getD f.toNat default).sig.toNat) st2 (by omega);refine gr ?_;exact⟨by rw[zz,QC (by omega),hc,QF rfl];rfl,e12⟩
theorem zJv(h:U0)(vt vf:Value)(T:List U2)(F:List WM)(f:Int)(tt:Bh h)(hm:h.mark<=h.n)(sm:W0 T F)(st:Wp h vt T)(sf:Wd h vf F):
  WC Tryz.prog tb 59 [.agg #[vt,vf],I f] h fun r h'=>r=.tuple #[I (Yn T F f).1,I (Yn T F f).2]/\Ext h h':=by
 refine en ?_;refine VF ?_;intro p h1 e1 o1;refine go ?_;refine VA (zLg h1 vt vf T F f (tt.ext e1) (zq e1 hm) sm (st.ext e1) (Wd.ext sf e1)) ?_;rintro _ h2 ⟨rfl,e2⟩;have e12:=e1.trans e2;have o1:=o1.ext e2;have sf2:=Wd.ext sf e12;have hF:=sm.funcs;refine go ?_;refine VE (fun hb=> ?_) (fun hb=> ?_)<;>simp only[DB]at hb<;>refine go ?_
 ·refine rt ?_;exact⟨by rw[Yn,QF hb];rfl,e12⟩
 have hb2:(zz T F f).2=0:=by omega
 have hin:0<=f/\f<(F.length:Int)/\yu T F=0:=by
  unfold zz at hb2;split at hb2
  ·rename_i hp;exact absurd hb2 hp
  ·rename_i hp;split at hb2
   ·rename_i hc;unfold zY at hc;simp at hc;exact⟨hc.1,hc.2,by omega⟩
   ·cases hb2
 obtain⟨csF,⟨vb,rfl,sb,hlb⟩,pcF,hsF⟩:=zb (i:=f.toNat) sf2 (by omega);have hmem:=zG (l:=F) (i:=f.toNat) (by omega);refine go ?_;refine VA (zGf h2 _ vb _ sb (sm.blocks _ hmem) (sm.ins _ hmem)) ?_;rintro _ h3 ⟨rfl,e3⟩;have hfn:=(yX hin.2.2).2.2.2 _ hmem;have hbd:zN (F.getD f.toNat default).blocks<=128:=by
  unfold BL at hfn;split at hfn
  ·cases hfn
  ·rename_i hbad;unfold Bw at hbad;simp only[GG,not_or,JH,Gf]at hbad;omega
 have hpos:=zAI (F.getD f.toNat default).blocks;have hn:0<=(zz T F f).1/\(zz T F f).1<=100:=by
  unfold zz;split
  ·simp
  ·split
   ·have hs:=zEn hfn;have:=sm.parts _ (zG (l:=T) (i:=(F.getD f.toNat default).sig.toNat) (by omega));simp only;omega
   ·simp
 refine gr ?_;exact⟨by rw[Yn,QC (by omega)];rfl,e12.trans e3⟩
end Go.Proofs.YtfnndahpddkniaaGreatDoor
set_option maxRecDepth 100000
namespace Go.Proofs.YtfnndahpddkniaaGreatDoor
open Go.Am
theorem zK9(h:U0)(vt:Value)(T:List U2)(st:Wp h vt T)(hT:(T.length:Int)<=9223372036854775807):
  WC Tryz.prog tb 30 [vt] h fun r h'=>(r=.bool true\/r=.bool false/\T.length<=20/\∀ x∈T,x.parts.length<=20)/\h=h':=by
 refine en ?_;refine VD (fun i=>T.length-i) (fun i t h1=>h=h1/\zB t 3=I i/\i<=T.length/\∀ j,j<i->(T.getD j default).parts.length<=20) 0 ?_ ?_
 ·exact⟨rfl,U6,QK _,fun j hj=>absurd hj (Qh _)⟩
 rintro i t _ hsame ⟨rfl,s3,hi,hm⟩;have fin:(20<(T.length:Int))\/(i=T.length/\T.length<=20)\/i<T.length:=by omega
 refine go ?_;refine VI (fun hb=> ?_) (fun hb=> ?_)<;>simp only[DB]at hb<;>refine go ?_
 ·obtain⟨cs,⟨va,rfl,sa,hla⟩,pc,hs⟩:=yH st (show i<T.length by omega);refine VE (fun hc=> ?_) (fun hc=> ?_)<;>simp only[DB]at hc
  ·refine go ?_;refine VE (fun hd=> ?_) (fun hd=> ?_)<;>simp only[DB]at hd
   ·refine gr ?_;exact⟨.inl rfl,rfl⟩
   ·refine go ?_;refine zA (i+1) (by omega) ⟨rfl,Wc,by omega,fun j hj=> ?_⟩;by_cases e:j=i
    ·subst e;omega
    ·exact hm j (by omega)
  ·refine gr ?_;refine⟨.inl ?_,rfl⟩;rw[QT (show(20:Int)<T.length by omega)];rfl
 ·refine rt ?_;refine⟨?_,rfl⟩;by_cases hg:20<(T.length:Int)
  ·left;rw[QT hg];rfl
  ·right;refine⟨by rw[QQ hg];rfl,by omega,fun x hx=> ?_⟩;obtain⟨j,hj,rfl⟩:=ZX hx;exact hm j (by omega)
def zEV(F:List WM):Prop:=∀ f∈F,∀ b∈f.blocks,∀ x∈b.ins,x.args.length<=20/\x.frm.length<=20
theorem zMv{T:List U2}{F:List WM}(h1:T.length<=20)(h2:∀ x∈T,x.parts.length<=20)(h3:F.length<=10)(h4:∀ f∈F,f.blocks.length<=20/\∀ b∈f.blocks,b.ins.length<=1000):W0 T F:=
 ⟨by omega,fun x hx=>by have:=h2 x hx;omega,by omega,fun f hf=>by have:=(h4 f hf).1;omega,fun f hf=>(h4 f hf).2⟩
theorem zLQ(h:U0)(vt vf:Value)(T:List U2)(F:List WM)(most:Int)(hmost:0<=most/\most<=1000)(st:Wp h vt T)(sf:Wd h vf F)(hT:(T.length:Int)<=9223372036854775807)(hF:(F.length:Int)<=9223372036854775807):
  WC Tryz.prog tb 8 [.agg #[vt,vf],I most] h fun r h'=>(r=.bool true\/r=.bool false/\W0 T F/\zEV F)/\Ext h h':=by
 refine en ?_;refine VF ?_;intro p h1 e1 o1;have st1:=st.ext e1;have sf1:=Wd.ext sf e1;refine go ?_;refine VA (zK9 h1 vt T st1 hT) ?_;rintro r _ ⟨hr,rfl⟩;refine go ?_;rcases hr with rfl|⟨rfl,hT2,hp2⟩
 ·refine gr ?_;exact⟨.inl rfl,e1⟩
 refine go ?_;refine VE (fun hb=> ?_) (fun hb=> ?_)<;>simp only[DB]at hb<;>refine go ?_
 ·refine rt ?_;exact⟨.inl rfl,e1⟩
 refine VD (fun i=>F.length-i) (fun i t h2=>h1=h2/\zB t 6=I i/\i<=F.length/\(∃ n,zB t 5=I n/\0<=n/\n<=most)/\∀ j,j<i->(F.getD j default).blocks.length<=20/\∀ b∈(F.getD j default).blocks,b.ins.length<=1000/\∀ x∈b.ins,x.args.length<=20/\x.frm.length<=20) 0 ?_ ?_
 ·exact⟨rfl,U6,QK _,⟨0,U6,by omega,by omega⟩,fun j hj=>absurd hj (Qh _)⟩
 rintro i t _ hsame ⟨rfl,s6,hi,⟨n,s5,hn0,hn⟩,hm⟩;refine go ?_;refine VE (fun hc=> ?_) (fun hc=> ?_)<;>simp only[DB]at hc
 ·have hi':i<F.length:=by omega
  obtain⟨csF,⟨vb,rfl,sb,hlb⟩,pcF,hsF⟩:=zb sf1 hi';refine go ?_;refine VE (fun hd=> ?_) (fun hd=> ?_)<;>simp only[DB]at hd<;>refine go ?_
  ·refine rt ?_;exact⟨.inl rfl,e1⟩
  refine VD (fun k=>(F.getD i default).blocks.length-k) (fun k t h2=>h1=h2/\zB t 7=I k/\k<=(F.getD i default).blocks.length/\(∃ n,zB t 5=I n/\0<=n/\n<=most)/\∀ j,j<k->((F.getD i default).blocks.getD j default).ins.length<=1000/\∀ x∈((F.getD i default).blocks.getD j default).ins,x.args.length<=20/\x.frm.length<=20) 0 ?_ ?_
  ·exact⟨rfl,U6,QK _,⟨n,U6,hn0,hn⟩,fun j hj=>absurd hj (Qh _)⟩
  rintro k t2 _ hsame2 ⟨rfl,s7,hk,⟨n2,s5b,hn20,hn2⟩,hm2⟩;refine go ?_;refine VE (fun he=> ?_) (fun he=> ?_)<;>simp only[DB]at he
  ·have hk':k<(F.getD i default).blocks.length:=by omega
   obtain⟨csB,⟨vi,rfl,si,hli⟩,pcB,hsB⟩:=zb sb hk';refine go ?_;refine VE (fun hf=> ?_) (fun hf=> ?_)<;>simp only[DB]at hf<;>refine go ?_
   ·refine rt ?_;exact⟨.inl rfl,e1⟩
   refine VD (fun j=>((F.getD i default).blocks.getD k default).ins.length-j) (fun j t h2=>h1=h2/\zB t 9=I j/\j<=((F.getD i default).blocks.getD k default).ins.length/\∀ q,q<j->(((F.getD i default).blocks.getD k default).ins.getD q default).args.length<=20/\(((F.getD i default).blocks.getD k default).ins.getD q default).frm.length<=20) 0 ?_ ?_
   ·exact⟨rfl,U6,QK _,fun q hq=>absurd hq (Qh _)⟩
   rintro j t3 _ hsame3 ⟨rfl,s9,hj,hq9⟩;refine go ?_;refine VE (fun hg=> ?_) (fun hg=> ?_)<;>simp only[DB]at hg
   ·have hj':j<((F.getD i default).blocks.getD k default).ins.length:=by omega
    obtain⟨csI,⟨va,vfr,rfl,sa,sfr,hla,hlf,ho⟩,pcI,hsI⟩:=zb si hj';refine go ?_;refine VI (fun hh=> ?_) (fun hh=> ?_)<;>simp only[DB]at hh<;>refine go ?_
    ·refine rt ?_;exact⟨.inl rfl,e1⟩
    refine VE (fun hh2=> ?_) (fun hh2=> ?_)<;>simp only[DB]at hh2<;>refine go ?_
    ·refine rt ?_;exact⟨.inl rfl,e1⟩
    ·refine zA (j+1) (by omega) ⟨rfl,Wc,by omega,fun q hq=> ?_⟩;by_cases e:q=j
     ·subst e;omega
     ·exact hq9 q (by omega)
   ·refine go ?_;refine zA (k+1) (by omega) ⟨rfl,Wc,by omega,⟨n2+(((F.getD i default).blocks.getD k default).ins.length:Int),U6,by omega,by omega⟩,fun q hq=> ?_⟩;by_cases e:q=k
    ·subst e;refine⟨by omega,fun x hx=> ?_⟩;obtain⟨y,hy,rfl⟩:=ZX hx;exact hq9 y (by omega)
    ·exact hm2 q (by omega)
  ·refine go ?_;refine zA (i+1) (by omega) ⟨rfl,Wc,by omega,⟨n2,U6,hn20,hn2⟩,fun q hq=> ?_⟩;by_cases e:q=i
   ·subst e;refine⟨by omega,fun b hb=> ?_⟩;obtain⟨y,hy,rfl⟩:=ZX hb;exact hm2 y (by omega)
   ·exact hm q (by omega)
 ·refine gr ?_;have hall:∀ f∈F,f.blocks.length<=20/\∀ b∈f.blocks,b.ins.length<=1000/\∀ x∈b.ins,x.args.length<=20/\x.frm.length<=20:=fun f hf=>by
   obtain⟨y,hy,rfl⟩:=ZX hf;exact hm y (by omega)
  exact⟨.inr ⟨rfl,zMv hT2 hp2 (by omega) fun f hf=>⟨(hall f hf).1,fun b hb=>((hall f hf).2 b hb).1⟩,fun f hf b hb=>((hall f hf).2 b hb).2⟩,e1⟩
end Go.Proofs.YtfnndahpddkniaaGreatDoor
set_option maxRecDepth 100000
namespace Go.Proofs.YtfnndahpddkniaaGreatDoor
open Go.Am
def ZI(x:BY):List Int:=if x.kind=1 then[x.to]else if x.kind=2 then(if x.to=x.els then[x.to]else[x.to,x.els])else[]
def Bj(h:U0)(v:Value):Prop:=∀ a n c,v=.slice (some a) n c->h.n<=a.block
theorem Bj.since{h h':U0}{v:Value}(f:Bj h' v)(n:h.n<=h'.n):Bj h v:=fun a k c e=>QU n (f a k c e)
theorem zFG{h0 h:U0}{v:Value}{l:List Int}(o:WT h0 h v l):Bj h0 v:=by
 obtain⟨g,a,_,rfl,_⟩:=o;intro a n c e;cases e;assumption
theorem zJE(h0 h:U0)(v:Value)(a b:Int)(e0:Ext h0 h)(o:WT h0 h v [a,b]):
  WC Tryz.prog tb 224 [v] h fun r h'=>WJ h' r (if a=b then[a]else[a,b])/\Bj h0 r/\Ext h0 h':=by
 have s:WJ h v [a,b]:=o.sl;have fr:=zFG o;refine en ?_;refine VE (fun hb=> ?_) (fun hb=> ?_)<;>simp only[DB]at hb
 ·exact absurd hb (by simp)
 refine go ?_;refine VD (fun i=>2-i) (fun i t h1=>h=h1/\zB t 3=I i/\(i=1\/i=2/\a≠b)) 1 ?_ ?_
 ·exact⟨rfl,U6,.inl rfl⟩
 rintro i t _ hsame ⟨rfl,s3,hi⟩;have hlen:([a,b]:List Int).length=2:=rfl;refine go ?_;refine VE (fun hc=> ?_) (fun hc=> ?_)<;>simp only[DB]at hc
 ·have hi1:i=1:=by rw[hlen]at hc;omega
  subst hi1;refine go ?_;refine VE (fun hd=> ?_) (fun hd=> ?_)<;>simp only[DB]at hd
  ·have hab:a=b:=by simpa [List.getD]using hd.symm
   subst hab;obtain⟨g,g1,g2,rfl,g3⟩:=o;refine go ?_;refine Vi (i:=1) (v:= .slice (some ⟨g,0,none⟩) [a,a].length 1) (r:= .slice (some ⟨g,1,none⟩) 1 1) (by rfl) ?_;have s4:WJ h (.slice (some ⟨g,1,none⟩) 1 1) [a]:=⟨rfl,.inr ⟨g,1,_,rfl,ZW g3,by rfl,g2⟩⟩;refine go ?_;refine VD (fun i=>1) (fun(i:Unit) t h1=>h=h1/\zB t 5=I 1/\zB t 3=I ((1:Nat):Int)) () ?_ ?_
   ·exact⟨rfl,U6,U6⟩
   rintro _ t2 _ hsame2 ⟨rfl,s5,s3b⟩;have hlen1:([a]:List Int).length=1:=rfl;refine go ?_;refine Vi (i:=1) (v:= .slice (some ⟨g,0,none⟩) [a,a].length 1) (r:= .slice (some ⟨g,1,none⟩) 1 1) (by rfl) ?_;have hcl:zBP 1 [I 0] (.slice (some ⟨g,1,none⟩) 1 1) h=some (.tuple #[],h.set g (.row [I a,I 0] true 0)):=by
    show((zo h ⟨g,1,none⟩ [I 0]).map (Value.tuple #[],·))=_;have:zo h ⟨g,1,none⟩ [I 0]=some (h.set g (.row [I a,I 0] true 0)):=by
     unfold zo;rw[g3];rfl
    rw[this];rfl
   refine Uj hcl ?_;have e1:Ext h0 (h.set g (.row [I a,I 0] true 0)):=e0.set g1 g2 _;refine go ?_;refine Vu (i:=1) (v:= .slice (some ⟨g,0,none⟩) [a,a].length 1) (r:= .slice (some ⟨g,0,none⟩) 1 1) (by rfl) ?_;refine gr ?_;refine⟨?_,(fun a k c e=>by cases e;exact g1),e1⟩;rw[QF rfl];exact⟨rfl,.inr ⟨g,0,[I a,I 0],rfl,by unfold yW;rw[zt,QF rfl],by rfl,g2⟩⟩
  ·have hab:a≠b:=fun e=>hd (by simp[List.getD,e]);refine go ?_;exact zA 2 (by omega) ⟨rfl,U6,.inr ⟨rfl,hab⟩⟩
 ·refine gr ?_
  have:a≠b:=by rcases hi with rfl|⟨_,h⟩;. exact absurd hc (by simp)
               ·exact h
  exact⟨by rw[QC this];exact s,fr,e0⟩
theorem zJZ(h:U0)(x:BY):
  WC Tryz.prog tb 206 [.agg #[.int .u8 x.kind,I x.a,I x.to,I x.els]] h fun r h'=>WJ h' r (ZI x)/\Bj h r/\Ext h h':=by
 refine en ?_;refine VF ?_;intro p h1 e1 o1;refine go ?_;refine VE (fun hb=> ?_) (fun hb=> ?_)<;>simp only[DB]at hb<;>refine go ?_
 ·refine WO.bl [x.to] ?_;intro v h2 e2 o2;refine gr ?_;refine⟨?_,(zFG o2).since e1.n,e1.trans e2⟩;rw[ZI,QF hb];exact o2.sl
 refine VE (fun hc=> ?_) (fun hc=> ?_)<;>simp only[DB]at hc<;>refine go ?_
 ·refine WO.bl [x.to,x.els] ?_;intro v h2 e2 o2;refine go ?_;refine VA (zJE h1 h2 v x.to x.els e2 o2) ?_;rintro r h3 ⟨s3,f3,e3⟩;refine gr ?_;refine⟨?_,f3.since e1.n,e1.trans e3⟩;rw[ZI,QC hb,QF hc];exact s3
 ·refine rt ?_;refine⟨?_,(fun a k c e=>by cases e),e1⟩;rw[ZI,QC hb,QC hc];exact WJ.nil _
def zF(T:List U2)(F:List WM)(f b:Int):List WL×Int:=
 if(Yn T F f).2≠0 then([],(Yn T F f).2)else if b<0\/((F.getD f.toNat default).blocks.length:Int)<=b then([],2)else((F.getD f.toNat default).blocks,0)
theorem zBW{T:List U2}{F:List WM}{f:Int}(h:(Yn T F f).2=0):0<=f/\f<(F.length:Int)/\yu T F=0:=by
 have hb2:(zz T F f).2=0:=by
  unfold Yn at h;split at h
  ·rename_i hn;exact absurd h hn
  ·rename_i hn;omega
 unfold zz at hb2;split at hb2
 ·rename_i hp;exact absurd hb2 hp
 ·rename_i hp;split at hb2
  ·rename_i hc;unfold zY at hc;simp at hc;exact⟨hc.1,hc.2,by omega⟩
  ·cases hb2
theorem zCu(h:U0)(vt vf:Value)(T:List U2)(F:List WM)(f b:Int)(tt:Bh h)(hm:h.mark<=h.n)(sm:W0 T F)(st:Wp h vt T)(sf:Wd h vf F):
  WC Tryz.prog tb 174 [.agg #[vt,vf],I f,I b] h fun r h'=>(∃ v,r=.tuple #[v,I (zF T F f b).2]/\Wi h' v (zF T F f b).1)/\Ext h h':=by
 refine en ?_;refine VF ?_;intro p h1 e1 o1;refine go ?_;refine VA (zJv h1 vt vf T F f (tt.ext e1) (zq e1 hm) sm (st.ext e1) (Wd.ext sf e1)) ?_;rintro _ h2 ⟨rfl,e2⟩;have e12:=e1.trans e2;have o1:=o1.ext e2;have sf2:=Wd.ext sf e12;have hF:=sm.funcs;refine go ?_;refine VE (fun hb=> ?_) (fun hb=> ?_)<;>simp only[DB]at hb<;>refine go ?_
 ·refine rt ?_;rw[show zF T F f b=([],(Yn T F f).2)from by rw[zF,QF hb]];exact⟨⟨_,rfl,Ww.nil⟩,e12⟩
 have hb0:(Yn T F f).2=0:=by omega
 have hin:=zBW hb0;obtain⟨csF,⟨vb,rfl,sb,hlb⟩,pcF,hsF⟩:=zb (i:=f.toNat) sf2 (by omega);refine VI (fun hc=> ?_) (fun hc=> ?_)<;>simp only[DB]at hc<;>refine go ?_
 ·refine rt ?_;rw[show zF T F f b=([],2)from by rw[zF,QC (by omega),QF (.inl hc)]];exact⟨⟨_,rfl,Ww.nil⟩,e12⟩
 refine VE (fun hd=> ?_) (fun hd=> ?_)<;>simp only[DB]at hd<;>refine go ?_<;>refine rt ?_
 ·rw[show zF T F f b=([],2)from by rw[zF,QC (by omega),QF (.inr hd)]];exact⟨⟨_,rfl,Ww.nil⟩,e12⟩
 ·rw[show zF T F f b=((F.getD f.toNat default).blocks,0)from by rw[zF,QC (by omega),QC (by omega)]];exact⟨⟨_,rfl,sb⟩,e12⟩
theorem ZA{T:List U2}{F:List WM}{f b:Int}(h:(zF T F f b).2=0):0<=b/\b<((zF T F f b).1.length:Int)/\(zF T F f b).1=(F.getD f.toNat default).blocks/\(Yn T F f).2=0:=by
 unfold zF at h |-;split at h
 ·rename_i hn;exact absurd h hn
 ·rename_i hn;rw[QC hn];split at h
  ·cases h
  ·rename_i hb;rw[QC hb];exact⟨by omega,by simp only;omega,rfl,by omega⟩
end Go.Proofs.YtfnndahpddkniaaGreatDoor
set_option maxRecDepth 100000
namespace Go.Proofs.YtfnndahpddkniaaGreatDoor
open Go.Am
theorem zOw{l:List Int}{n:Int}{i:Nat}(h:i<l.length)(e:l.getD i 0=n):n∈l:=e▸zO h
theorem zIT{l:List Int}{n:Int}(h:∀ i,i<l.length->l.getD i 0≠n):n∉l:=fun hn=>by
 obtain⟨i,hi,e⟩:=Zi hn;exact h i hi e
theorem zLS(h:U0)(v:Value)(l:List Int)(n:Int)(s:WJ h v l)(hl:(l.length:Int)<=9223372036854775807):
  WC Tryz.prog tb 207 [v,I n] h fun r h'=>(∃ k:Int,r=I k/\decide (0<=k)=decide (n∈l))/\h=h':=by
 refine en ?_;refine VD (fun i=>l.length-i) (fun i t h1=>h=h1/\zB t 8=I i/\i<=l.length/\∀ j,j<i->l.getD j 0≠n) 0 ?_ ?_
 ·exact⟨rfl,U6,QK _,fun j hj=>absurd hj (Qh _)⟩
 rintro i t _ hsame ⟨rfl,s8,hi,hm⟩;refine go ?_;refine VE (fun hb=> ?_) (fun hb=> ?_)<;>simp only[DB]at hb
 ·have hi':i<l.length:=by omega
  refine go ?_;refine VE (fun hc=> ?_) (fun hc=> ?_)<;>simp only[DB]at hc<;>refine go ?_
  ·refine rt ?_;exact⟨⟨i,rfl,by rw[QT (zOw hi' hc.symm)];simp⟩,rfl⟩
  ·refine zA (i+1) (by omega) ⟨rfl,Wc,by omega,fun j hj=> ?_⟩;by_cases e:j=i
   ·subst e;exact fun h=>hc h.symm
   ·exact hm j (by omega)
 ·refine gr ?_;exact⟨⟨-1,rfl,by rw[QQ (zIT fun j hj=>hm j (by omega))];rfl⟩,rfl⟩
theorem Y2(h:U0)(v:Value)(l:List Int)(n:Int)(s:WJ h v l)(hl:(l.length:Int)<=9223372036854775807):
  WC Tryz.prog tb 182 [v,I n] h fun r h'=>r=.bool (decide (n∈l))/\h=h':=by
 refine en ?_;refine VA (zLS h v l n s hl) ?_;rintro _ _ ⟨⟨k,rfl,e⟩,rfl⟩;refine gr ?_;exact⟨by rw[<-e];rfl,rfl⟩
abbrev DS:=List (Int×Int)×List Int
def ZQ(nx:Int->List Int):Nat->Int->DS->DS
 |0,_,s=>s
 |n+1,b,s=>if(s.1.lookup b).isSome then s else
  (((nx b).foldl (fun(t:DS) (c:Int)=>ZQ nx n c t) (s.1++[(b,(s.1.length:Int))],s.2)).1,((nx b).foldl (fun(t:DS) (c:Int)=>ZQ nx n c t) (s.1++[(b,(s.1.length:Int))],s.2)).2++[b])
def Zs(nx:Int->List Int)(n:Nat)(l:List Int)(s:DS):DS:=l.foldl (fun s c=>ZQ nx n c s) s
def BO(N:Nat)(es:List (Int×Int)):Nat:=((List.range N).filter fun(i:Nat)=>(es.lookup ((i:Nat):Int)).isNone).length
theorem zAf{es:List (Int×Int)}{b v c:Int}:(es++[(b,v)]).lookup c=match es.lookup c with|some w=>some w|none=>if c=b then some v else none:=by
 induction es with
 |nil=>
  simp only[GK,List.lookup_cons,List.lookup_nil];by_cases h:c=b
  ·subst h;simp
  ·have:(c == b)=false:=by simpa using h
   rw[this,QC h]
 |cons e es ih=>
  obtain⟨k,w⟩:=e;simp only[JC,List.lookup_cons];cases hk:(c == k)with
  |true=>rfl
  |false=>simp only;exact ih
theorem zGz{es:List (Int×Int)}{b v c:Int}(h:(es.lookup c).isSome):((es++[(b,v)]).lookup c).isSome:=by
 rw[zAf];cases hc:es.lookup c with
 |none=>rw[hc]at h;cases h
 |some w=>rfl
theorem zMJ{nx:Int->List Int}:∀ (n:Nat) (b:Int) (s:DS) (c:Int),(s.1.lookup c).isSome->((ZQ nx n b s).1.lookup c).isSome:=by
 intro n;induction n with
 |zero=>intro b s c h;exact h
 |succ n ih=>
  intro b s c h;unfold ZQ;split
  ·exact h
  ·simp only;have:∀ (l:List Int) (s:DS),(s.1.lookup c).isSome->((l.foldl (fun s c=>ZQ nx n c s) s).1.lookup c).isSome:=by
    intro l;induction l with
    |nil=>intro s h;exact h
    |cons x l ihl=>intro s h;exact ihl _ (ih x s c h)
   exact this _ _ (zGz h)
theorem zFQ{nx:Int->List Int}{n:Nat}{c:Int}:∀ (l:List Int) (s:DS),(s.1.lookup c).isSome->((Zs nx n l s).1.lookup c).isSome
 |[],s,h=>h
 |x::l,s,h=>zFQ l _ (zMJ n x s c h)
theorem zKo{N:Nat}{p q:Nat->Bool}(h:∀ i,i<N->q i=true->p i=true):((List.range N).filter q).length<=((List.range N).filter p).length:=by
 rw[<-List.countP_eq_length_filter,<-List.countP_eq_length_filter];exact List.countP_mono_left fun i hi hq=>h i (GQ.1 hi) hq
theorem zCQ{N:Nat}{es es':List (Int×Int)}(h:∀ c,(es.lookup c).isSome->(es'.lookup c).isSome):BO N es'<=BO N es:=by
 unfold BO;apply zKo;intro i _ hi;cases hc:es.lookup (i:Int)with
 |none=>rfl
 |some w=>
  have:=h i (by rw[hc];rfl);rw[Option.isNone_iff_eq_none]at hi;rw[hi]at this;cases this
theorem zEJ{p q:Nat->Bool}{i:Nat}(hp:p i=true)(hq:q i=false):∀ {l:List Nat},(∀ j∈l,q j=true->p j=true)->i∈l->l.countP q<l.countP p
 |[],_,h=>by cases h
 |x::l,hl,h=>by
  have hle:l.countP q<=l.countP p:=List.countP_mono_left fun j hj hqj=>hl j (by simp[hj]) hqj;by_cases e:x=i
  ·subst e;simp only[List.countP_cons,hp,hq,Q0];simp;omega
  ·have him:i∈l:=by
    rcases GI.1 h with h|h
    ·exact absurd h.symm e
    ·exact h
   have:=zEJ hp hq (l:=l) (fun j hj=>hl j (by simp[hj])) him;simp only[List.countP_cons];cases hqx:q x with
   |false=>simp;omega
   |true=>rw[hl x (by simp) hqx];simp;omega
theorem zET{N:Nat}{es:List (Int×Int)}{b v:Int}(h:es.lookup b=none)(hb:0<=b/\b<(N:Int)):BO N (es++[(b,v)])<BO N es:=by
 unfold BO;rw[<-List.countP_eq_length_filter,<-List.countP_eq_length_filter];obtain⟨i,rfl⟩:∃ i:Nat,b=i:=⟨b.toNat,by omega⟩;refine zEJ (i:=i) (by simp[h]) (by simp[zAf,h]) (fun j _ hj=> ?_) (GQ.2 (by omega));rw[zAf]at hj;cases hc:es.lookup (j:Int)with
 |none=>rfl
 |some w=>rw[hc]at hj;cases hj
theorem zHh{N:Nat}{es:List (Int×Int)}(h:BO N es=0){b:Int}(hb:0<=b/\b<(N:Int)):(es.lookup b).isSome:=by
 cases hc:es.lookup b with
 |some w=>rfl
 |none=>have:=zET (v:=0) hc hb;omega
theorem zCr{nx:Int->List Int}{N:Nat}(hin:∀ b,0<=b/\b<(N:Int)->∀ c∈nx b,0<=c/\c<(N:Int)):∀ (n:Nat) (b:Int) (s:DS),0<=b/\b<(N:Int)->(ZQ nx n b s).2.length+BO N (ZQ nx n b s).1<=s.2.length+BO N s.1:=by
 intro n;induction n with
 |zero=>intro b s _;exact QE _
 |succ n ih=>
  intro b s hb;unfold ZQ;split
  ·exact QE _
  ·rename_i hns;have hnone:s.1.lookup b=none:=by
    cases hc:s.1.lookup b with
    |none=>rfl
    |some w=>rw[hc]at hns;exact absurd rfl hns
   have:∀ (l:List Int) (s:DS),(∀ c∈l,0<=c/\c<(N:Int))->(l.foldl (fun s c=>ZQ nx n c s) s).2.length+BO N (l.foldl (fun s c=>ZQ nx n c s) s).1<=s.2.length+BO N s.1:=by
    intro l;induction l with
    |nil=>intro s _;exact QE _
    |cons x l ihl=>intro s hl;exact QU (ihl _ fun c hc=>hl c (by simp[hc])) (ih x s (hl x (by simp)))
   have h1:=this (nx b) (s.1++[(b,(s.1.length:Int))],s.2) (hin b hb);have h2:=zET (v:=(s.1.length:Int)) hnone hb;simp only[QR,QX]at *;omega
end Go.Proofs.YtfnndahpddkniaaGreatDoor
set_option maxRecDepth 100000
namespace Go.Am
section
variable {P:Program}{tab:Wo}{t:U5 Value}{h h0:U0}{ds:List Deferred}{rd:Option Nat}{l:List U3}{Q:WH->U0->Prop}{d:Nat}
theorem Vl{x y:Operand}{v w:Value}{xs ys:List Int}(hx:ev t x=v)(hy:ev t y=w)(o:U7 h0 h v xs)(s:WJ h w ys)(e0:Ext h0 h)(hne:ys≠[])(hr:xs.length+ys.length<=4294967296)
  (k:∀ h',Ext h0 h'->WT h0 h' (.slice (some ⟨h.n,0,none⟩) (xs++ys).length 1) (xs++ys)->BP v h h'->WO P tab l ⟨t.set d (.slice (some ⟨h.n,0,none⟩) (xs++ys).length 1),ds,rd⟩ h' Q):WO P tab (⟨some d,none,.append 1 x y⟩::l) ⟨t,ds,rd⟩ h Q:=by
 have hsrc:=Zv s;have hroom:room=4294967296:=rfl;obtain⟨z,zs,rfl⟩:∃ z zs,ys=z::zs:=by
  cases ys with
  |nil=>exact absurd rfl hne
  |cons z zs=>exact⟨z,zs,rfl⟩
 have hone:zK (I z::zs.map I)=true:=zCA (z::zs);have hlen:(I z::zs.map I).length / 1=(z::zs).length:=by simp
 rcases o with⟨rfl,rfl⟩|⟨g,g1,g2,rfl,g3⟩
 ·have h1:Nat.ble (z::zs).length room=true:=QG (by rw[hroom];simpa using hr);refine WO.op (.slice (some ⟨h.n,0,none⟩) (z::zs).length 1) (h.push (.row ((z::zs).map I) true 0)) rfl ?_ (k _ (e0.push _) ⟨h.n,e0.n,by simp[U0.push],rfl,zU _ _⟩ ⟨GU _,fun k hk _=> ?_⟩)
  ·simp only[U8,hx,hy,yP,hsrc,Qr,hone,hlen,h1,QW,cond_true,QV];rfl
  ·rw[zT,QC (by omega)]
 ·have h1:Nat.ble (xs.length+(z::zs).length) room=true:=QG (by rw[hroom];exact hr);have h2:cut (xs.map I) 0 (xs.length*1)=some (xs.map I):=by rw[ZG (by simp)];simp[Q9]
  have hn:(h.kill g).n=h.n:=rfl;have h3:Nat.ble 0 (0+xs.length*1)=true:=QG (QK _);have hl:xs.length+(z::zs).length=(xs++z::zs).length:=(QR ..).symm;refine WO.op (.slice (some ⟨h.n,0,none⟩) (xs++z::zs).length 1) ((h.kill g).push (.row (xs.map I++(z::zs).map I) true (0-0))) rfl ?_
   (k _ ((e0.kill g1).push _) ⟨h.n,e0.n,by simp[U0.push,U0.kill],rfl,?_⟩ ⟨GU _,fun k hk hv=> ?_⟩)
  ·rw[<-hl];simp only[U8,hx,hy,yP,hsrc,Qr,hone,hlen,h1,g3,h2,h3,QW,cond_true,QV];rfl
  ·have:=zU (h.kill g) (.row (xs.map I++(z::zs).map I) true (0-0));rw[hn]at this;rw[this];simp
  ·rw[zT,QC (by rw[hn];omega),yl,QC (fun e=>hv _ _ _ rfl e.symm)]
end
end Go.Am
namespace Go.Proofs.YtfnndahpddkniaaGreatDoor
open Go.Am
def zOx(p vm vd:Value)(g:Nat):Prop:=p≠ .pointer (some ⟨g,0,none⟩)/\vm≠ .map (some g)/\∀ a n c,vd=.slice (some a) n c->a.block≠g
structure WS(hB h:U0)(p vl vm vd:Value)(s:DS):Prop where
 own:U1 hB h p [vl,vm,vd]
 map:BC hB h vm s.1
 dn:U7 hB h vd s.2
 ext:Ext hB h
def W8(h h':U0)(p vm vd vd':Value):Prop:=h.n<=h'.n/\∀ g,g<h.n->zOx p vm vd g->h'.get g=h.get g/\zOx p vm vd' g
theorem W8.refl(h:U0)(p vm vd:Value):W8 h h p vm vd vd:=⟨QE _,fun _ _ n=>⟨rfl,n⟩⟩
theorem W8.trans{h h1 h2:U0}{p vm vd vd1 vd2:Value}(a:W8 h h1 p vm vd vd1)(b:W8 h1 h2 p vm vd1 vd2):W8 h h2 p vm vd vd2:=
 ⟨QU a.1 b.1,fun g hg nw=>let⟨x,y⟩:=a.2 g hg nw;let⟨u,v⟩:=b.2 g (QM hg a.1) y;⟨u.trans x,v⟩⟩
theorem W8.ext{h h':U0}(e:Ext h h')(p vm vd:Value):W8 h h' p vm vd vd:=⟨e.n,fun g hg n=>⟨e.get g hg,n⟩⟩
def Off(h:U0)(p vm vd v:Value)(l:List Int):Prop:=l=[]\/∃ g off,v=.slice (some ⟨g,off,none⟩) l.length 1/\g<h.n/\zOx p vm vd g
theorem zNW{h h':U0}{v:Value}(s:WJ h v []):WJ h' v []:=by
 refine⟨rfl,.inl ⟨rfl,?_⟩⟩;rcases s.2 with⟨_,hv⟩|⟨g,off,row,hv,_⟩
 ·exact hv
 ·exact .inr ⟨_,_,hv⟩
theorem W8.sl{h h':U0}{p vm vd vd' v:Value}{l:List Int}(k:W8 h h' p vm vd vd')(s:WJ h v l)(o:Off h p vm vd v l):WJ h' v l/\Off h' p vm vd' v l:=by
 rcases o with rfl|⟨g,off,rfl,hg,nw⟩
 ·exact⟨zNW s,.inl rfl⟩
 ·obtain⟨e1,e2⟩:=k.2 g hg nw;refine⟨⟨s.1,?_⟩,.inr ⟨g,off,rfl,QM hg k.1,e2⟩⟩;rcases s.2 with⟨h0,hv⟩|⟨g',off',row,hv,hr,hc,hl⟩
  ·exact .inl ⟨h0,hv⟩
  ·cases hv;exact .inr ⟨g,off,row,rfl,by unfold yW at *;rw[e1];exact hr,hc,QM hg k.1⟩
theorem zKO{hB h h2:U0}{p vl vm vd v:Value}{s:DS}{l:List Int}(w:WS hB h p vl vm vd s)(f:Bj h v)(sl:WJ h2 v l):Off h2 p vm vd v l:=by
 rcases sl.2 with⟨h0,hv⟩|⟨g,off,row,hv,hr,hc,hl⟩
 ·exact .inl (Gi.1 h0)
 ·refine .inr ⟨g,off,hv,hl,?_⟩;have hg:h.n<=g:=f _ _ _ hv;obtain⟨g1,_,a1,rfl,_⟩:=w.own;obtain⟨g2,_,_,_,a2,rfl,_⟩:=w.map;refine⟨fun e=>by cases e;omega,fun e=>by cases e;omega,fun a n c e he=> ?_⟩;rcases w.dn with⟨rfl,_⟩|⟨g3,_,a3,rfl,_⟩
  ·cases e
  ·cases e;simp only at he;omega
theorem zGG{h0 h1 h:U0}{p v:Value}{a:Option Addr}{n k:Nat}{cs:List Value}{xs:List Int}(o:U1 h0 h p (.slice a n k::cs))(i:U7 h1 h v xs):∀ b m c,v=.slice (some b) m c->p≠ .pointer (some ⟨b.block,0,none⟩):=by
 intro b m c hv hp;obtain⟨g,_,_,rfl,hg⟩:=o;rcases i with⟨rfl,_⟩|⟨g2,_,_,rfl,hg2⟩
 ·cases hv
 ·cases hv;cases hp;rw[hg]at hg2;cases xs with
  |nil=>cases hg2
  |cons x xs=>cases hg2
theorem U1.upd{h0 h h':U0}{p v:Value}{a:Option Addr}{n k:Nat}{cs:List Value}{xs:List Int}(o:U1 h0 h p (.slice a n k::cs))(i:U7 h0 h v xs)(u:BP v h h'):U1 h0 h' p (.slice a n k::cs):=by
 have hne:=zGG o i;obtain⟨g,g1,g2,rfl,hg⟩:=o;exact⟨g,g1,QM g2 u.1,rfl,(u.2 g g2 fun b m c hv e=>hne b m c hv (by rw[e])).trans hg⟩
theorem U1.updM{h0 h h':U0}{p m:Value}{cs:List Value}{es:List (Int×Int)}(o:U1 h0 h p cs)(i:BC h0 h m es)(u:zMG m h h'):U1 h0 h' p cs:=by
 obtain⟨g,g1,g2,rfl,hg⟩:=o;refine⟨g,g1,QM g2 u.1,rfl,(u.2 g g2 fun e=> ?_).trans hg⟩;obtain⟨g3,_,_,_,_,rfl,h3,_⟩:=i;cases e;rw[hg]at h3;cases h3
theorem BC.updC{h0 h h':U0}{p m:Value}{cs:List Value}{es:List (Int×Int)}(i:BC h0 h m es)(o:U1 h0 h p cs)(u:Wg p h h'):BC h0 h' m es:=by
 obtain⟨g3,c,es',g1,g2,rfl,h3,h4⟩:=i;refine⟨g3,c,es',g1,QM g2 u.1,rfl,(u.2 g3 g2 fun e=> ?_).trans h3,h4⟩;obtain⟨g,_,_,rfl,hg⟩:=o;cases e;rw[h3]at hg;cases hg
theorem WT.updC{h0 h h':U0}{p v:Value}{a:Option Addr}{n k:Nat}{cs:List Value}{xs:List Int}(i:WT h0 h v xs)(o:U1 h0 h p (.slice a n k::cs))(u:Wg p h h'):WT h0 h' v xs:=by
 have hne:=zGG o (.inr i);obtain⟨g,g1,g2,rfl,hg⟩:=i;exact⟨g,g1,QM g2 u.1,rfl,(u.2 g g2 fun e=>hne _ _ _ rfl e).trans hg⟩
def WZ(L:List WL)(b:Int):List Int:=ZI (L.getD b.toNat default).fin
theorem zBT{nx:Int->List Int}{n:Nat}{b:Int}{s:DS}(h:(s.1.lookup b).isSome):ZQ nx n b s=s:=by
 cases n with
 |zero=>rfl
 |succ n=>unfold ZQ;rw[QF h]
theorem zJi(hB:U0)(L:List WL)(vl:Value)(hin:∀ b,0<=b/\b<(L.length:Int)->∀ c∈WZ L b,0<=c/\c<(L.length:Int))(n:Nat)
  (IH:∀ (h:U0) (p vm vd:Value) (s:DS) (b:Int),WS hB h p vl vm vd s->0<=b/\b<(L.length:Int)->BO L.length s.1<=n->s.2.length+BO L.length s.1<=L.length->
   WC Tryz.prog tb 205 [p,I b] h fun r h'=>∃ vd',WS hB h' p vl vm vd' (ZQ (WZ L) n b s)/\W8 h h' p vm vd vd')
  (h:U0) (p vm vd nlv:Value) (s:DS) (l:List Int) (w:WS hB h p vl vm vd s) (sl:WJ h nlv l) (hl:(l.length:Int)<=1000) (o:Off h p vm vd nlv l) (hr:∀ c∈l,0<=c/\c<(L.length:Int)) (hu:BO L.length s.1<=n) (hd:s.2.length+BO L.length s.1<=L.length):
  WC Tryz.prog tb 204 [p,nlv,.func (.func 205) #[] #[]] h fun r h'=>∃ vd',WS hB h' p vl vm vd' (Zs (WZ L) n l s)/\W8 h h' p vm vd vd':=by
 refine en ?_;refine VD (fun i=>l.length-i) (fun i t h1=>zB t 10=I i/\i<=l.length/\∃ vd1,WS hB h1 p vl vm vd1 (Zs (WZ L) n (l.take i) s)/\W8 h h1 p vm vd vd1) 0 ?_ ?_
 ·exact⟨U6,QK _,vd,w,W8.refl ..⟩
 rintro i t h1 hsame ⟨s10,hi,vd1,w1,k1⟩;obtain⟨sl1,o1⟩:=k1.sl sl o;refine go ?_;refine VE (fun hc=> ?_) (fun hc=> ?_)<;>simp only[DB]at hc
 ·have hi':i<l.length:=by omega
  refine go ?_;have hm:=zO hi';have hu1:BO L.length (Zs (WZ L) n (l.take i) s).1<=n:=QU (zCQ fun c hc=>zFQ _ _ hc) hu;have hd1:(Zs (WZ L) n (l.take i) s).2.length+BO L.length (Zs (WZ L) n (l.take i) s).1<=L.length:=by
   have:∀ (m:List Int) (s:DS),(∀ c∈m,0<=c/\c<(L.length:Int))->(Zs (WZ L) n m s).2.length+BO L.length (Zs (WZ L) n m s).1<=s.2.length+BO L.length s.1:=by
    intro m;induction m with
    |nil=>intro s _;exact QE _
    |cons x m ih=>intro s hm;exact QU (ih _ fun c hc=>hm c (by simp[hc])) (zCr hin n x s (hm x (by simp)))
   exact QU (this _ _ fun c hc=>hr c (Qp hc)) hd
  refine VV (WV.func (IH h1 p vm vd1 _ (l.getD i 0) w1 (hr _ hm) hu1 hd1)) ?_;rintro r h2 ⟨vd2,w2,k2⟩;refine go ?_;refine zA (i+1) (by omega) ⟨Wc,by omega,vd2,?_,k1.trans k2⟩;have e:Zs (WZ L) n (l.take (i+1)) s=ZQ (WZ L) n (l.getD i 0) (Zs (WZ L) n (l.take i) s):=by
   unfold Zs;rw[Q4,List.foldl_append];simp[List.getD,QB hi']
  rw[e];exact w2
 ·refine go ?_;refine Bt ?_;have:i=l.length:=by omega
  subst this;rw[Qk]at w1;exact⟨vd1,w1,k1⟩
end Go.Proofs.YtfnndahpddkniaaGreatDoor
set_option maxRecDepth 100000
namespace Go.Proofs.YtfnndahpddkniaaGreatDoor
open Go.Am
section
variable {t:U5 Value}
theorem zP7{x:Operand}{v:Value}(hx:WB t x v:=by first|with_reducible exact WB.const|((with_reducible apply WB.tmp);(repeat (first|((with_reducible apply Va);rfl)|((with_reducible apply Wb.same);(with_reducible assumption);rfl)));first|with_reducible exact Wb.here|with_reducible assumption|(unfold Wb;with_reducible assumption))|with_reducible exact WB.fn|with_reducible exact V9|fail):ev t x=v:=hx
end
theorem zCH(x:BY):(ZI x).length<=2:=by
 unfold ZI;split
 ·simp
 ·split
  ·split<;>simp
  ·simp
theorem zFy{h0 h:U0}{p:Value}{cs:List Value}(o:U1 h0 h p cs):∃ g,p=.pointer (some ⟨g,0,none⟩):=let⟨g,_,_,e,_⟩:=o;⟨g,e⟩
theorem zLG{hB h h':U0}{p vl vm vd:Value}(u:zMG vm h h'):W8 h h' p vm vd vd:=⟨u.1,fun g hg n=>⟨u.2 g hg n.2.1,n⟩⟩
theorem zMP{h h':U0}{p vm vd:Value}{q:Nat}{k c:Nat}(u:BP vd h h')(hq:q=h.n):W8 h h' p vm vd (.slice (some ⟨q,0,none⟩) k c):=
 ⟨u.1,fun g hg n=>⟨u.2 g hg n.2.2,n.1,n.2.1,fun a k c e=>by cases e;simp only;omega⟩⟩
theorem zKf{h h':U0}{p vm vd:Value}(u:Wg p h h'):W8 h h' p vm vd vd:=⟨u.1,fun g hg n=>⟨u.2 g hg n.1,n⟩⟩
theorem zNR(hB:U0)(hmB:hB.mark<=hB.n)(L:List WL)(vl:Value)(bl:Wi hB vl L)(hL:L.length<=1000)(hin:∀ b,0<=b/\b<(L.length:Int)->∀ c∈WZ L b,0<=c/\c<(L.length:Int)):∀ (n:Nat) (h:U0) (p vm vd:Value) (s:DS) (b:Int),WS hB h p vl vm vd s->0<=b/\b<(L.length:Int)->BO L.length s.1<=n->s.2.length+BO L.length s.1<=L.length->
   WC Tryz.prog tb 205 [p,I b] h fun r h'=>∃ vd',WS hB h' p vl vm vd' (ZQ (WZ L) n b s)/\W8 h h' p vm vd vd':=by
 obtain⟨la,ln,lk,hvl⟩:=zD bl;subst hvl;intro n;induction n with
 |zero=>
  intro h p vm vd s b w hb hu hd;obtain⟨v,hv⟩:=Option.isSome_iff_exists.1 (zHh (Nat.le_zero.1 hu) hb);obtain⟨gp,rfl⟩:=zFy w.own;have wo:=w.own;have wm:=w.map;refine en ?_;refine rt ?_;exact⟨vd,w,W8.refl ..⟩
 |succ n IH=>
  intro h p vm vd s b w hb hu hd;obtain⟨gp,rfl⟩:=zFy w.own;have wo:=w.own;have wm:=w.map;refine en ?_;cases hv:s.1.lookup b with
  |some v=>
   refine gr ?_;exact⟨vd,by rw[zBT (by rw[hv];rfl)];exact w,W8.refl ..⟩
  |none=>
   have hlt:=zET (v:=(s.1.length:Int)) hv hb;refine go ?_;refine VC 0 rfl rfl ?_;have o1:U1 hB (inC (zC 0 h)) (.pointer (some ⟨gp,0,none⟩)) [.slice la ln lk,vm,vd]:=wo;have m1:BC hB (inC (zC 0 h)) vm s.1:=wm;refine U9 ?_;have hmk:h.mark<=hB.n:=by rw[w.ext.mark];exact hmB
   refine WP.upd wm w.ext hmk hv ?_;intro h1 e1 wm1 u1;have wo1:=U1.updM wo wm u1;have wd1:=w.dn.updM wm u1;have k1:W8 h h1 (.pointer (some ⟨gp,0,none⟩)) vm vd vd:=zLG (hB:=hB) (vl:=vm) u1;clear o1 m1 wo wm;obtain⟨i,rfl⟩:∃ i:Nat,b=i:=⟨b.toNat,by omega⟩;have bl1:=Wi.ext bl e1;obtain⟨csB,⟨vi,rfl,si,hli⟩,pcB,hsB⟩:=zb (i:=i) bl1 (by omega);refine go ?_;refine VA (zJZ h1 _) ?_;rintro r h2 ⟨s2,f2,e2⟩;have wo2:=wo1.ext e2;have wm2:=wm1.ext e2;have wd2:=wd1.ext e2;have e02:=e1.trans e2;have w1:WS hB h1 (.pointer (some ⟨gp,0,none⟩)) (.slice la ln lk) vm vd (s.1++[((i:Int),(s.1.length:Int))],s.2):=⟨wo1,wm1,wd1,e1⟩;have w2:WS hB h2 (.pointer (some ⟨gp,0,none⟩)) (.slice la ln lk) vm vd (s.1++[((i:Int),(s.1.length:Int))],s.2):=⟨wo2,wm2,wd2,e02⟩;have hnx:ZI (L.getD i default).fin=WZ L (i:Int):=by unfold WZ;rw[QN]
   rw[hnx]at s2;have hnl:(WZ L (i:Int)).length<=2:=by unfold WZ;exact zCH _
   refine go ?_;refine VA (zJi hB L (.slice la ln lk) hin n IH h2 (.pointer (some ⟨gp,0,none⟩)) vm vd r _ (WZ L (i:Int)) w2 s2 (by omega) (zKO w1 f2 s2) (hin _ hb) (by simp only;omega) (by simp only at hd |-;omega)) ?_;rintro _ h3 ⟨vd3,w3,k3⟩;have wo3:=w3.own;refine go ?_;refine WO.bl [(i:Int)] ?_;intro v4 h4 e4 o4;have wd4:=w3.dn.ext e4;have e34:=w3.ext.trans e4;refine go ?_;have hbd:(Zs (WZ L) n (WZ L (i:Int)) (s.1++[((i:Int),(s.1.length:Int))],s.2)).2.length<=1000:=by
    have:∀ (m:List Int) (s:DS),(∀ c∈m,0<=c/\c<(L.length:Int))->(Zs (WZ L) n m s).2.length+BO L.length (Zs (WZ L) n m s).1<=s.2.length+BO L.length s.1:=by
     intro m;induction m with
     |nil=>intro s _;exact QE _
     |cons x m ih=>intro s hm;exact QU (ih _ fun c hc=>hm c (by simp[hc])) (zCr hin n x s (hm x (by simp)))
    have:=this (WZ L (i:Int)) (s.1++[((i:Int),(s.1.length:Int))],s.2) (hin _ hb);simp only at this;omega
   refine Vl (v:=vd3) (w:=v4) (by exact zP7) (by exact zP7) wd4 o4.sl e34 (by simp) (by simp only[QX];omega) ?_;intro h5 e5 o5 u5;have wo5:=U1.upd (wo3.ext e4) wd4 u5;have wm5:=(w3.map.ext e4).upd wd4 u5;refine go ?_;refine VT wo5 e5 ?_ (hl:=QE 3);intro h6 e6 wo6 u6;refine go ?_;refine Bt ?_;have hdf:ZQ (WZ L) (n+1) (i:Int) s=((Zs (WZ L) n (WZ L (i:Int)) (s.1++[((i:Int),(s.1.length:Int))],s.2)).1,(Zs (WZ L) n (WZ L (i:Int)) (s.1++[((i:Int),(s.1.length:Int))],s.2)).2++[(i:Int)]):=by
    conv=>lhs;unfold ZQ
    rw[QC (by rw[hv];exact Bool.noConfusion)];rfl
   rw[hdf];refine⟨_,⟨wo6,BC.updC wm5 wo5 u6,.inr (WT.updC o5 wo5 u6),e6⟩,?_⟩;exact(((k1.trans (W8.ext e2 ..)).trans k3).trans (W8.ext e4 ..)).trans ((zMP u5 rfl).trans (zKf u6))
end Go.Proofs.YtfnndahpddkniaaGreatDoor
set_option maxRecDepth 100000
namespace Go.Proofs.YtfnndahpddkniaaGreatDoor
open Go.Am
theorem zEp(N:Nat)(es:List (Int×Int)):BO N es<=N:=by
 unfold BO;have:=List.length_filter_le (fun(i:Nat)=>(es.lookup ((i:Nat):Int)).isNone) (List.range N);simpa using this
theorem zJk(h:U0)(hm:h.mark<=h.n)(L:List WL)(vl fv:Value)(l:List Int)(bl:Wi h vl L)(hL:L.length<=1000)(hin:∀ b,0<=b/\b<(L.length:Int)->∀ c∈WZ L b,0<=c/\c<(L.length:Int))(sl:WJ h fv l)(hl:(l.length:Int)<=1000)(hr:∀ c∈l,0<=c/\c<(L.length:Int)):
  WC Tryz.prog tb 177 [vl,fv] h fun r h'=>U7 h h' r (Zs (WZ L) L.length l ([],[])).2/\Ext h h':=by
 obtain⟨la,ln,lk,rfl⟩:=zD bl;refine en ?_;refine WO.mkMap ?_;intro vm h1 e1 m1;obtain⟨gm,rfl⟩:∃ g,vm=.map (some g):=let⟨g,_,_,_,_,e,_⟩:=m1;⟨g,e⟩;refine go ?_;refine VF ?_;intro p h2 e2 o2;have e12:=e1.trans e2;have w2:WS h h2 p (.slice la ln lk) (.map (some gm)) (.slice none 0 0) ([],[]):=⟨o2.since e1,m1.ext e2,.inl ⟨rfl,rfl⟩,e12⟩;have hoff:Off h2 p (.map (some gm)) (.slice none 0 0) fv l:=by
  rcases sl.2 with⟨h0,hv⟩|⟨g,off,row,hv,hr,hc,hg⟩
  ·exact .inl (Gi.1 h0)
  ·refine .inr ⟨g,off,hv,QM hg e12.n,?_⟩;obtain⟨g1,a1,_,hp,_⟩:=w2.own;obtain⟨g2,_,_,a2,_,hm2,_⟩:=w2.map;cases hm2;refine⟨fun e=> ?_,fun e=>by cases e;omega,fun a n c e=>by cases e⟩;rw[hp]at e;cases e;omega
 refine go ?_;refine VA (zJi h L (.slice la ln lk) hin L.length (fun h' p vm vd s b w hb hu hd=>zNR h hm L (.slice la ln lk) bl hL hin L.length h' p vm vd s b w hb hu hd) h2 p _ _ fv ([],[]) l w2 (sl.ext e12) hl hoff hr (zEp _ _) (by have:=zEp L.length [];simp only[Gw];omega)) ?_;rintro _ h3 ⟨vd,w3,k3⟩;obtain⟨gp,rfl⟩:=zFy w3.own;have wo3:=w3.own;refine gr ?_;exact⟨w3.dn,w3.ext⟩
theorem zJo{T:List U2}{n:Int}{f:WM}(h:BL T n f=true):f.blocks.length<=16/\∀ b,0<=b/\b<(f.blocks.length:Int)->∀ c∈WZ f.blocks b,0<=c/\c<(f.blocks.length:Int):=by
 unfold BL at h;split at h
 ·cases h
 ·rename_i hbad;have hlen:f.blocks.length<=16:=by
   unfold Bw at hbad;simp only[GG,not_or,JH,Bool.not_eq_false']at hbad;have h1:zY ((f.blocks.length:Int)-1) 16=true:=by simpa using hbad.1.2
   unfold zY at h1;simp only[QJ,Qc]at h1;omega
  refine⟨hlen,fun b hb c hc=> ?_⟩;rw[Gk,Gu]at h;have hmem:=zG (l:=f.blocks) (i:=b.toNat) (by omega);have hblk:=h _ hmem;unfold Ya at hblk;simp only[GG,not_or,JH,Bool.not_eq_false']at hblk;have he:Bx (f.blocks.getD b.toNat default).fin (Bq T n f)=true:=by simpa using hblk.2
  unfold WZ ZI at hc;unfold Bx zY Bq at he;split at hc
  ·rename_i hk;rw[QF hk]at he;simp only[QJ,Qc]at he;simp only[Qb]at hc;omega
  ·rename_i hk;rw[QC hk]at he;split at hc
   ·rename_i hk2;rw[QF hk2]at he;simp only[QJ,Qc]at he;split at hc
    ·simp only[Qb]at hc;omega
    ·simp only[GI,List.mem_nil_iff,or_false]at hc;rcases hc with rfl|rfl<;>omega
   ·cases hc
theorem ZP{T:List U2}{F:List WM}{f b:Int}(h:(zF T F f b).2=0):(zF T F f b).1.length<=16/\∀ c,0<=c/\c<((zF T F f b).1.length:Int)->∀ d∈WZ (zF T F f b).1 c,0<=d/\d<((zF T F f b).1.length:Int):=by
 obtain⟨_,_,h3,h4⟩:=ZA h;have hin:=zBW h4;rw[h3];exact zJo ((yX hin.2.2).2.2.2 _ (zG (l:=F) (i:=f.toNat) (by omega)))
end Go.Proofs.YtfnndahpddkniaaGreatDoor
