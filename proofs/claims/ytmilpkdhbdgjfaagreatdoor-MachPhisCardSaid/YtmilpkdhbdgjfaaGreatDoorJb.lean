/- Walks of functions, plain laws; proves no statement. -/
import Derived.Test.YtmilpkdhbdgjfaaGreatDoorJa
set_option linter.all false
set_option maxHeartbeats 4000000
set_option maxRecDepth 100000
namespace Go.Proofs.YtmilpkdhbdgjfaaGreatDoor
open Go.Am
theorem zL{α:Type}[Inhabited α]{l:List α}{i:Nat}(h:i<l.length):l.getD i default∈l:=by
 simp[List.getD,QB h]
theorem Zs{α:Type}[Inhabited α]{l:List α}{x:α}(h:x∈l):∃ i,i<l.length/\l.getD i default=x:=by
 obtain⟨i,hi,e⟩:=List.getElem_of_mem h;exact⟨i,hi,by simp[List.getD,QB hi,e]⟩
theorem zM0(h:WF)(v fv:Value)(l:List Wo)(p:Wo->Bool)(s:BD h v l)(hl:(l.length:Int)<=9223372036854775807)(hf:∀ x∈l,∀ h1,WK h h1->∀ cs,BT h1 cs x->WV Tryz.prog tb fv [.agg cs.toArray] h1 fun r h'=>r=.bool (p x)/\WK h1 h'):
  WC Tryz.prog tb 79 [v,fv] h fun r h'=>(∃ n:Int,r=I n/\(decide (0<=n))=l.any p)/\WK h h':=by
 refine en ?_;refine VE (fun i=>l.length-i) (fun i t h1=>WK h h1/\zC t 8=I i/\i<=l.length/\∀ j,j<i->p (l.getD j default)=false) 0 ?_ ?_
 ·exact⟨WK.refl h,WM,QU _,fun j hj=>absurd hj (Qw _)⟩
 rintro i t h1 hsame ⟨e1,s8,hi,hm⟩;have s1:=BD.ext s e1;refine go ?_;refine VD (fun hb=> ?_) (fun hb=> ?_)<;>simp only[DB]at hb
 ·have hi':i<l.length:=by omega
  obtain⟨cs,hcs,pc,hs⟩:=yo s1 hi';have hff:=hf _ (zL hi') h1 e1 cs hcs;obtain⟨va,vf,rfl,hR⟩:=hcs;refine go ?_;refine VY hff ?_;rintro _ h2 ⟨rfl,e2⟩;refine go ?_;refine VD (fun hb=> ?_) (fun hb=> ?_)
  ·refine gr ?_;refine⟨⟨i,rfl,?_⟩,e1.trans e2⟩;rw[G4.2 ⟨_,zL hi',hb⟩];simp
  ·refine go ?_;refine zA (i+1) (by omega) ⟨e1.trans e2,BF,by omega,fun j hj=> ?_⟩;by_cases e:j=i
   ·subst e;exact hb
   ·exact hm j (by omega)
 ·refine gr ?_;refine⟨⟨-1,rfl,?_⟩,e1⟩;rw[zAV fun x hx=>by obtain⟨j,hj,rfl⟩:=Zs hx;exact hm j (by omega)];rfl
theorem zNG(h:WF)(v fv:Value)(l:List Wo)(p:Wo->Bool)(s:BD h v l)(hl:(l.length:Int)<=9223372036854775807)(hf:∀ x∈l,∀ h1,WK h h1->∀ cs,BT h1 cs x->WV Tryz.prog tb fv [.agg cs.toArray] h1 fun r h'=>r=.bool (p x)/\WK h1 h'):
  WC Tryz.prog tb 129 [v,fv] h fun r h'=>r=.bool (l.any p)/\WK h h':=by
 refine en ?_;refine VA (zM0 h v fv l p s hl hf) ?_;rintro _ h1 ⟨⟨n,rfl,e⟩,e1⟩;refine gr ?_;exact⟨by rw[<-e];rfl,e1⟩
theorem zMT(h:WF)(v fv:Value)(l:List Wl)(p:Wl->Bool)(s:BN h v l)(hl:(l.length:Int)<=9223372036854775807)(hf:∀ x∈l,∀ h1,WK h h1->∀ cs,Bw h1 cs x->WV Tryz.prog tb fv [.agg cs.toArray] h1 fun r h'=>r=.bool (p x)/\WK h1 h'):
  WC Tryz.prog tb 170 [v,fv] h fun r h'=>(∃ n:Int,r=I n/\(decide (0<=n))=l.any p)/\WK h h':=by
 refine en ?_;refine VE (fun i=>l.length-i) (fun i t h1=>WK h h1/\zC t 8=I i/\i<=l.length/\∀ j,j<i->p (l.getD j default)=false) 0 ?_ ?_
 ·exact⟨WK.refl h,WM,QU _,fun j hj=>absurd hj (Qw _)⟩
 rintro i t h1 hsame ⟨e1,s8,hi,hm⟩;have s1:=BN.ext s e1;refine go ?_;refine VD (fun hb=> ?_) (fun hb=> ?_)<;>simp only[DB]at hb
 ·have hi':i<l.length:=by omega
  obtain⟨cs,hcs,pc,hs⟩:=yo s1 hi';have hff:=hf _ (zL hi') h1 e1 cs hcs;obtain⟨va,rfl,hR⟩:=hcs;refine go ?_;refine VY hff ?_;rintro _ h2 ⟨rfl,e2⟩;refine go ?_;refine VD (fun hb=> ?_) (fun hb=> ?_)
  ·refine gr ?_;refine⟨⟨i,rfl,?_⟩,e1.trans e2⟩;rw[G4.2 ⟨_,zL hi',hb⟩];simp
  ·refine go ?_;refine zA (i+1) (by omega) ⟨e1.trans e2,BF,by omega,fun j hj=> ?_⟩;by_cases e:j=i
   ·subst e;exact hb
   ·exact hm j (by omega)
 ·refine gr ?_;refine⟨⟨-1,rfl,?_⟩,e1⟩;rw[zAV fun x hx=>by obtain⟨j,hj,rfl⟩:=Zs hx;exact hm j (by omega)];rfl
theorem zMi(h:WF)(v fv:Value)(l:List Wl)(p:Wl->Bool)(s:BN h v l)(hl:(l.length:Int)<=9223372036854775807)(hf:∀ x∈l,∀ h1,WK h h1->∀ cs,Bw h1 cs x->WV Tryz.prog tb fv [.agg cs.toArray] h1 fun r h'=>r=.bool (p x)/\WK h1 h'):
  WC Tryz.prog tb 127 [v,fv] h fun r h'=>r=.bool (l.any p)/\WK h h':=by
 refine en ?_;refine VA (zMT h v fv l p s hl hf) ?_;rintro _ h1 ⟨⟨n,rfl,e⟩,e1⟩;refine gr ?_;exact⟨by rw[<-e];rfl,e1⟩
theorem zN5(h:WF)(v fv:Value)(l:List Wj)(p:Wj->Bool)(s:W7 h v l)(hl:(l.length:Int)<=9223372036854775807)(hf:∀ x∈l,∀ h1,WK h h1->∀ cs,RFn h1 cs x->WV Tryz.prog tb fv [.agg cs.toArray] h1 fun r h'=>r=.bool (p x)/\WK h1 h'):
  WC Tryz.prog tb 124 [v,fv] h fun r h'=>(∃ n:Int,r=I n/\(decide (0<=n))=l.any p)/\WK h h':=by
 refine en ?_;refine VE (fun i=>l.length-i) (fun i t h1=>WK h h1/\zC t 8=I i/\i<=l.length/\∀ j,j<i->p (l.getD j default)=false) 0 ?_ ?_
 ·exact⟨WK.refl h,WM,QU _,fun j hj=>absurd hj (Qw _)⟩
 rintro i t h1 hsame ⟨e1,s8,hi,hm⟩;have s1:=W7.ext s e1;refine go ?_;refine VD (fun hb=> ?_) (fun hb=> ?_)<;>simp only[DB]at hb
 ·have hi':i<l.length:=by omega
  obtain⟨cs,hcs,pc,hs⟩:=yo s1 hi';have hff:=hf _ (zL hi') h1 e1 cs hcs;obtain⟨va,rfl,hR⟩:=hcs;refine go ?_;refine VY hff ?_;rintro _ h2 ⟨rfl,e2⟩;refine go ?_;refine VD (fun hb=> ?_) (fun hb=> ?_)
  ·refine gr ?_;refine⟨⟨i,rfl,?_⟩,e1.trans e2⟩;rw[G4.2 ⟨_,zL hi',hb⟩];simp
  ·refine go ?_;refine zA (i+1) (by omega) ⟨e1.trans e2,BF,by omega,fun j hj=> ?_⟩;by_cases e:j=i
   ·subst e;exact hb
   ·exact hm j (by omega)
 ·refine gr ?_;refine⟨⟨-1,rfl,?_⟩,e1⟩;rw[zAV fun x hx=>by obtain⟨j,hj,rfl⟩:=Zs hx;exact hm j (by omega)];rfl
theorem zOa(h:WF)(v fv:Value)(l:List Wj)(p:Wj->Bool)(s:W7 h v l)(hl:(l.length:Int)<=9223372036854775807)(hf:∀ x∈l,∀ h1,WK h h1->∀ cs,RFn h1 cs x->WV Tryz.prog tb fv [.agg cs.toArray] h1 fun r h'=>r=.bool (p x)/\WK h1 h'):
  WC Tryz.prog tb 104 [v,fv] h fun r h'=>r=.bool (l.any p)/\WK h h':=by
 refine en ?_;refine VA (zN5 h v fv l p s hl hf) ?_;rintro _ h1 ⟨⟨n,rfl,e⟩,e1⟩;refine gr ?_;exact⟨by rw[<-e];rfl,e1⟩
end Go.Proofs.YtmilpkdhbdgjfaaGreatDoor
set_option maxRecDepth 100000
namespace Go.Proofs.YtmilpkdhbdgjfaaGreatDoor
open Go.Am
abbrev szV(s:B9):List Value:=[I s.types,I s.funcs,I s.regs,I s.blocks]
theorem zPZ(h h0:WF)(p:Value)(x:Wo)(s:B9)(cs:List Value)(T:By h)(hR:BT h cs x)(o:WH h0 h p (szV s)):
  WC Tryz.prog tb 125 [.agg cs.toArray,p] h fun r h'=>r=.bool (!zCY x s)/\WK h h':=by
 obtain⟨va,vf,rfl,sa,sf,hla,hlf,ho⟩:=hR;refine en ?_;refine VG ?_;intro p2 h1 e1 o1;have o:=o.ext e1;refine go ?_;refine VA (zPq h1 x va vf s (T.ext e1) (sa.ext e1) (sf.ext e1) (by omega) (by omega) ho) ?_;rintro _ h2 ⟨rfl,e2⟩;refine gr ?_;exact⟨rfl,e1.trans e2⟩
theorem zPt(h h0 h00:WF)(p1 p2:Value)(b:Wl)(s:B9)(cs:List Value)(T:By h)(hR:Bw h cs b)(o1:WH h0 h p1 [.func (.func 125) #[] #[p2]])(o2:WH h00 h p2 (szV s)):
  WC Tryz.prog tb 128 [.agg cs.toArray,p1,p2] h fun r h'=>r=.bool (zCP b s)/\WK h h':=by
 obtain⟨vi,rfl,si,hl⟩:=hR;refine en ?_;refine VG ?_;intro p3 h1 e1 o3;have o1:=o1.ext e1;have o2:=o2.ext e1;have T1:=T.ext e1;refine go ?_;refine VA (zNG h1 vi _ b.ins (fun x=> !zCY x s) (BD.ext si e1) (by omega) ?_) ?_
 ·intro x hx h2 e2 cs hcs;exact WV.func (zPZ h2 h00 p2 x s cs (T1.ext e2) hcs (o2.ext e2))
 rintro _ h2 ⟨rfl,e2⟩;have o3:=o3.ext e2;have o2:=o2.ext e2;refine go ?_;refine VH (fun hb=> ?_) (fun hb=> ?_)<;>refine go ?_
 ·refine rt ?_;exact⟨by simp only[zCP,hb,Qq];rfl,e1.trans e2⟩
 ·refine VA (zPp h2 b.fin s) ?_;rintro _ h3 ⟨rfl,e3⟩;refine gr ?_;exact⟨by simp only[zCP,hb,Qj];rfl,(e1.trans e2).trans e3⟩
theorem Zu(l:List Wl):0<=zz l:=by
 unfold zz;induction l with
 |nil=>simp
 |cons b l ih=>simp only[Q6,List.sum_cons];omega
theorem zQa(h:WF)(vt vf vb:Value)(T:List WJ)(F:List Wj)(f:Wj)(tt:By h)(hm:h.mark<=h.n)(st:Bc h vt T)(sf:W7 h vf F)(sb:BN h vb f.blocks)(hT:T.length<=100)(hp:∀ x∈T,x.parts.length<=100)(hF:(F.length:Int)<=9223372036854775807)(hB:f.blocks.length<=1000)(hI:∀ b∈f.blocks,b.ins.length<=1000):
  WC Tryz.prog tb 106 [.agg #[vt,vf],.agg #[I f.sig,vb]] h fun r h'=>r=.bool (Bs T F.length f)/\WK h h':=by
 refine en ?_;refine VG ?_;intro p2 h1 e1 o1;refine VG ?_;intro p3 h2 e2 o2;have o1:=o1.ext e2;have e12:=e1.trans e2;have st2:=st.ext e12;have sf2:=W7.ext sf e12;have sb2:=BN.ext sb e12;have tt2:=tt.ext e12;have hm2:h2.mark<=h2.n:=by have:=e12.mark;have:=e12.n;omega
 have hbad:zB5 T f=zB5 T f:=rfl;conv at hbad=>rhs;unfold zB5
 refine go ?_;refine VA (yj h2 f.sig T.length) ?_;rintro _ _ ⟨rfl,rfl⟩;refine go ?_;refine VH (fun hb=> ?_) (fun hb=> ?_)<;>simp only[DB]at hb<;>refine go ?_
 ·refine rt ?_;refine⟨?_,e12⟩;rw[Bs,QG (show zB5 T f=true by rw[hbad,hb];rfl)];rfl
 have hsig:0<=f.sig/\f.sig<(T.length:Int):=by
  unfold za at hb;simpa using hb
 obtain⟨csT,⟨vp,rfl,sp,hsp⟩,pcT,hsT⟩:=Zy (i:=f.sig.toNat) st2 (by omega);have hpx:(T.getD f.sig.toNat default).parts.length<=100:=hp _ (zL (by omega));refine go ?_;refine VH (fun hc=> ?_) (fun hc=> ?_)<;>simp only[DB]at hc<;>refine go ?_
 ·refine rt ?_;refine⟨?_,e12⟩;rw[Bs,QG (show zB5 T f=true by rw[hbad,hb,QW hc];rfl)];rfl
 refine VA (yj h2 ((f.blocks.length:Int)-1) 16) ?_;rintro _ _ ⟨rfl,rfl⟩;refine go ?_;refine VH (fun hd=> ?_) (fun hd=> ?_)<;>simp only[DB]at hd<;>refine go ?_
 ·refine rt ?_;refine⟨?_,e12⟩;rw[Bs,QG (show zB5 T f=true by rw[hbad,hb,QX hc,hd];rfl)];rfl
 refine VA (zDh h2 f.sig vb f.blocks sb2 hB hI) ?_;rintro _ h3 ⟨rfl,e3⟩;have e13:=e12.trans e3;have o1:=o1.ext e3;have o2:=o2.ext e3;have st3:=st2.ext e3;have sf3:=W7.ext sf2 e3;have sb3:=BN.ext sb2 e3;have tt3:=tt2.ext e3;have hm3:h3.mark<=h3.n:=by have:=e3.mark;have:=e3.n;omega
 refine go ?_;refine VD (fun he=> ?_) (fun he=> ?_)<;>simp only[DB]at he<;>refine go ?_
 ·refine rt ?_;refine⟨?_,e13⟩;rw[Bs,QG (show zB5 T f=true by rw[hbad,hb,QX hc,hd,QX he];rfl)];rfl
 refine goC ?_;have hbadF:zB5 T f=false:=by rw[hbad,hb,QX hc,hd,QW (by omega)];rfl
 obtain⟨a',n',k',rfl⟩:=zN st3;clear hbad hb hd pcT;refine VC 1 rfl rfl ?_;have e4:=zQ 1 h3;generalize hqq:zB 1 h3=h4 at *;have hn4:h4.n=h3.n+1:=by rw[<-hqq];rfl
 have o1r:WH h (inC h4) p2 [.slice a' n' k',vf]:=by have:=o1.ext e4;exact this
 have o2r:WH h1 (inC h4) p3 [I f.sig,vb]:=by have:=o2.ext e4;exact this
 have str:Bc (inC h4) (.slice a' n' k') T:=by have:=st3.ext e4;exact this
 have sfr:W7 (inC h4) vf F:=by have:=W7.ext sf3 e4;exact this
 have sbr:BN (inC h4) vb f.blocks:=by have:=BN.ext sb3 e4;exact this
 obtain⟨csr,⟨vpr,rfl,spr,hspr⟩,pcr,hsr⟩:=Zy (i:=f.sig.toNat) str (by omega);refine Wc ?_;refine VA (zDh (inC h4) f.sig vb f.blocks sbr hB hI) ?_;rintro _ h5 ⟨rfl,e5⟩;refine WO.nil ?_;refine zPN e5 rfl ?_;have o1s:WH h (inC h5) p2 [.slice a' n' k',vf]:=by have:=o1r.ext e5;exact this
 have o2s:WH h1 (inC h5) p3 [I f.sig,vb]:=by have:=o2r.ext e5;exact this
 have sbs:BN (inC h5) vb f.blocks:=by have:=BN.ext sbr e5;exact this
 have hmp:=Zu f.blocks;refine Wc ?_;refine zBy o2 (by omega) ?_;refine Wc ?_;have hn5:h3.n<h5.n:=by have:h4.n<=h5.n:=e5.n;omega
 refine XL hm3 hn5 ?_;rw[<-hqq]at e5;have e6:=zHQ (o:= .row [I 0,I 0,I 0,I 0] true 0) (o':= .row [I (T.length:Int),I (F.length:Int),I (((T.getD f.sig.toNat default).parts.length:Int)+zz f.blocks),I (f.blocks.length:Int)] true 0) (k:=0) e5;have o5:=zG6 (cs:=[I (T.length:Int),I (F.length:Int),I (((T.getD f.sig.toNat default).parts.length:Int)+zz f.blocks),I (f.blocks.length:Int)]) (o:= .row [I 0,I 0,I 0,I 0] true 0) e5;unfold B5;refine(?_:∀ h6,WK h3 h6->WH h3 h6 (.pointer (some ⟨h3.n,0,none⟩)) (szV (szL T F.length f))->zEC _ _ _ _ _ _ h6) _ e6 o5;clear e6 o5;intro h6 e6 o5;generalize Value.pointer (some ⟨h3.n,0,none⟩)=p5 at *;have o2:=o2.ext e6;have sb6:=BN.ext sb3 e6;have tt6:=tt3.ext e6;have e16:=e13.trans e6;refine go ?_;refine VJ ?_;intro p6 h7 e7 o6;refine VF o6 e7 ?_;intro h8 e8 o6 _;have o2:=o2.ext e8;have o5:=o5.ext e8;have sb8:=BN.ext sb6 e8;have tt8:=tt6.ext e8;refine go ?_;refine VA (zMi h8 vb _ f.blocks (fun b=>zCP b (szL T F.length f)) sb8 (by omega) ?_) ?_
 ·intro b hb h9 e9 cs hcs;exact WV.func (zPt h9 h6 h3 p6 p5 b (szL T F.length f) cs (tt8.ext e9) hcs (o6.ext e9) (o5.ext e9))
 rintro _ h9 ⟨rfl,e9⟩;refine gr ?_;exact⟨by rw[Bs,QC (by rw[hbadF];exact Bool.noConfusion)];rfl,(e16.trans e8).trans e9⟩
end Go.Proofs.YtmilpkdhbdgjfaaGreatDoor
set_option maxRecDepth 100000
namespace Go.Proofs.YtmilpkdhbdgjfaaGreatDoor
open Go.Am
theorem yN{h h':WF}(e:WK h h')(hm:h.mark<=h.n):h'.mark<=h'.n:=by have:=e.mark;have:=e.n;omega
theorem zOQ(h h0:WF)(p vt vf:Value)(T:List WJ)(F:List Wj)(f:Wj)(cs:List Value)(tt:By h)(hm:h.mark<=h.n)(sm:BP T F)(hf:f∈F)(st:Bc h vt T)(sf:W7 h vf F)(hR:RFn h cs f)(o:WH h0 h p [vt,vf]):
  WC Tryz.prog tb 105 [.agg cs.toArray,p] h fun r h'=>r=.bool (!Bs T F.length f)/\WK h h':=by
 obtain⟨vb,rfl,sb,hl⟩:=hR;refine en ?_;refine VG ?_;intro p2 h1 e1 o1;have o:=o.ext e1;refine go ?_;refine VA (zQa h1 vt vf vb T F f (tt.ext e1) (yN e1 hm) (st.ext e1) (W7.ext sf e1) (BN.ext sb e1) sm.types sm.parts (by have:=sm.funcs;omega) (sm.blocks f hf) (sm.ins f hf)) ?_;rintro _ h2 ⟨rfl,e2⟩;refine gr ?_;exact⟨rfl,e1.trans e2⟩
theorem zKQ(h:WF)(vt vf:Value)(T:List WJ)(F:List Wj)(tt:By h)(hm:h.mark<=h.n)(sm:BP T F)(st:Bc h vt T)(sf:W7 h vf F):
  WC Tryz.prog tb 72 [.agg #[vt,vf]] h fun r h'=>r=I (yl T F)/\WK h h':=by
 refine en ?_;refine VG ?_;intro p h1 e1 o1;have st1:=st.ext e1;refine go ?_;refine VA (zMs h1 vt T st1 sm.types sm.parts) ?_;rintro _ h2 ⟨rfl,e2⟩;have e12:=e1.trans e2;have o1:=o1.ext e2;have st2:=st1.ext e2;have sf2:=W7.ext sf e12;have tt2:=tt.ext e12;have hF:=sm.funcs;refine go ?_;refine VD (fun hb=> ?_) (fun hb=> ?_)<;>simp only[DB]at hb<;>refine go ?_
 ·refine rt ?_;exact⟨by rw[yl,QG hb];rfl,e12⟩
 refine VA (yj h2 ((F.length:Int)-1) 8) ?_;rintro _ _ ⟨rfl,rfl⟩;refine go ?_;refine VH (fun hc=> ?_) (fun hc=> ?_)<;>simp only[DB]at hc<;>refine go ?_
 ·refine rt ?_;exact⟨by rw[yl,QC (by omega),hc];simp[one],e12⟩
 refine VA (zOa h2 vf _ F (fun f=> !Bs T F.length f) sf2 (by omega) ?_) ?_
 ·intro f hf h3 e3 cs hcs;exact WV.func (zOQ h3 h p vt vf T F f cs (tt2.ext e3) (yN (e12.trans e3) hm) sm hf (st2.ext e3) (W7.ext sf2 e3) hcs (o1.ext e3))
 rintro _ h3 ⟨rfl,e3⟩;refine go ?_;refine VD (fun hd=> ?_) (fun hd=> ?_)<;>refine go ?_<;>refine rt ?_<;>refine⟨?_,e12.trans e3⟩<;>rw[yl,QC (by omega),hc,hd]
 ·simp[one]
 ·simp[one]
theorem Z3{T:List WJ}{F:List Wj}(h:yl T F=0):Za T=0/\1<=F.length/\F.length<=8/\∀ f∈F,Bs T F.length f=true:=by
 unfold yl at h;split at h
 ·rename_i hc;exact absurd h hc
 ·rename_i hc;split at h
  ·cases h
  ·rename_i hd;simp only[GM,not_or,JG,Bool.not_eq_false']at hd;have h1:za ((F.length:Int)-1) 8=true:=by simpa using hd.1
   unfold za at h1;simp only[QJ,QY]at h1;refine⟨by omega,by omega,by omega,fun f hf=> ?_⟩;have:=Gy.1 hd.2 f hf;simpa using this
theorem zGV{T:List WJ}{n:Int}{f:Wj}(h:Bs T n f=true):0<=f.sig/\f.sig<(T.length:Int):=by
 unfold Bs at h;split at h
 ·cases h
 ·rename_i hb;unfold zB5 at hb;simp only[GM,not_or,JG,Bool.not_eq_false']at hb;have h1:za f.sig T.length=true:=by simpa using hb.1.1.1
  unfold za at h1;simpa using h1
theorem zHT(h:WF)(vt vf:Value)(T:List WJ)(F:List Wj)(f:Int)(tt:By h)(hm:h.mark<=h.n)(sm:BP T F)(st:Bc h vt T)(sf:W7 h vf F):
  WC Tryz.prog tb 81 [.agg #[vt,vf],I f] h fun r h'=>r=.tuple #[I (yY T F f).1,I (yY T F f).2]/\WK h h':=by
 refine en ?_;refine VG ?_;intro p h1 e1 o1;refine go ?_;refine VA (zKQ h1 vt vf T F (tt.ext e1) (yN e1 hm) sm (st.ext e1) (W7.ext sf e1)) ?_;rintro _ h2 ⟨rfl,e2⟩;have e12:=e1.trans e2;have o1:=o1.ext e2;have st2:=st.ext e12;have sf2:=W7.ext sf e12;have hF:=sm.funcs;refine go ?_;refine VD (fun hb=> ?_) (fun hb=> ?_)<;>simp only[DB]at hb<;>refine go ?_
 ·refine rt ?_;exact⟨by rw[yY,QG hb];rfl,e12⟩
 have hb:yl T F=0:=by omega
 refine VA (yj h2 f F.length) ?_;rintro _ _ ⟨rfl,rfl⟩;refine go ?_;refine VD (fun hc=> ?_) (fun hc=> ?_)<;>simp only[DB]at hc<;>refine go ?_
 ·refine rt ?_;exact⟨by rw[yY,QC (by omega),hc,QC (by exact Bool.noConfusion)];rfl,e12⟩
 have hf:0<=f/\f<(F.length:Int):=by unfold za at hc;simpa using hc
 obtain⟨csF,⟨vb,rfl,sb,hlb⟩,pcF,hsF⟩:=yo (i:=f.toNat) sf2 (by omega);have hsig:=zGV ((Z3 hb).2.2.2 _ (zL (l:=F) (i:=f.toNat) (by omega)));obtain⟨csT,⟨vp,rfl,sp,hsp⟩,pcT,hsT⟩:=Zy (i:=(F.getD f.toNat default).sig.toNat) st2 (by omega);refine gr ?_;exact⟨by rw[yY,QC (by omega),hc,QG rfl];rfl,e12⟩
theorem zFy(h:WF)(vt vf:Value)(T:List WJ)(F:List Wj)(f:Int)(tt:By h)(hm:h.mark<=h.n)(sm:BP T F)(st:Bc h vt T)(sf:W7 h vf F):
  WC Tryz.prog tb 75 [.agg #[vt,vf],I f] h fun r h'=>r=.tuple #[I (Ym T F f).1,I (Ym T F f).2]/\WK h h':=by
 refine en ?_;refine VG ?_;intro p h1 e1 o1;refine go ?_;refine VA (zHT h1 vt vf T F f (tt.ext e1) (yN e1 hm) sm (st.ext e1) (W7.ext sf e1)) ?_;rintro _ h2 ⟨rfl,e2⟩;have e12:=e1.trans e2;have o1:=o1.ext e2;have sf2:=W7.ext sf e12;have hF:=sm.funcs;refine go ?_;refine VD (fun hb=> ?_) (fun hb=> ?_)<;>simp only[DB]at hb<;>refine go ?_
 ·refine rt ?_;exact⟨by rw[Ym,QG hb];rfl,e12⟩
 have hb2:(yY T F f).2=0:=by omega
 have hin:0<=f/\f<(F.length:Int)/\yl T F=0:=by
  unfold yY at hb2;split at hb2
  ·rename_i hp;exact absurd hb2 hp
  ·rename_i hp;split at hb2
   ·rename_i hc;unfold za at hc;simp at hc;exact⟨hc.1,hc.2,by omega⟩
   ·cases hb2
 obtain⟨csF,⟨vb,rfl,sb,hlb⟩,pcF,hsF⟩:=yo (i:=f.toNat) sf2 (by omega);have hmem:=zL (l:=F) (i:=f.toNat) (by omega);refine go ?_;refine VA (zDh h2 _ vb _ sb (sm.blocks _ hmem) (sm.ins _ hmem)) ?_;rintro _ h3 ⟨rfl,e3⟩;have hfn:=(Z3 hin.2.2).2.2.2 _ hmem;have hbd:zz (F.getD f.toNat default).blocks<=128:=by
  unfold Bs at hfn;split at hfn
  ·cases hfn
  ·rename_i hbad;unfold zB5 at hbad;simp only[GM,not_or,JG,JD]at hbad;omega
 have hpos:=Zu (F.getD f.toNat default).blocks;have hn:0<=(yY T F f).1/\(yY T F f).1<=100:=by
  unfold yY;split
  ·simp
  ·split
   ·have hs:=zGV hfn;have:=sm.parts _ (zL (l:=T) (i:=(F.getD f.toNat default).sig.toNat) (by omega));simp only;omega
   ·simp
 refine gr ?_;exact⟨by rw[Ym,QC (by omega)];rfl,e12.trans e3⟩
end Go.Proofs.YtmilpkdhbdgjfaaGreatDoor
set_option maxRecDepth 100000
namespace Go.Proofs.YtmilpkdhbdgjfaaGreatDoor
open Go.Am
theorem zKb(h:WF)(vt:Value)(T:List WJ)(st:Bc h vt T)(hT:(T.length:Int)<=9223372036854775807):
  WC Tryz.prog tb 44 [vt] h fun r h'=>(r=.bool true\/r=.bool false/\T.length<=20/\∀ x∈T,x.parts.length<=20)/\h=h':=by
 refine en ?_;refine VE (fun i=>T.length-i) (fun i t h1=>h=h1/\zC t 3=I i/\i<=T.length/\∀ j,j<i->(T.getD j default).parts.length<=20) 0 ?_ ?_
 ·exact⟨rfl,WM,QU _,fun j hj=>absurd hj (Qw _)⟩
 rintro i t _ hsame ⟨rfl,s3,hi,hm⟩;have fin:(20<(T.length:Int))\/(i=T.length/\T.length<=20)\/i<T.length:=by omega
 refine go ?_;refine VH (fun hb=> ?_) (fun hb=> ?_)<;>simp only[DB]at hb<;>refine go ?_
 ·obtain⟨cs,⟨va,rfl,sa,hla⟩,pc,hs⟩:=Zy st (show i<T.length by omega);refine VD (fun hc=> ?_) (fun hc=> ?_)<;>simp only[DB]at hc
  ·refine go ?_;refine VD (fun hd=> ?_) (fun hd=> ?_)<;>simp only[DB]at hd
   ·refine gr ?_;exact⟨.inl rfl,rfl⟩
   ·refine go ?_;refine zA (i+1) (by omega) ⟨rfl,BF,by omega,fun j hj=> ?_⟩;by_cases e:j=i
    ·subst e;omega
    ·exact hm j (by omega)
  ·refine gr ?_;refine⟨.inl ?_,rfl⟩;rw[QX (show(20:Int)<T.length by omega)];rfl
 ·refine rt ?_;refine⟨?_,rfl⟩;by_cases hg:20<(T.length:Int)
  ·left;rw[QX hg];rfl
  ·right;refine⟨by rw[QW hg];rfl,by omega,fun x hx=> ?_⟩;obtain⟨j,hj,rfl⟩:=Zs hx;exact hm j (by omega)
def zPe(F:List Wj):Prop:=∀ f∈F,∀ b∈f.blocks,∀ x∈b.ins,x.args.length<=20/\x.frm.length<=20
theorem zMA{T:List WJ}{F:List Wj}(h1:T.length<=20)(h2:∀ x∈T,x.parts.length<=20)(h3:F.length<=10)(h4:∀ f∈F,f.blocks.length<=20/\∀ b∈f.blocks,b.ins.length<=1000):BP T F:=
 ⟨by omega,fun x hx=>by have:=h2 x hx;omega,by omega,fun f hf=>by have:=(h4 f hf).1;omega,fun f hf=>(h4 f hf).2⟩
theorem zKu(h:WF)(vt vf:Value)(T:List WJ)(F:List Wj)(most:Int)(hmost:0<=most/\most<=1000)(st:Bc h vt T)(sf:W7 h vf F)(hT:(T.length:Int)<=9223372036854775807)(hF:(F.length:Int)<=9223372036854775807):
  WC Tryz.prog tb 18 [.agg #[vt,vf],I most] h fun r h'=>(r=.bool true\/r=.bool false/\BP T F/\zPe F)/\WK h h':=by
 refine en ?_;refine VG ?_;intro p h1 e1 o1;have st1:=st.ext e1;have sf1:=W7.ext sf e1;refine go ?_;refine VA (zKb h1 vt T st1 hT) ?_;rintro r _ ⟨hr,rfl⟩;refine go ?_;rcases hr with rfl|⟨rfl,hT2,hp2⟩
 ·refine gr ?_;exact⟨.inl rfl,e1⟩
 refine go ?_;refine VD (fun hb=> ?_) (fun hb=> ?_)<;>simp only[DB]at hb<;>refine go ?_
 ·refine rt ?_;exact⟨.inl rfl,e1⟩
 refine VE (fun i=>F.length-i) (fun i t h2=>h1=h2/\zC t 6=I i/\i<=F.length/\(∃ n,zC t 5=I n/\0<=n/\n<=most)/\∀ j,j<i->(F.getD j default).blocks.length<=20/\∀ b∈(F.getD j default).blocks,b.ins.length<=1000/\∀ x∈b.ins,x.args.length<=20/\x.frm.length<=20) 0 ?_ ?_
 ·exact⟨rfl,WM,QU _,⟨0,WM,by omega,by omega⟩,fun j hj=>absurd hj (Qw _)⟩
 rintro i t _ hsame ⟨rfl,s6,hi,⟨n,s5,hn0,hn⟩,hm⟩;refine go ?_;refine VD (fun hc=> ?_) (fun hc=> ?_)<;>simp only[DB]at hc
 ·have hi':i<F.length:=by omega
  obtain⟨csF,⟨vb,rfl,sb,hlb⟩,pcF,hsF⟩:=yo sf1 hi';refine go ?_;refine VD (fun hd=> ?_) (fun hd=> ?_)<;>simp only[DB]at hd<;>refine go ?_
  ·refine rt ?_;exact⟨.inl rfl,e1⟩
  refine VE (fun k=>(F.getD i default).blocks.length-k) (fun k t h2=>h1=h2/\zC t 7=I k/\k<=(F.getD i default).blocks.length/\(∃ n,zC t 5=I n/\0<=n/\n<=most)/\∀ j,j<k->((F.getD i default).blocks.getD j default).ins.length<=1000/\∀ x∈((F.getD i default).blocks.getD j default).ins,x.args.length<=20/\x.frm.length<=20) 0 ?_ ?_
  ·exact⟨rfl,WM,QU _,⟨n,WM,hn0,hn⟩,fun j hj=>absurd hj (Qw _)⟩
  rintro k t2 _ hsame2 ⟨rfl,s7,hk,⟨n2,s5b,hn20,hn2⟩,hm2⟩;refine go ?_;refine VD (fun he=> ?_) (fun he=> ?_)<;>simp only[DB]at he
  ·have hk':k<(F.getD i default).blocks.length:=by omega
   obtain⟨csB,⟨vi,rfl,si,hli⟩,pcB,hsB⟩:=yo sb hk';refine go ?_;refine VD (fun hf=> ?_) (fun hf=> ?_)<;>simp only[DB]at hf<;>refine go ?_
   ·refine rt ?_;exact⟨.inl rfl,e1⟩
   refine VE (fun j=>((F.getD i default).blocks.getD k default).ins.length-j) (fun j t h2=>h1=h2/\zC t 9=I j/\j<=((F.getD i default).blocks.getD k default).ins.length/\∀ q,q<j->(((F.getD i default).blocks.getD k default).ins.getD q default).args.length<=20/\(((F.getD i default).blocks.getD k default).ins.getD q default).frm.length<=20) 0 ?_ ?_
   ·exact⟨rfl,WM,QU _,fun q hq=>absurd hq (Qw _)⟩
   rintro j t3 _ hsame3 ⟨rfl,s9,hj,hq9⟩;refine go ?_;refine VD (fun hg=> ?_) (fun hg=> ?_)<;>simp only[DB]at hg
   ·have hj':j<((F.getD i default).blocks.getD k default).ins.length:=by omega
    obtain⟨csI,⟨va,vfr,rfl,sa,sfr,hla,hlf,ho⟩,pcI,hsI⟩:=yo si hj';refine go ?_;refine VH (fun hh=> ?_) (fun hh=> ?_)<;>simp only[DB]at hh<;>refine go ?_
    ·refine rt ?_;exact⟨.inl rfl,e1⟩
    refine VD (fun hh2=> ?_) (fun hh2=> ?_)<;>simp only[DB]at hh2<;>refine go ?_
    ·refine rt ?_;exact⟨.inl rfl,e1⟩
    ·refine zA (j+1) (by omega) ⟨rfl,BF,by omega,fun q hq=> ?_⟩;by_cases e:q=j
     ·subst e;omega
     ·exact hq9 q (by omega)
   ·refine go ?_;refine zA (k+1) (by omega) ⟨rfl,BF,by omega,⟨n2+(((F.getD i default).blocks.getD k default).ins.length:Int),WM,by omega,by omega⟩,fun q hq=> ?_⟩;by_cases e:q=k
    ·subst e;refine⟨by omega,fun x hx=> ?_⟩;obtain⟨y,hy,rfl⟩:=Zs hx;exact hq9 y (by omega)
    ·exact hm2 q (by omega)
  ·refine go ?_;refine zA (i+1) (by omega) ⟨rfl,BF,by omega,⟨n2,WM,hn20,hn2⟩,fun q hq=> ?_⟩;by_cases e:q=i
   ·subst e;refine⟨by omega,fun b hb=> ?_⟩;obtain⟨y,hy,rfl⟩:=Zs hb;exact hm2 y (by omega)
   ·exact hm q (by omega)
 ·refine gr ?_;have hall:∀ f∈F,f.blocks.length<=20/\∀ b∈f.blocks,b.ins.length<=1000/\∀ x∈b.ins,x.args.length<=20/\x.frm.length<=20:=fun f hf=>by
   obtain⟨y,hy,rfl⟩:=Zs hf;exact hm y (by omega)
  exact⟨.inr ⟨rfl,zMA hT2 hp2 (by omega) fun f hf=>⟨(hall f hf).1,fun b hb=>((hall f hf).2 b hb).1⟩,fun f hf b hb=>((hall f hf).2 b hb).2⟩,e1⟩
end Go.Proofs.YtmilpkdhbdgjfaaGreatDoor
set_option maxRecDepth 100000
namespace Go.Proofs.YtmilpkdhbdgjfaaGreatDoor
open Go.Am
def YS(x:B2):List Int:=if x.kind=1 then[x.to]else if x.kind=2 then(if x.to=x.els then[x.to]else[x.to,x.els])else[]
def Bx(h:WF)(v:Value):Prop:=∀ a n c,v=.slice (some a) n c->h.n<=a.block
theorem Bx.since{h h':WF}{v:Value}(f:Bx h' v)(n:h.n<=h'.n):Bx h v:=fun a k c e=>QN n (f a k c e)
theorem zE3{h0 h:WF}{v:Value}{l:List Int}(o:Wn h0 h v l):Bx h0 v:=by
 obtain⟨g,a,_,rfl,_⟩:=o;intro a n c e;cases e;assumption
theorem zI2(h0 h:WF)(v:Value)(a b:Int)(e0:WK h0 h)(o:Wn h0 h v [a,b]):
  WC Tryz.prog tb 210 [v] h fun r h'=>Wd h' r (if a=b then[a]else[a,b])/\Bx h0 r/\WK h0 h':=by
 have s:Wd h v [a,b]:=o.sl;have fr:=zE3 o;refine en ?_;refine VD (fun hb=> ?_) (fun hb=> ?_)<;>simp only[DB]at hb
 ·exact absurd hb (by simp)
 refine go ?_;refine VE (fun i=>2-i) (fun i t h1=>h=h1/\zC t 3=I i/\(i=1\/i=2/\a≠b)) 1 ?_ ?_
 ·exact⟨rfl,WM,.inl rfl⟩
 rintro i t _ hsame ⟨rfl,s3,hi⟩;have hlen:([a,b]:List Int).length=2:=rfl;refine go ?_;refine VD (fun hc=> ?_) (fun hc=> ?_)<;>simp only[DB]at hc
 ·have hi1:i=1:=by rw[hlen]at hc;omega
  subst hi1;refine go ?_;refine VD (fun hd=> ?_) (fun hd=> ?_)<;>simp only[DB]at hd
  ·have hab:a=b:=by simpa [List.getD]using hd.symm
   subst hab;obtain⟨g,g1,g2,rfl,g3⟩:=o;refine go ?_;refine Vi (i:=1) (v:= .slice (some ⟨g,0,none⟩) [a,a].length 1) (r:= .slice (some ⟨g,1,none⟩) 1 1) (by rfl) ?_;have s4:Wd h (.slice (some ⟨g,1,none⟩) 1 1) [a]:=⟨rfl,.inr ⟨g,1,_,rfl,ZO g3,by rfl,g2⟩⟩;refine go ?_;refine VE (fun i=>1) (fun(i:Unit) t h1=>h=h1/\zC t 5=I 1/\zC t 3=I ((1:Nat):Int)) () ?_ ?_
   ·exact⟨rfl,WM,WM⟩
   rintro _ t2 _ hsame2 ⟨rfl,s5,s3b⟩;have hlen1:([a]:List Int).length=1:=rfl;refine go ?_;refine Vi (i:=1) (v:= .slice (some ⟨g,0,none⟩) [a,a].length 1) (r:= .slice (some ⟨g,1,none⟩) 1 1) (by rfl) ?_;have hcl:zBK 1 [I 0] (.slice (some ⟨g,1,none⟩) 1 1) h=some (.tuple #[],h.set g (.row [I a,I 0] true 0)):=by
    show((ze h ⟨g,1,none⟩ [I 0]).map (Value.tuple #[],·))=_;have:ze h ⟨g,1,none⟩ [I 0]=some (h.set g (.row [I a,I 0] true 0)):=by
     unfold ze;rw[g3];rfl
    rw[this];rfl
   refine Us hcl ?_;have e1:WK h0 (h.set g (.row [I a,I 0] true 0)):=e0.set g1 g2 _;refine go ?_;refine Vh (i:=1) (v:= .slice (some ⟨g,0,none⟩) [a,a].length 1) (r:= .slice (some ⟨g,0,none⟩) 1 1) (by rfl) ?_;refine gr ?_;refine⟨?_,(fun a k c e=>by cases e;exact g1),e1⟩;rw[QG rfl];exact⟨rfl,.inr ⟨g,0,[I a,I 0],rfl,by unfold zv;rw[zT,QG rfl],by rfl,g2⟩⟩
  ·have hab:a≠b:=fun e=>hd (by simp[List.getD,e]);refine go ?_;exact zA 2 (by omega) ⟨rfl,WM,.inr ⟨rfl,hab⟩⟩
 ·refine gr ?_
  have:a≠b:=by rcases hi with rfl|⟨_,h⟩;. exact absurd hc (by simp)
               ·exact h
  exact⟨by rw[QC this];exact s,fr,e0⟩
theorem zJq(h:WF)(x:B2):
  WC Tryz.prog tb 179 [.agg #[.int .u8 x.kind,I x.a,I x.to,I x.els]] h fun r h'=>Wd h' r (YS x)/\Bx h r/\WK h h':=by
 refine en ?_;refine VG ?_;intro p h1 e1 o1;refine go ?_;refine VD (fun hb=> ?_) (fun hb=> ?_)<;>simp only[DB]at hb<;>refine go ?_
 ·refine WO.bl [x.to] ?_;intro v h2 e2 o2;refine gr ?_;refine⟨?_,(zE3 o2).since e1.n,e1.trans e2⟩;rw[YS,QG hb];exact o2.sl
 refine VD (fun hc=> ?_) (fun hc=> ?_)<;>simp only[DB]at hc<;>refine go ?_
 ·refine WO.bl [x.to,x.els] ?_;intro v h2 e2 o2;refine go ?_;refine VA (zI2 h1 h2 v x.to x.els e2 o2) ?_;rintro r h3 ⟨s3,f3,e3⟩;refine gr ?_;refine⟨?_,f3.since e1.n,e1.trans e3⟩;rw[YS,QC hb,QG hc];exact s3
 ·refine rt ?_;refine⟨?_,(fun a k c e=>by cases e),e1⟩;rw[YS,QC hb,QC hc];exact Wd.nil _
def zF(T:List WJ)(F:List Wj)(f b:Int):List Wl×Int:=
 if(Ym T F f).2≠0 then([],(Ym T F f).2)else if b<0\/((F.getD f.toNat default).blocks.length:Int)<=b then([],2)else((F.getD f.toNat default).blocks,0)
theorem zBE{T:List WJ}{F:List Wj}{f:Int}(h:(Ym T F f).2=0):0<=f/\f<(F.length:Int)/\yl T F=0:=by
 have hb2:(yY T F f).2=0:=by
  unfold Ym at h;split at h
  ·rename_i hn;exact absurd h hn
  ·rename_i hn;omega
 unfold yY at hb2;split at hb2
 ·rename_i hp;exact absurd hb2 hp
 ·rename_i hp;split at hb2
  ·rename_i hc;unfold za at hc;simp at hc;exact⟨hc.1,hc.2,by omega⟩
  ·cases hb2
theorem zCi(h:WF)(vt vf:Value)(T:List WJ)(F:List Wj)(f b:Int)(tt:By h)(hm:h.mark<=h.n)(sm:BP T F)(st:Bc h vt T)(sf:W7 h vf F):
  WC Tryz.prog tb 135 [.agg #[vt,vf],I f,I b] h fun r h'=>(∃ v,r=.tuple #[v,I (zF T F f b).2]/\BN h' v (zF T F f b).1)/\WK h h':=by
 refine en ?_;refine VG ?_;intro p h1 e1 o1;refine go ?_;refine VA (zFy h1 vt vf T F f (tt.ext e1) (yN e1 hm) sm (st.ext e1) (W7.ext sf e1)) ?_;rintro _ h2 ⟨rfl,e2⟩;have e12:=e1.trans e2;have o1:=o1.ext e2;have sf2:=W7.ext sf e12;have hF:=sm.funcs;refine go ?_;refine VD (fun hb=> ?_) (fun hb=> ?_)<;>simp only[DB]at hb<;>refine go ?_
 ·refine rt ?_;rw[show zF T F f b=([],(Ym T F f).2)from by rw[zF,QG hb]];exact⟨⟨_,rfl,Ww.nil⟩,e12⟩
 have hb0:(Ym T F f).2=0:=by omega
 have hin:=zBE hb0;obtain⟨csF,⟨vb,rfl,sb,hlb⟩,pcF,hsF⟩:=yo (i:=f.toNat) sf2 (by omega);refine VH (fun hc=> ?_) (fun hc=> ?_)<;>simp only[DB]at hc<;>refine go ?_
 ·refine rt ?_;rw[show zF T F f b=([],2)from by rw[zF,QC (by omega),QG (.inl hc)]];exact⟨⟨_,rfl,Ww.nil⟩,e12⟩
 refine VD (fun hd=> ?_) (fun hd=> ?_)<;>simp only[DB]at hd<;>refine go ?_<;>refine rt ?_
 ·rw[show zF T F f b=([],2)from by rw[zF,QC (by omega),QG (.inr hd)]];exact⟨⟨_,rfl,Ww.nil⟩,e12⟩
 ·rw[show zF T F f b=((F.getD f.toNat default).blocks,0)from by rw[zF,QC (by omega),QC (by omega)]];exact⟨⟨_,rfl,sb⟩,e12⟩
theorem ZQ{T:List WJ}{F:List Wj}{f b:Int}(h:(zF T F f b).2=0):0<=b/\b<((zF T F f b).1.length:Int)/\(zF T F f b).1=(F.getD f.toNat default).blocks/\(Ym T F f).2=0:=by
 unfold zF at h |-;split at h
 ·rename_i hn;exact absurd h hn
 ·rename_i hn;rw[QC hn];split at h
  ·cases h
  ·rename_i hb;rw[QC hb];exact⟨by omega,by simp only;omega,rfl,by omega⟩
end Go.Proofs.YtmilpkdhbdgjfaaGreatDoor
set_option maxRecDepth 100000
namespace Go.Proofs.YtmilpkdhbdgjfaaGreatDoor
open Go.Am
theorem zPv{l:List Int}{n:Int}{i:Nat}(h:i<l.length)(e:l.getD i 0=n):n∈l:=e▸yZ h
theorem zIq{l:List Int}{n:Int}(h:∀ i,i<l.length->l.getD i 0≠n):n∉l:=fun hn=>by
 obtain⟨i,hi,e⟩:=zAt hn;exact h i hi e
theorem zL3(h:WF)(v:Value)(l:List Int)(n:Int)(s:Wd h v l)(hl:(l.length:Int)<=9223372036854775807):
  WC Tryz.prog tb 40 [v,I n] h fun r h'=>(∃ k:Int,r=I k/\decide (0<=k)=decide (n∈l))/\h=h':=by
 refine en ?_;refine VE (fun i=>l.length-i) (fun i t h1=>h=h1/\zC t 8=I i/\i<=l.length/\∀ j,j<i->l.getD j 0≠n) 0 ?_ ?_
 ·exact⟨rfl,WM,QU _,fun j hj=>absurd hj (Qw _)⟩
 rintro i t _ hsame ⟨rfl,s8,hi,hm⟩;refine go ?_;refine VD (fun hb=> ?_) (fun hb=> ?_)<;>simp only[DB]at hb
 ·have hi':i<l.length:=by omega
  refine go ?_;refine VD (fun hc=> ?_) (fun hc=> ?_)<;>simp only[DB]at hc<;>refine go ?_
  ·refine rt ?_;exact⟨⟨i,rfl,by rw[QX (zPv hi' hc.symm)];simp⟩,rfl⟩
  ·refine zA (i+1) (by omega) ⟨rfl,BF,by omega,fun j hj=> ?_⟩;by_cases e:j=i
   ·subst e;exact fun h=>hc h.symm
   ·exact hm j (by omega)
 ·refine gr ?_;exact⟨⟨-1,rfl,by rw[QW (zIq fun j hj=>hm j (by omega))];rfl⟩,rfl⟩
theorem Y5(h:WF)(v:Value)(l:List Int)(n:Int)(s:Wd h v l)(hl:(l.length:Int)<=9223372036854775807):
  WC Tryz.prog tb 144 [v,I n] h fun r h'=>r=.bool (decide (n∈l))/\h=h':=by
 refine en ?_;refine VA (zL3 h v l n s hl) ?_;rintro _ _ ⟨⟨k,rfl,e⟩,rfl⟩;refine gr ?_;exact⟨by rw[<-e];rfl,rfl⟩
abbrev DS:=List (Int×Int)×List Int
def ZE(nx:Int->List Int):Nat->Int->DS->DS
 |0,_,s=>s
 |n+1,b,s=>if(s.1.lookup b).isSome then s else
  (((nx b).foldl (fun(t:DS) (c:Int)=>ZE nx n c t) (s.1++[(b,(s.1.length:Int))],s.2)).1,((nx b).foldl (fun(t:DS) (c:Int)=>ZE nx n c t) (s.1++[(b,(s.1.length:Int))],s.2)).2++[b])
def Zq(nx:Int->List Int)(n:Nat)(l:List Int)(s:DS):DS:=l.foldl (fun s c=>ZE nx n c s) s
def BZ(N:Nat)(es:List (Int×Int)):Nat:=((List.range N).filter fun(i:Nat)=>(es.lookup ((i:Nat):Int)).isNone).length
theorem zAZ{es:List (Int×Int)}{b v c:Int}:(es++[(b,v)]).lookup c=match es.lookup c with|some w=>some w|none=>if c=b then some v else none:=by
 induction es with
 |nil=>
  simp only[GF,List.lookup_cons,List.lookup_nil];by_cases h:c=b
  ·subst h;simp
  ·have:(c == b)=false:=by simpa using h
   rw[this,QC h]
 |cons e es ih=>
  obtain⟨k,w⟩:=e;simp only[List.cons_append,List.lookup_cons];cases hk:(c == k)with
  |true=>rfl
  |false=>simp only;exact ih
theorem zHr{es:List (Int×Int)}{b v c:Int}(h:(es.lookup c).isSome):((es++[(b,v)]).lookup c).isSome:=by
 rw[zAZ];cases hc:es.lookup c with
 |none=>rw[hc]at h;cases h
 |some w=>rfl
theorem zMK{nx:Int->List Int}:∀ (n:Nat) (b:Int) (s:DS) (c:Int),(s.1.lookup c).isSome->((ZE nx n b s).1.lookup c).isSome:=by
 intro n;induction n with
 |zero=>intro b s c h;exact h
 |succ n ih=>
  intro b s c h;unfold ZE;split
  ·exact h
  ·simp only;have:∀ (l:List Int) (s:DS),(s.1.lookup c).isSome->((l.foldl (fun s c=>ZE nx n c s) s).1.lookup c).isSome:=by
    intro l;induction l with
    |nil=>intro s h;exact h
    |cons x l ihl=>intro s h;exact ihl _ (ih x s c h)
   exact this _ _ (zHr h)
theorem zFQ{nx:Int->List Int}{n:Nat}{c:Int}:∀ (l:List Int) (s:DS),(s.1.lookup c).isSome->((Zq nx n l s).1.lookup c).isSome
 |[],s,h=>h
 |x::l,s,h=>zFQ l _ (zMK n x s c h)
theorem zLY{N:Nat}{p q:Nat->Bool}(h:∀ i,i<N->q i=true->p i=true):((List.range N).filter q).length<=((List.range N).filter p).length:=by
 rw[<-List.countP_eq_length_filter,<-List.countP_eq_length_filter];exact List.countP_mono_left fun i hi hq=>h i (GT.1 hi) hq
theorem zCK{N:Nat}{es es':List (Int×Int)}(h:∀ c,(es.lookup c).isSome->(es'.lookup c).isSome):BZ N es'<=BZ N es:=by
 unfold BZ;apply zLY;intro i _ hi;cases hc:es.lookup (i:Int)with
 |none=>rfl
 |some w=>
  have:=h i (by rw[hc];rfl);rw[Option.isNone_iff_eq_none]at hi;rw[hi]at this;cases this
theorem zEY{p q:Nat->Bool}{i:Nat}(hp:p i=true)(hq:q i=false):∀ {l:List Nat},(∀ j∈l,q j=true->p j=true)->i∈l->l.countP q<l.countP p
 |[],_,h=>by cases h
 |x::l,hl,h=>by
  have hle:l.countP q<=l.countP p:=List.countP_mono_left fun j hj hqj=>hl j (by simp[hj]) hqj;by_cases e:x=i
  ·subst e;simp only[List.countP_cons,hp,hq,Q9];simp;omega
  ·have him:i∈l:=by
    rcases GI.1 h with h|h
    ·exact absurd h.symm e
    ·exact h
   have:=zEY hp hq (l:=l) (fun j hj=>hl j (by simp[hj])) him;simp only[List.countP_cons];cases hqx:q x with
   |false=>simp;omega
   |true=>rw[hl x (by simp) hqx];simp;omega
theorem zES{N:Nat}{es:List (Int×Int)}{b v:Int}(h:es.lookup b=none)(hb:0<=b/\b<(N:Int)):BZ N (es++[(b,v)])<BZ N es:=by
 unfold BZ;rw[<-List.countP_eq_length_filter,<-List.countP_eq_length_filter];obtain⟨i,rfl⟩:∃ i:Nat,b=i:=⟨b.toNat,by omega⟩;refine zEY (i:=i) (by simp[h]) (by simp[zAZ,h]) (fun j _ hj=> ?_) (GT.2 (by omega));rw[zAZ]at hj;cases hc:es.lookup (j:Int)with
 |none=>rfl
 |some w=>rw[hc]at hj;cases hj
theorem zHu{N:Nat}{es:List (Int×Int)}(h:BZ N es=0){b:Int}(hb:0<=b/\b<(N:Int)):(es.lookup b).isSome:=by
 cases hc:es.lookup b with
 |some w=>rfl
 |none=>have:=zES (v:=0) hc hb;omega
theorem zCj{nx:Int->List Int}{N:Nat}(hin:∀ b,0<=b/\b<(N:Int)->∀ c∈nx b,0<=c/\c<(N:Int)):∀ (n:Nat) (b:Int) (s:DS),0<=b/\b<(N:Int)->(ZE nx n b s).2.length+BZ N (ZE nx n b s).1<=s.2.length+BZ N s.1:=by
 intro n;induction n with
 |zero=>intro b s _;exact QE _
 |succ n ih=>
  intro b s hb;unfold ZE;split
  ·exact QE _
  ·rename_i hns;have hnone:s.1.lookup b=none:=by
    cases hc:s.1.lookup b with
    |none=>rfl
    |some w=>rw[hc]at hns;exact absurd rfl hns
   have:∀ (l:List Int) (s:DS),(∀ c∈l,0<=c/\c<(N:Int))->(l.foldl (fun s c=>ZE nx n c s) s).2.length+BZ N (l.foldl (fun s c=>ZE nx n c s) s).1<=s.2.length+BZ N s.1:=by
    intro l;induction l with
    |nil=>intro s _;exact QE _
    |cons x l ihl=>intro s hl;exact QN (ihl _ fun c hc=>hl c (by simp[hc])) (ih x s (hl x (by simp)))
   have h1:=this (nx b) (s.1++[(b,(s.1.length:Int))],s.2) (hin b hb);have h2:=zES (v:=(s.1.length:Int)) hnone hb;simp only[QT,QZ]at *;omega
end Go.Proofs.YtmilpkdhbdgjfaaGreatDoor
set_option maxRecDepth 100000
namespace Go.Am
section
variable {P:Program}{tab:Wv}{t:WI Value}{h h0:WF}{ds:List Deferred}{rd:Option Nat}{l:List WG}{Q:WR->WF->Prop}{d:Nat}
theorem Vm{x y:Operand}{v w:Value}{xs ys:List Int}(hx:ev t x=v)(hy:ev t y=w)(o:Wb h0 h v xs)(s:Wd h w ys)(e0:WK h0 h)(hne:ys≠[])(hr:xs.length+ys.length<=4294967296)
  (k:∀ h',WK h0 h'->Wn h0 h' (.slice (some ⟨h.n,0,none⟩) (xs++ys).length 1) (xs++ys)->Bh v h h'->WO P tab l ⟨t.set d (.slice (some ⟨h.n,0,none⟩) (xs++ys).length 1),ds,rd⟩ h' Q):WO P tab (⟨some d,none,.append 1 x y⟩::l) ⟨t,ds,rd⟩ h Q:=by
 have hsrc:=ZI s;have hroom:room=4294967296:=rfl;obtain⟨z,zs,rfl⟩:∃ z zs,ys=z::zs:=by
  cases ys with
  |nil=>exact absurd rfl hne
  |cons z zs=>exact⟨z,zs,rfl⟩
 have hone:zH (I z::zs.map I)=true:=zB9 (z::zs);have hlen:(I z::zs.map I).length / 1=(z::zs).length:=by simp
 rcases o with⟨rfl,rfl⟩|⟨g,g1,g2,rfl,g3⟩
 ·have h1:Nat.ble (z::zs).length room=true:=QF (by rw[hroom];simpa using hr);refine WO.op (.slice (some ⟨h.n,0,none⟩) (z::zs).length 1) (h.push (.row ((z::zs).map I) true 0)) rfl ?_ (k _ (e0.push _) ⟨h.n,e0.n,by simp[WF.push],rfl,zZ _ _⟩ ⟨GO _,fun k hk _=> ?_⟩)
  ·simp only[WN,hx,hy,z8,hsrc,Q6,hone,hlen,h1,QS,cond_true,QR];rfl
  ·rw[zY,QC (by omega)]
 ·have h1:Nat.ble (xs.length+(z::zs).length) room=true:=QF (by rw[hroom];exact hr);have h2:cut (xs.map I) 0 (xs.length*1)=some (xs.map I):=by rw[yt (by simp)];simp[Qo]
  have hn:(h.kill g).n=h.n:=rfl;have h3:Nat.ble 0 (0+xs.length*1)=true:=QF (QU _);have hl:xs.length+(z::zs).length=(xs++z::zs).length:=(QT ..).symm;refine WO.op (.slice (some ⟨h.n,0,none⟩) (xs++z::zs).length 1) ((h.kill g).push (.row (xs.map I++(z::zs).map I) true (0-0))) rfl ?_
   (k _ ((e0.kill g1).push _) ⟨h.n,e0.n,by simp[WF.push,WF.kill],rfl,?_⟩ ⟨GO _,fun k hk hv=> ?_⟩)
  ·rw[<-hl];simp only[WN,hx,hy,z8,hsrc,Q6,hone,hlen,h1,g3,h2,h3,QS,cond_true,QR];rfl
  ·have:=zZ (h.kill g) (.row (xs.map I++(z::zs).map I) true (0-0));rw[hn]at this;rw[this];simp
  ·rw[zY,QC (by rw[hn];omega),yh,QC (fun e=>hv _ _ _ rfl e.symm)]
end
end Go.Am
namespace Go.Proofs.YtmilpkdhbdgjfaaGreatDoor
open Go.Am
def zPh(p vm vd:Value)(g:Nat):Prop:=p≠ .pointer (some ⟨g,0,none⟩)/\vm≠ .map (some g)/\∀ a n c,vd=.slice (some a) n c->a.block≠g
structure WS(hB h:WF)(p vl vm vd:Value)(s:DS):Prop where
 own:WH hB h p [vl,vm,vd]
 map:BJ hB h vm s.1
 dn:Wb hB h vd s.2
 ext:WK hB h
def BE(h h':WF)(p vm vd vd':Value):Prop:=h.n<=h'.n/\∀ g,g<h.n->zPh p vm vd g->h'.get g=h.get g/\zPh p vm vd' g
theorem BE.refl(h:WF)(p vm vd:Value):BE h h p vm vd vd:=⟨QE _,fun _ _ n=>⟨rfl,n⟩⟩
theorem BE.trans{h h1 h2:WF}{p vm vd vd1 vd2:Value}(a:BE h h1 p vm vd vd1)(b:BE h1 h2 p vm vd1 vd2):BE h h2 p vm vd vd2:=
 ⟨QN a.1 b.1,fun g hg nw=>let⟨x,y⟩:=a.2 g hg nw;let⟨u,v⟩:=b.2 g (QK hg a.1) y;⟨u.trans x,v⟩⟩
theorem BE.ext{h h':WF}(e:WK h h')(p vm vd:Value):BE h h' p vm vd vd:=⟨e.n,fun g hg n=>⟨e.get g hg,n⟩⟩
def Off(h:WF)(p vm vd v:Value)(l:List Int):Prop:=l=[]\/∃ g off,v=.slice (some ⟨g,off,none⟩) l.length 1/\g<h.n/\zPh p vm vd g
theorem zM7{h h':WF}{v:Value}(s:Wd h v []):Wd h' v []:=by
 refine⟨rfl,.inl ⟨rfl,?_⟩⟩;rcases s.2 with⟨_,hv⟩|⟨g,off,row,hv,_⟩
 ·exact hv
 ·exact .inr ⟨_,_,hv⟩
theorem BE.sl{h h':WF}{p vm vd vd' v:Value}{l:List Int}(k:BE h h' p vm vd vd')(s:Wd h v l)(o:Off h p vm vd v l):Wd h' v l/\Off h' p vm vd' v l:=by
 rcases o with rfl|⟨g,off,rfl,hg,nw⟩
 ·exact⟨zM7 s,.inl rfl⟩
 ·obtain⟨e1,e2⟩:=k.2 g hg nw;refine⟨⟨s.1,?_⟩,.inr ⟨g,off,rfl,QK hg k.1,e2⟩⟩;rcases s.2 with⟨h0,hv⟩|⟨g',off',row,hv,hr,hc,hl⟩
  ·exact .inl ⟨h0,hv⟩
  ·cases hv;exact .inr ⟨g,off,row,rfl,by unfold zv at *;rw[e1];exact hr,hc,QK hg k.1⟩
theorem zKv{hB h h2:WF}{p vl vm vd v:Value}{s:DS}{l:List Int}(w:WS hB h p vl vm vd s)(f:Bx h v)(sl:Wd h2 v l):Off h2 p vm vd v l:=by
 rcases sl.2 with⟨h0,hv⟩|⟨g,off,row,hv,hr,hc,hl⟩
 ·exact .inl (GS.1 h0)
 ·refine .inr ⟨g,off,hv,hl,?_⟩;have hg:h.n<=g:=f _ _ _ hv;obtain⟨g1,_,a1,rfl,_⟩:=w.own;obtain⟨g2,_,_,_,a2,rfl,_⟩:=w.map;refine⟨fun e=>by cases e;omega,fun e=>by cases e;omega,fun a n c e he=> ?_⟩;rcases w.dn with⟨rfl,_⟩|⟨g3,_,a3,rfl,_⟩
  ·cases e
  ·cases e;simp only at he;omega
theorem zGD{h0 h1 h:WF}{p v:Value}{a:Option Addr}{n k:Nat}{cs:List Value}{xs:List Int}(o:WH h0 h p (.slice a n k::cs))(i:Wb h1 h v xs):∀ b m c,v=.slice (some b) m c->p≠ .pointer (some ⟨b.block,0,none⟩):=by
 intro b m c hv hp;obtain⟨g,_,_,rfl,hg⟩:=o;rcases i with⟨rfl,_⟩|⟨g2,_,_,rfl,hg2⟩
 ·cases hv
 ·cases hv;cases hp;rw[hg]at hg2;cases xs with
  |nil=>cases hg2
  |cons x xs=>cases hg2
theorem WH.upd{h0 h h':WF}{p v:Value}{a:Option Addr}{n k:Nat}{cs:List Value}{xs:List Int}(o:WH h0 h p (.slice a n k::cs))(i:Wb h0 h v xs)(u:Bh v h h'):WH h0 h' p (.slice a n k::cs):=by
 have hne:=zGD o i;obtain⟨g,g1,g2,rfl,hg⟩:=o;exact⟨g,g1,QK g2 u.1,rfl,(u.2 g g2 fun b m c hv e=>hne b m c hv (by rw[e])).trans hg⟩
theorem WH.updM{h0 h h':WF}{p m:Value}{cs:List Value}{es:List (Int×Int)}(o:WH h0 h p cs)(i:BJ h0 h m es)(u:zMo m h h'):WH h0 h' p cs:=by
 obtain⟨g,g1,g2,rfl,hg⟩:=o;refine⟨g,g1,QK g2 u.1,rfl,(u.2 g g2 fun e=> ?_).trans hg⟩;obtain⟨g3,_,_,_,_,rfl,h3,_⟩:=i;cases e;rw[hg]at h3;cases h3
theorem BJ.updC{h0 h h':WF}{p m:Value}{cs:List Value}{es:List (Int×Int)}(i:BJ h0 h m es)(o:WH h0 h p cs)(u:Ws p h h'):BJ h0 h' m es:=by
 obtain⟨g3,c,es',g1,g2,rfl,h3,h4⟩:=i;refine⟨g3,c,es',g1,QK g2 u.1,rfl,(u.2 g3 g2 fun e=> ?_).trans h3,h4⟩;obtain⟨g,_,_,rfl,hg⟩:=o;cases e;rw[h3]at hg;cases hg
theorem Wn.updC{h0 h h':WF}{p v:Value}{a:Option Addr}{n k:Nat}{cs:List Value}{xs:List Int}(i:Wn h0 h v xs)(o:WH h0 h p (.slice a n k::cs))(u:Ws p h h'):Wn h0 h' v xs:=by
 have hne:=zGD o (.inr i);obtain⟨g,g1,g2,rfl,hg⟩:=i;exact⟨g,g1,QK g2 u.1,rfl,(u.2 g g2 fun e=>hne _ _ _ rfl e).trans hg⟩
def W0(L:List Wl)(b:Int):List Int:=YS (L.getD b.toNat default).fin
theorem zBN{nx:Int->List Int}{n:Nat}{b:Int}{s:DS}(h:(s.1.lookup b).isSome):ZE nx n b s=s:=by
 cases n with
 |zero=>rfl
 |succ n=>unfold ZE;rw[QG h]
theorem zKA(hB:WF)(L:List Wl)(vl:Value)(hin:∀ b,0<=b/\b<(L.length:Int)->∀ c∈W0 L b,0<=c/\c<(L.length:Int))(n:Nat)
  (IH:∀ (h:WF) (p vm vd:Value) (s:DS) (b:Int),WS hB h p vl vm vd s->0<=b/\b<(L.length:Int)->BZ L.length s.1<=n->s.2.length+BZ L.length s.1<=L.length->
   WC Tryz.prog tb 177 [p,I b] h fun r h'=>∃ vd',WS hB h' p vl vm vd' (ZE (W0 L) n b s)/\BE h h' p vm vd vd')
  (h:WF) (p vm vd nlv:Value) (s:DS) (l:List Int) (w:WS hB h p vl vm vd s) (sl:Wd h nlv l) (hl:(l.length:Int)<=1000) (o:Off h p vm vd nlv l) (hr:∀ c∈l,0<=c/\c<(L.length:Int)) (hu:BZ L.length s.1<=n) (hd:s.2.length+BZ L.length s.1<=L.length):
  WC Tryz.prog tb 176 [p,nlv,.func (.func 177) #[] #[]] h fun r h'=>∃ vd',WS hB h' p vl vm vd' (Zq (W0 L) n l s)/\BE h h' p vm vd vd':=by
 refine en ?_;refine VE (fun i=>l.length-i) (fun i t h1=>zC t 10=I i/\i<=l.length/\∃ vd1,WS hB h1 p vl vm vd1 (Zq (W0 L) n (l.take i) s)/\BE h h1 p vm vd vd1) 0 ?_ ?_
 ·exact⟨WM,QU _,vd,w,BE.refl ..⟩
 rintro i t h1 hsame ⟨s10,hi,vd1,w1,k1⟩;obtain⟨sl1,o1⟩:=k1.sl sl o;refine go ?_;refine VD (fun hc=> ?_) (fun hc=> ?_)<;>simp only[DB]at hc
 ·have hi':i<l.length:=by omega
  refine go ?_;have hm:=yZ hi';have hu1:BZ L.length (Zq (W0 L) n (l.take i) s).1<=n:=QN (zCK fun c hc=>zFQ _ _ hc) hu;have hd1:(Zq (W0 L) n (l.take i) s).2.length+BZ L.length (Zq (W0 L) n (l.take i) s).1<=L.length:=by
   have:∀ (m:List Int) (s:DS),(∀ c∈m,0<=c/\c<(L.length:Int))->(Zq (W0 L) n m s).2.length+BZ L.length (Zq (W0 L) n m s).1<=s.2.length+BZ L.length s.1:=by
    intro m;induction m with
    |nil=>intro s _;exact QE _
    |cons x m ih=>intro s hm;exact QN (ih _ fun c hc=>hm c (by simp[hc])) (zCj hin n x s (hm x (by simp)))
   exact QN (this _ _ fun c hc=>hr c (JH hc)) hd
  refine VY (WV.func (IH h1 p vm vd1 _ (l.getD i 0) w1 (hr _ hm) hu1 hd1)) ?_;rintro r h2 ⟨vd2,w2,k2⟩;refine go ?_;refine zA (i+1) (by omega) ⟨BF,by omega,vd2,?_,k1.trans k2⟩;have e:Zq (W0 L) n (l.take (i+1)) s=ZE (W0 L) n (l.getD i 0) (Zq (W0 L) n (l.take i) s):=by
   unfold Zq;rw[GE,List.foldl_append];simp[List.getD,QB hi']
  rw[e];exact w2
 ·refine go ?_;refine rtN ?_;have:i=l.length:=by omega
  subst this;rw[Gc]at w1;exact⟨vd1,w1,k1⟩
end Go.Proofs.YtmilpkdhbdgjfaaGreatDoor
set_option maxRecDepth 100000
namespace Go.Proofs.YtmilpkdhbdgjfaaGreatDoor
open Go.Am
section
variable {t:WI Value}
theorem zQl{x:Operand}{v:Value}(hx:WQ t x v:=by first|with_reducible exact WQ.const|((with_reducible apply WQ.tmp);(repeat (first|((with_reducible apply Va);rfl)|((with_reducible apply Wq.same);(with_reducible assumption);rfl)));first|with_reducible exact Wq.here|with_reducible assumption|(unfold Wq;with_reducible assumption))|with_reducible exact WQ.fn|with_reducible exact XB|fail):ev t x=v:=hx
end
theorem zHi(x:B2):(YS x).length<=2:=by
 unfold YS;split
 ·simp
 ·split
  ·split<;>simp
  ·simp
theorem zGT{h0 h:WF}{p:Value}{cs:List Value}(o:WH h0 h p cs):∃ g,p=.pointer (some ⟨g,0,none⟩):=let⟨g,_,_,e,_⟩:=o;⟨g,e⟩
theorem zLN{hB h h':WF}{p vl vm vd:Value}(u:zMo vm h h'):BE h h' p vm vd vd:=⟨u.1,fun g hg n=>⟨u.2 g hg n.2.1,n⟩⟩
theorem zL0{h h':WF}{p vm vd:Value}{q:Nat}{k c:Nat}(u:Bh vd h h')(hq:q=h.n):BE h h' p vm vd (.slice (some ⟨q,0,none⟩) k c):=
 ⟨u.1,fun g hg n=>⟨u.2 g hg n.2.2,n.1,n.2.1,fun a k c e=>by cases e;simp only;omega⟩⟩
theorem zKs{h h':WF}{p vm vd:Value}(u:Ws p h h'):BE h h' p vm vd vd:=⟨u.1,fun g hg n=>⟨u.2 g hg n.1,n⟩⟩
theorem zNe(hB:WF)(hmB:hB.mark<=hB.n)(L:List Wl)(vl:Value)(bl:BN hB vl L)(hL:L.length<=1000)(hin:∀ b,0<=b/\b<(L.length:Int)->∀ c∈W0 L b,0<=c/\c<(L.length:Int)):∀ (n:Nat) (h:WF) (p vm vd:Value) (s:DS) (b:Int),WS hB h p vl vm vd s->0<=b/\b<(L.length:Int)->BZ L.length s.1<=n->s.2.length+BZ L.length s.1<=L.length->
   WC Tryz.prog tb 177 [p,I b] h fun r h'=>∃ vd',WS hB h' p vl vm vd' (ZE (W0 L) n b s)/\BE h h' p vm vd vd':=by
 obtain⟨la,ln,lk,hvl⟩:=zN bl;subst hvl;intro n;induction n with
 |zero=>
  intro h p vm vd s b w hb hu hd;obtain⟨v,hv⟩:=Option.isSome_iff_exists.1 (zHu (Nat.le_zero.1 hu) hb);obtain⟨gp,rfl⟩:=zGT w.own;have wo:=w.own;have wm:=w.map;refine en ?_;refine rt ?_;exact⟨vd,w,BE.refl ..⟩
 |succ n IH=>
  intro h p vm vd s b w hb hu hd;obtain⟨gp,rfl⟩:=zGT w.own;have wo:=w.own;have wm:=w.map;refine en ?_;cases hv:s.1.lookup b with
  |some v=>
   refine gr ?_;exact⟨vd,by rw[zBN (by rw[hv];rfl)];exact w,BE.refl ..⟩
  |none=>
   have hlt:=zES (v:=(s.1.length:Int)) hv hb;refine go ?_;refine VC 0 rfl rfl ?_;have o1:WH hB (inC (zB 0 h)) (.pointer (some ⟨gp,0,none⟩)) [.slice la ln lk,vm,vd]:=wo;have m1:BJ hB (inC (zB 0 h)) vm s.1:=wm;refine Wc ?_;have hmk:h.mark<=hB.n:=by rw[w.ext.mark];exact hmB
   refine We.upd wm w.ext hmk hv ?_;intro h1 e1 wm1 u1;have wo1:=WH.updM wo wm u1;have wd1:=w.dn.updM wm u1;have k1:BE h h1 (.pointer (some ⟨gp,0,none⟩)) vm vd vd:=zLN (hB:=hB) (vl:=vm) u1;clear o1 m1 wo wm;obtain⟨i,rfl⟩:∃ i:Nat,b=i:=⟨b.toNat,by omega⟩;have bl1:=BN.ext bl e1;obtain⟨csB,⟨vi,rfl,si,hli⟩,pcB,hsB⟩:=yo (i:=i) bl1 (by omega);refine go ?_;refine VA (zJq h1 _) ?_;rintro r h2 ⟨s2,f2,e2⟩;have wo2:=wo1.ext e2;have wm2:=wm1.ext e2;have wd2:=wd1.ext e2;have e02:=e1.trans e2;have w1:WS hB h1 (.pointer (some ⟨gp,0,none⟩)) (.slice la ln lk) vm vd (s.1++[((i:Int),(s.1.length:Int))],s.2):=⟨wo1,wm1,wd1,e1⟩;have w2:WS hB h2 (.pointer (some ⟨gp,0,none⟩)) (.slice la ln lk) vm vd (s.1++[((i:Int),(s.1.length:Int))],s.2):=⟨wo2,wm2,wd2,e02⟩;have hnx:YS (L.getD i default).fin=W0 L (i:Int):=by unfold W0;rw[Q7]
   rw[hnx]at s2;have hnl:(W0 L (i:Int)).length<=2:=by unfold W0;exact zHi _
   refine go ?_;refine VA (zKA hB L (.slice la ln lk) hin n IH h2 (.pointer (some ⟨gp,0,none⟩)) vm vd r _ (W0 L (i:Int)) w2 s2 (by omega) (zKv w1 f2 s2) (hin _ hb) (by simp only;omega) (by simp only at hd |-;omega)) ?_;rintro _ h3 ⟨vd3,w3,k3⟩;have wo3:=w3.own;refine go ?_;refine WO.bl [(i:Int)] ?_;intro v4 h4 e4 o4;have wd4:=w3.dn.ext e4;have e34:=w3.ext.trans e4;refine go ?_;have hbd:(Zq (W0 L) n (W0 L (i:Int)) (s.1++[((i:Int),(s.1.length:Int))],s.2)).2.length<=1000:=by
    have:∀ (m:List Int) (s:DS),(∀ c∈m,0<=c/\c<(L.length:Int))->(Zq (W0 L) n m s).2.length+BZ L.length (Zq (W0 L) n m s).1<=s.2.length+BZ L.length s.1:=by
     intro m;induction m with
     |nil=>intro s _;exact QE _
     |cons x m ih=>intro s hm;exact QN (ih _ fun c hc=>hm c (by simp[hc])) (zCj hin n x s (hm x (by simp)))
    have:=this (W0 L (i:Int)) (s.1++[((i:Int),(s.1.length:Int))],s.2) (hin _ hb);simp only at this;omega
   refine Vm (v:=vd3) (w:=v4) (by exact zQl) (by exact zQl) wd4 o4.sl e34 (by simp) (by simp only[QZ];omega) ?_;intro h5 e5 o5 u5;have wo5:=WH.upd (wo3.ext e4) wd4 u5;have wm5:=(w3.map.ext e4).upd wd4 u5;refine go ?_;refine Vj wo5 e5 ?_ (hl:=QE 3);intro h6 e6 wo6 u6;refine go ?_;refine rtN ?_;have hdf:ZE (W0 L) (n+1) (i:Int) s=((Zq (W0 L) n (W0 L (i:Int)) (s.1++[((i:Int),(s.1.length:Int))],s.2)).1,(Zq (W0 L) n (W0 L (i:Int)) (s.1++[((i:Int),(s.1.length:Int))],s.2)).2++[(i:Int)]):=by
    conv=>lhs;unfold ZE
    rw[QC (by rw[hv];exact Bool.noConfusion)];rfl
   rw[hdf];refine⟨_,⟨wo6,BJ.updC wm5 wo5 u6,.inr (Wn.updC o5 wo5 u6),e6⟩,?_⟩;exact(((k1.trans (BE.ext e2 ..)).trans k3).trans (BE.ext e4 ..)).trans ((zL0 u5 rfl).trans (zKs u6))
end Go.Proofs.YtmilpkdhbdgjfaaGreatDoor
set_option maxRecDepth 100000
namespace Go.Proofs.YtmilpkdhbdgjfaaGreatDoor
open Go.Am
theorem zEJ(N:Nat)(es:List (Int×Int)):BZ N es<=N:=by
 unfold BZ;have:=List.length_filter_le (fun(i:Nat)=>(es.lookup ((i:Nat):Int)).isNone) (List.range N);simpa using this
theorem zKO(h:WF)(hm:h.mark<=h.n)(L:List Wl)(vl fv:Value)(l:List Int)(bl:BN h vl L)(hL:L.length<=1000)(hin:∀ b,0<=b/\b<(L.length:Int)->∀ c∈W0 L b,0<=c/\c<(L.length:Int))(sl:Wd h fv l)(hl:(l.length:Int)<=1000)(hr:∀ c∈l,0<=c/\c<(L.length:Int)):
  WC Tryz.prog tb 138 [vl,fv] h fun r h'=>Wb h h' r (Zq (W0 L) L.length l ([],[])).2/\WK h h':=by
 obtain⟨la,ln,lk,rfl⟩:=zN bl;refine en ?_;refine WO.mkMap ?_;intro vm h1 e1 m1;obtain⟨gm,rfl⟩:∃ g,vm=.map (some g):=let⟨g,_,_,_,_,e,_⟩:=m1;⟨g,e⟩;refine go ?_;refine VG ?_;intro p h2 e2 o2;have e12:=e1.trans e2;have w2:WS h h2 p (.slice la ln lk) (.map (some gm)) (.slice none 0 0) ([],[]):=⟨o2.since e1,m1.ext e2,.inl ⟨rfl,rfl⟩,e12⟩;have hoff:Off h2 p (.map (some gm)) (.slice none 0 0) fv l:=by
  rcases sl.2 with⟨h0,hv⟩|⟨g,off,row,hv,hr,hc,hg⟩
  ·exact .inl (GS.1 h0)
  ·refine .inr ⟨g,off,hv,QK hg e12.n,?_⟩;obtain⟨g1,a1,_,hp,_⟩:=w2.own;obtain⟨g2,_,_,a2,_,hm2,_⟩:=w2.map;cases hm2;refine⟨fun e=> ?_,fun e=>by cases e;omega,fun a n c e=>by cases e⟩;rw[hp]at e;cases e;omega
 refine go ?_;refine VA (zKA h L (.slice la ln lk) hin L.length (fun h' p vm vd s b w hb hu hd=>zNe h hm L (.slice la ln lk) bl hL hin L.length h' p vm vd s b w hb hu hd) h2 p _ _ fv ([],[]) l w2 (sl.ext e12) hl hoff hr (zEJ _ _) (by have:=zEJ L.length [];simp only[Gh];omega)) ?_;rintro _ h3 ⟨vd,w3,k3⟩;obtain⟨gp,rfl⟩:=zGT w3.own;have wo3:=w3.own;refine gr ?_;exact⟨w3.dn,w3.ext⟩
theorem zKP{T:List WJ}{n:Int}{f:Wj}(h:Bs T n f=true):f.blocks.length<=16/\∀ b,0<=b/\b<(f.blocks.length:Int)->∀ c∈W0 f.blocks b,0<=c/\c<(f.blocks.length:Int):=by
 unfold Bs at h;split at h
 ·cases h
 ·rename_i hbad;have hlen:f.blocks.length<=16:=by
   unfold zB5 at hbad;simp only[GM,not_or,JG,Bool.not_eq_false']at hbad;have h1:za ((f.blocks.length:Int)-1) 16=true:=by simpa using hbad.1.2
   unfold za at h1;simp only[QJ,QY]at h1;omega
  refine⟨hlen,fun b hb c hc=> ?_⟩;rw[Gp,Gy]at h;have hmem:=zL (l:=f.blocks) (i:=b.toNat) (by omega);have hblk:=h _ hmem;unfold zCP at hblk;simp only[GM,not_or,JG,Bool.not_eq_false']at hblk;have he:zAs (f.blocks.getD b.toNat default).fin (szL T n f)=true:=by simpa using hblk.2
  unfold W0 YS at hc;unfold zAs za szL at he;split at hc
  ·rename_i hk;rw[QG hk]at he;simp only[QJ,QY]at he;simp only[Qe]at hc;omega
  ·rename_i hk;rw[QC hk]at he;split at hc
   ·rename_i hk2;rw[QG hk2]at he;simp only[QJ,QY]at he;split at hc
    ·simp only[Qe]at hc;omega
    ·simp only[GI,List.mem_nil_iff,or_false]at hc;rcases hc with rfl|rfl<;>omega
   ·cases hc
theorem Zd{T:List WJ}{F:List Wj}{f b:Int}(h:(zF T F f b).2=0):(zF T F f b).1.length<=16/\∀ c,0<=c/\c<((zF T F f b).1.length:Int)->∀ d∈W0 (zF T F f b).1 c,0<=d/\d<((zF T F f b).1.length:Int):=by
 obtain⟨_,_,h3,h4⟩:=ZQ h;have hin:=zBE h4;rw[h3];exact zKP ((Z3 hin.2.2).2.2.2 _ (zL (l:=F) (i:=f.toNat) (by omega)))
end Go.Proofs.YtmilpkdhbdgjfaaGreatDoor
