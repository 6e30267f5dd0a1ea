/- Walks of functions, plain laws; proves no statement. -/
import Derived.Test.YtmilpkdhbdgjfaaGreatDoorJa
set_option linter.all false
set_option maxHeartbeats 4000000
set_option maxRecDepth 100000
namespace Go.Proofs.YtmilpkdhbdgjfaaGreatDoor
open Go.Am
theorem zP{α:Type}[Inhabited α]{l:List α}{i:Nat}(h:i<l.length):l.getD i default∈l:=by
 simp[List.getD,QB h]
theorem Zq{α:Type}[Inhabited α]{l:List α}{x:α}(h:x∈l):∃ i,i<l.length/\l.getD i default=x:=by
 obtain⟨i,hi,e⟩:=List.getElem_of_mem h;exact⟨i,hi,by simp[List.getD,QB hi,e]⟩
theorem zMz(h:WG)(v fv:Value)(l:List Ws)(p:Ws->Bool)(s:BK h v l)(hl:(l.length:Int)<=9223372036854775807)(hf:∀ x∈l,∀ h1,WL h h1->∀ cs,BX h1 cs x->WV Tryz.prog tb fv [.agg cs.toArray] h1 fun r h'=>r=.bool (p x)/\WL h1 h'):
  WC Tryz.prog tb 79 [v,fv] h fun r h'=>(∃ n:Int,r=I n/\(decide (0<=n))=l.any p)/\WL h h':=by
 refine en ?_;refine VE (fun i=>l.length-i) (fun i t h1=>WL h h1/\zC t 8=I i/\i<=l.length/\∀ j,j<i->p (l.getD j default)=false) 0 ?_ ?_
 ·exact⟨WL.refl h,WN,QU _,fun j hj=>absurd hj (Ql _)⟩
 rintro i t h1 hsame ⟨e1,s8,hi,hm⟩;have s1:=BK.ext s e1;refine go ?_;refine VD (fun hb=> ?_) (fun hb=> ?_)<;>simp only[DB]at hb
 ·have hi':i<l.length:=by omega
  obtain⟨cs,hcs,pc,hs⟩:=yr s1 hi';have hff:=hf _ (zP hi') h1 e1 cs hcs;obtain⟨va,vf,rfl,hR⟩:=hcs;refine go ?_;refine VS hff ?_;rintro _ h2 ⟨rfl,e2⟩;refine go ?_;refine VD (fun hb=> ?_) (fun hb=> ?_)
  ·refine gr ?_;refine⟨⟨i,rfl,?_⟩,e1.trans e2⟩;rw[G3.2 ⟨_,zP hi',hb⟩];simp
  ·refine go ?_;refine zA (i+1) (by omega) ⟨e1.trans e2,BG,by omega,fun j hj=> ?_⟩;by_cases e:j=i
   ·subst e;exact hb
   ·exact hm j (by omega)
 ·refine gr ?_;refine⟨⟨-1,rfl,?_⟩,e1⟩;rw[zAN fun x hx=>by obtain⟨j,hj,rfl⟩:=Zq hx;exact hm j (by omega)];rfl
theorem zNV(h:WG)(v fv:Value)(l:List Ws)(p:Ws->Bool)(s:BK h v l)(hl:(l.length:Int)<=9223372036854775807)(hf:∀ x∈l,∀ h1,WL h h1->∀ cs,BX h1 cs x->WV Tryz.prog tb fv [.agg cs.toArray] h1 fun r h'=>r=.bool (p x)/\WL h1 h'):
  WC Tryz.prog tb 129 [v,fv] h fun r h'=>r=.bool (l.any p)/\WL h h':=by
 refine en ?_;refine VA (zMz h v fv l p s hl hf) ?_;rintro _ h1 ⟨⟨n,rfl,e⟩,e1⟩;refine gr ?_;exact⟨by rw[<-e];rfl,e1⟩
theorem zNx(h:WG)(v fv:Value)(l:List Wm)(p:Wm->Bool)(s:BW h v l)(hl:(l.length:Int)<=9223372036854775807)(hf:∀ x∈l,∀ h1,WL h h1->∀ cs,By h1 cs x->WV Tryz.prog tb fv [.agg cs.toArray] h1 fun r h'=>r=.bool (p x)/\WL h1 h'):
  WC Tryz.prog tb 170 [v,fv] h fun r h'=>(∃ n:Int,r=I n/\(decide (0<=n))=l.any p)/\WL h h':=by
 refine en ?_;refine VE (fun i=>l.length-i) (fun i t h1=>WL h h1/\zC t 8=I i/\i<=l.length/\∀ j,j<i->p (l.getD j default)=false) 0 ?_ ?_
 ·exact⟨WL.refl h,WN,QU _,fun j hj=>absurd hj (Ql _)⟩
 rintro i t h1 hsame ⟨e1,s8,hi,hm⟩;have s1:=BW.ext s e1;refine go ?_;refine VD (fun hb=> ?_) (fun hb=> ?_)<;>simp only[DB]at hb
 ·have hi':i<l.length:=by omega
  obtain⟨cs,hcs,pc,hs⟩:=yr s1 hi';have hff:=hf _ (zP hi') h1 e1 cs hcs;obtain⟨va,rfl,hR⟩:=hcs;refine go ?_;refine VS hff ?_;rintro _ h2 ⟨rfl,e2⟩;refine go ?_;refine VD (fun hb=> ?_) (fun hb=> ?_)
  ·refine gr ?_;refine⟨⟨i,rfl,?_⟩,e1.trans e2⟩;rw[G3.2 ⟨_,zP hi',hb⟩];simp
  ·refine go ?_;refine zA (i+1) (by omega) ⟨e1.trans e2,BG,by omega,fun j hj=> ?_⟩;by_cases e:j=i
   ·subst e;exact hb
   ·exact hm j (by omega)
 ·refine gr ?_;refine⟨⟨-1,rfl,?_⟩,e1⟩;rw[zAN fun x hx=>by obtain⟨j,hj,rfl⟩:=Zq hx;exact hm j (by omega)];rfl
theorem zNK(h:WG)(v fv:Value)(l:List Wm)(p:Wm->Bool)(s:BW h v l)(hl:(l.length:Int)<=9223372036854775807)(hf:∀ x∈l,∀ h1,WL h h1->∀ cs,By h1 cs x->WV Tryz.prog tb fv [.agg cs.toArray] h1 fun r h'=>r=.bool (p x)/\WL h1 h'):
  WC Tryz.prog tb 127 [v,fv] h fun r h'=>r=.bool (l.any p)/\WL h h':=by
 refine en ?_;refine VA (zNx h v fv l p s hl hf) ?_;rintro _ h1 ⟨⟨n,rfl,e⟩,e1⟩;refine gr ?_;exact⟨by rw[<-e];rfl,e1⟩
theorem zPC(h:WG)(v fv:Value)(l:List Wk)(p:Wk->Bool)(s:BD h v l)(hl:(l.length:Int)<=9223372036854775807)(hf:∀ x∈l,∀ h1,WL h h1->∀ cs,RFn h1 cs x->WV Tryz.prog tb fv [.agg cs.toArray] h1 fun r h'=>r=.bool (p x)/\WL h1 h'):
  WC Tryz.prog tb 124 [v,fv] h fun r h'=>(∃ n:Int,r=I n/\(decide (0<=n))=l.any p)/\WL h h':=by
 refine en ?_;refine VE (fun i=>l.length-i) (fun i t h1=>WL h h1/\zC t 8=I i/\i<=l.length/\∀ j,j<i->p (l.getD j default)=false) 0 ?_ ?_
 ·exact⟨WL.refl h,WN,QU _,fun j hj=>absurd hj (Ql _)⟩
 rintro i t h1 hsame ⟨e1,s8,hi,hm⟩;have s1:=BD.ext s e1;refine go ?_;refine VD (fun hb=> ?_) (fun hb=> ?_)<;>simp only[DB]at hb
 ·have hi':i<l.length:=by omega
  obtain⟨cs,hcs,pc,hs⟩:=yr s1 hi';have hff:=hf _ (zP hi') h1 e1 cs hcs;obtain⟨va,rfl,hR⟩:=hcs;refine go ?_;refine VS hff ?_;rintro _ h2 ⟨rfl,e2⟩;refine go ?_;refine VD (fun hb=> ?_) (fun hb=> ?_)
  ·refine gr ?_;refine⟨⟨i,rfl,?_⟩,e1.trans e2⟩;rw[G3.2 ⟨_,zP hi',hb⟩];simp
  ·refine go ?_;refine zA (i+1) (by omega) ⟨e1.trans e2,BG,by omega,fun j hj=> ?_⟩;by_cases e:j=i
   ·subst e;exact hb
   ·exact hm j (by omega)
 ·refine gr ?_;refine⟨⟨-1,rfl,?_⟩,e1⟩;rw[zAN fun x hx=>by obtain⟨j,hj,rfl⟩:=Zq hx;exact hm j (by omega)];rfl
theorem zO4(h:WG)(v fv:Value)(l:List Wk)(p:Wk->Bool)(s:BD h v l)(hl:(l.length:Int)<=9223372036854775807)(hf:∀ x∈l,∀ h1,WL h h1->∀ cs,RFn h1 cs x->WV Tryz.prog tb fv [.agg cs.toArray] h1 fun r h'=>r=.bool (p x)/\WL h1 h'):
  WC Tryz.prog tb 104 [v,fv] h fun r h'=>r=.bool (l.any p)/\WL h h':=by
 refine en ?_;refine VA (zPC h v fv l p s hl hf) ?_;rintro _ h1 ⟨⟨n,rfl,e⟩,e1⟩;refine gr ?_;exact⟨by rw[<-e];rfl,e1⟩
end Go.Proofs.YtmilpkdhbdgjfaaGreatDoor
set_option maxRecDepth 100000
namespace Go.Proofs.YtmilpkdhbdgjfaaGreatDoor
open Go.Am
abbrev szV(s:B6):List Value:=[I s.types,I s.funcs,I s.regs,I s.blocks]
theorem zP1(h h0:WG)(p:Value)(x:Ws)(s:B6)(cs:List Value)(T:Bx h)(hR:BX h cs x)(o:WI h0 h p (szV s)):
  WC Tryz.prog tb 125 [.agg cs.toArray,p] h fun r h'=>r=.bool (!zCX x s)/\WL h h':=by
 obtain⟨va,vf,rfl,sa,sf,hla,hlf,ho⟩:=hR;refine en ?_;refine VG ?_;intro p2 h1 e1 o1;have o:=o.ext e1;refine go ?_;refine VA (zPx h1 x va vf s (T.ext e1) (sa.ext e1) (sf.ext e1) (by omega) (by omega) ho) ?_;rintro _ h2 ⟨rfl,e2⟩;refine gr ?_;exact⟨rfl,e1.trans e2⟩
theorem zQM(h h0 h00:WG)(p1 p2:Value)(b:Wm)(s:B6)(cs:List Value)(T:Bx h)(hR:By h cs b)(o1:WI h0 h p1 [.func (.func 125) #[] #[p2]])(o2:WI h00 h p2 (szV s)):
  WC Tryz.prog tb 128 [.agg cs.toArray,p1,p2] h fun r h'=>r=.bool (zCY b s)/\WL h h':=by
 obtain⟨vi,rfl,si,hl⟩:=hR;refine en ?_;refine VG ?_;intro p3 h1 e1 o3;have o1:=o1.ext e1;have o2:=o2.ext e1;have T1:=T.ext e1;refine go ?_;refine VA (zNV h1 vi _ b.ins (fun x=> !zCX x s) (BK.ext si e1) (by omega) ?_) ?_
 ·intro x hx h2 e2 cs hcs;exact WV.func (zP1 h2 h00 p2 x s cs (T1.ext e2) hcs (o2.ext e2))
 rintro _ h2 ⟨rfl,e2⟩;have o3:=o3.ext e2;have o2:=o2.ext e2;refine go ?_;refine VH (fun hb=> ?_) (fun hb=> ?_)<;>refine go ?_
 ·refine rt ?_;exact⟨by simp only[zCY,hb,Qp];rfl,e1.trans e2⟩
 ·refine VA (zP3 h2 b.fin s) ?_;rintro _ h3 ⟨rfl,e3⟩;refine gr ?_;exact⟨by simp only[zCY,hb,Qj];rfl,(e1.trans e2).trans e3⟩
theorem Z9(l:List Wm):0<=yI l:=by
 unfold yI;induction l with
 |nil=>simp
 |cons b l ih=>simp only[Q6,List.sum_cons];omega
theorem zQo(h:WG)(vt vf vb:Value)(T:List WK)(F:List Wk)(f:Wk)(tt:Bx h)(hm:h.mark<=h.n)(st:Bi h vt T)(sf:BD h vf F)(sb:BW h vb f.blocks)(hT:T.length<=100)(hp:∀ x∈T,x.parts.length<=100)(hF:(F.length:Int)<=9223372036854775807)(hB:f.blocks.length<=1000)(hI:∀ b∈f.blocks,b.ins.length<=1000):
  WC Tryz.prog tb 106 [.agg #[vt,vf],.agg #[I f.sig,vb]] h fun r h'=>r=.bool (Bt T F.length f)/\WL h h':=by
 refine en ?_;refine VG ?_;intro p2 h1 e1 o1;refine VG ?_;intro p3 h2 e2 o2;have o1:=o1.ext e2;have e12:=e1.trans e2;have st2:=st.ext e12;have sf2:=BD.ext sf e12;have sb2:=BW.ext sb e12;have tt2:=tt.ext e12;have hm2:h2.mark<=h2.n:=by have:=e12.mark;have:=e12.n;omega
 have hbad:zCL T f=zCL T f:=rfl;conv at hbad=>rhs;unfold zCL
 refine go ?_;refine VA (yi h2 f.sig T.length) ?_;rintro _ _ ⟨rfl,rfl⟩;refine go ?_;refine VH (fun hb=> ?_) (fun hb=> ?_)<;>simp only[DB]at hb<;>refine go ?_
 ·refine rt ?_;refine⟨?_,e12⟩;rw[Bt,QG (show zCL T f=true by rw[hbad,hb];rfl)];rfl
 have hsig:0<=f.sig/\f.sig<(T.length:Int):=by
  unfold za at hb;simpa using hb
 obtain⟨csT,⟨vp,rfl,sp,hsp⟩,pcT,hsT⟩:=YI (i:=f.sig.toNat) st2 (by omega);have hpx:(T.getD f.sig.toNat default).parts.length<=100:=hp _ (zP (by omega));refine go ?_;refine VH (fun hc=> ?_) (fun hc=> ?_)<;>simp only[DB]at hc<;>refine go ?_
 ·refine rt ?_;refine⟨?_,e12⟩;rw[Bt,QG (show zCL T f=true by rw[hbad,hb,QM hc];rfl)];rfl
 refine VA (yi h2 ((f.blocks.length:Int)-1) 16) ?_;rintro _ _ ⟨rfl,rfl⟩;refine go ?_;refine VH (fun hd=> ?_) (fun hd=> ?_)<;>simp only[DB]at hd<;>refine go ?_
 ·refine rt ?_;refine⟨?_,e12⟩;rw[Bt,QG (show zCL T f=true by rw[hbad,hb,QS hc,hd];rfl)];rfl
 refine VA (zDY h2 f.sig vb f.blocks sb2 hB hI) ?_;rintro _ h3 ⟨rfl,e3⟩;have e13:=e12.trans e3;have o1:=o1.ext e3;have o2:=o2.ext e3;have st3:=st2.ext e3;have sf3:=BD.ext sf2 e3;have sb3:=BW.ext sb2 e3;have tt3:=tt2.ext e3;have hm3:h3.mark<=h3.n:=by have:=e3.mark;have:=e3.n;omega
 refine go ?_;refine VD (fun he=> ?_) (fun he=> ?_)<;>simp only[DB]at he<;>refine go ?_
 ·refine rt ?_;refine⟨?_,e13⟩;rw[Bt,QG (show zCL T f=true by rw[hbad,hb,QS hc,hd,QS he];rfl)];rfl
 refine goC ?_;have hbadF:zCL T f=false:=by rw[hbad,hb,QS hc,hd,QM (by omega)];rfl
 obtain⟨a',n',k',rfl⟩:=zQ st3;clear hbad hb hd pcT;refine VC 1 rfl rfl ?_;have e4:=zO 1 h3;generalize hqq:zB 1 h3=h4 at *;have hn4:h4.n=h3.n+1:=by rw[<-hqq];rfl
 have o1r:WI h (inC h4) p2 [.slice a' n' k',vf]:=by have:=o1.ext e4;exact this
 have o2r:WI h1 (inC h4) p3 [I f.sig,vb]:=by have:=o2.ext e4;exact this
 have str:Bi (inC h4) (.slice a' n' k') T:=by have:=st3.ext e4;exact this
 have sfr:BD (inC h4) vf F:=by have:=BD.ext sf3 e4;exact this
 have sbr:BW (inC h4) vb f.blocks:=by have:=BW.ext sb3 e4;exact this
 obtain⟨csr,⟨vpr,rfl,spr,hspr⟩,pcr,hsr⟩:=YI (i:=f.sig.toNat) str (by omega);refine Wg ?_;refine VA (zDY (inC h4) f.sig vb f.blocks sbr hB hI) ?_;rintro _ h5 ⟨rfl,e5⟩;refine WO.nil ?_;refine zPM e5 rfl ?_;have o1s:WI h (inC h5) p2 [.slice a' n' k',vf]:=by have:=o1r.ext e5;exact this
 have o2s:WI h1 (inC h5) p3 [I f.sig,vb]:=by have:=o2r.ext e5;exact this
 have sbs:BW (inC h5) vb f.blocks:=by have:=BW.ext sbr e5;exact this
 have hmp:=Z9 f.blocks;refine Wg ?_;refine zDg o2 (by omega) ?_;refine Wg ?_;have hn5:h3.n<h5.n:=by have:h4.n<=h5.n:=e5.n;omega
 refine XL hm3 hn5 ?_;rw[<-hqq]at e5;have e6:=zH5 (o:= .row [I 0,I 0,I 0,I 0] true 0) (o':= .row [I (T.length:Int),I (F.length:Int),I (((T.getD f.sig.toNat default).parts.length:Int)+yI f.blocks),I (f.blocks.length:Int)] true 0) (k:=0) e5;have o5:=zHF (cs:=[I (T.length:Int),I (F.length:Int),I (((T.getD f.sig.toNat default).parts.length:Int)+yI f.blocks),I (f.blocks.length:Int)]) (o:= .row [I 0,I 0,I 0,I 0] true 0) e5;unfold B1;refine(?_:∀ h6,WL h3 h6->WI h3 h6 (.pointer (some ⟨h3.n,0,none⟩)) (szV (szL T F.length f))->zEM _ _ _ _ _ _ h6) _ e6 o5;clear e6 o5;intro h6 e6 o5;generalize Value.pointer (some ⟨h3.n,0,none⟩)=p5 at *;have o2:=o2.ext e6;have sb6:=BW.ext sb3 e6;have tt6:=tt3.ext e6;have e16:=e13.trans e6;refine go ?_;refine VJ ?_;intro p6 h7 e7 o6;refine VF o6 e7 ?_;intro h8 e8 o6 _;have o2:=o2.ext e8;have o5:=o5.ext e8;have sb8:=BW.ext sb6 e8;have tt8:=tt6.ext e8;refine go ?_;refine VA (zNK h8 vb _ f.blocks (fun b=>zCY b (szL T F.length f)) sb8 (by omega) ?_) ?_
 ·intro b hb h9 e9 cs hcs;exact WV.func (zQM h9 h6 h3 p6 p5 b (szL T F.length f) cs (tt8.ext e9) hcs (o6.ext e9) (o5.ext e9))
 rintro _ h9 ⟨rfl,e9⟩;refine gr ?_;exact⟨by rw[Bt,QC (by rw[hbadF];exact Bool.noConfusion)];rfl,(e16.trans e8).trans e9⟩
end Go.Proofs.YtmilpkdhbdgjfaaGreatDoor
set_option maxRecDepth 100000
namespace Go.Proofs.YtmilpkdhbdgjfaaGreatDoor
open Go.Am
theorem yJ{h h':WG}(e:WL h h')(hm:h.mark<=h.n):h'.mark<=h'.n:=by have:=e.mark;have:=e.n;omega
theorem zO8(h h0:WG)(p vt vf:Value)(T:List WK)(F:List Wk)(f:Wk)(cs:List Value)(tt:Bx h)(hm:h.mark<=h.n)(sm:BP T F)(hf:f∈F)(st:Bi h vt T)(sf:BD h vf F)(hR:RFn h cs f)(o:WI h0 h p [vt,vf]):
  WC Tryz.prog tb 105 [.agg cs.toArray,p] h fun r h'=>r=.bool (!Bt T F.length f)/\WL h h':=by
 obtain⟨vb,rfl,sb,hl⟩:=hR;refine en ?_;refine VG ?_;intro p2 h1 e1 o1;have o:=o.ext e1;refine go ?_;refine VA (zQo h1 vt vf vb T F f (tt.ext e1) (yJ e1 hm) (st.ext e1) (BD.ext sf e1) (BW.ext sb e1) sm.types sm.parts (by have:=sm.funcs;omega) (sm.blocks f hf) (sm.ins f hf)) ?_;rintro _ h2 ⟨rfl,e2⟩;refine gr ?_;exact⟨rfl,e1.trans e2⟩
theorem zJ8(h:WG)(vt vf:Value)(T:List WK)(F:List Wk)(tt:Bx h)(hm:h.mark<=h.n)(sm:BP T F)(st:Bi h vt T)(sf:BD h vf F):
  WC Tryz.prog tb 72 [.agg #[vt,vf]] h fun r h'=>r=I (yl T F)/\WL h h':=by
 refine en ?_;refine VG ?_;intro p h1 e1 o1;have st1:=st.ext e1;refine go ?_;refine VA (zNw h1 vt T st1 sm.types sm.parts) ?_;rintro _ h2 ⟨rfl,e2⟩;have e12:=e1.trans e2;have o1:=o1.ext e2;have st2:=st1.ext e2;have sf2:=BD.ext sf e12;have tt2:=tt.ext e12;have hF:=sm.funcs;refine go ?_;refine VD (fun hb=> ?_) (fun hb=> ?_)<;>simp only[DB]at hb<;>refine go ?_
 ·refine rt ?_;exact⟨by rw[yl,QG hb];rfl,e12⟩
 refine VA (yi h2 ((F.length:Int)-1) 8) ?_;rintro _ _ ⟨rfl,rfl⟩;refine go ?_;refine VH (fun hc=> ?_) (fun hc=> ?_)<;>simp only[DB]at hc<;>refine go ?_
 ·refine rt ?_;exact⟨by rw[yl,QC (by omega),hc];simp[one],e12⟩
 refine VA (zO4 h2 vf _ F (fun f=> !Bt T F.length f) sf2 (by omega) ?_) ?_
 ·intro f hf h3 e3 cs hcs;exact WV.func (zO8 h3 h p vt vf T F f cs (tt2.ext e3) (yJ (e12.trans e3) hm) sm hf (st2.ext e3) (BD.ext sf2 e3) hcs (o1.ext e3))
 rintro _ h3 ⟨rfl,e3⟩;refine go ?_;refine VD (fun hd=> ?_) (fun hd=> ?_)<;>refine go ?_<;>refine rt ?_<;>refine⟨?_,e12.trans e3⟩<;>rw[yl,QC (by omega),hc,hd]
 ·simp[one]
 ·simp[one]
theorem Z4{T:List WK}{F:List Wk}(h:yl T F=0):ZY T=0/\1<=F.length/\F.length<=8/\∀ f∈F,Bt T F.length f=true:=by
 unfold yl at h;split at h
 ·rename_i hc;exact absurd h hc
 ·rename_i hc;split at h
  ·cases h
  ·rename_i hd;simp only[GK,not_or,JG,Bool.not_eq_false']at hd;have h1:za ((F.length:Int)-1) 8=true:=by simpa using hd.1
   unfold za at h1;simp only[QI,QY]at h1;refine⟨by omega,by omega,by omega,fun f hf=> ?_⟩;have:=Gz.1 hd.2 f hf;simpa using this
theorem zF9{T:List WK}{n:Int}{f:Wk}(h:Bt T n f=true):0<=f.sig/\f.sig<(T.length:Int):=by
 unfold Bt at h;split at h
 ·cases h
 ·rename_i hb;unfold zCL at hb;simp only[GK,not_or,JG,Bool.not_eq_false']at hb;have h1:za f.sig T.length=true:=by simpa using hb.1.1.1
  unfold za at h1;simpa using h1
theorem zHa(h:WG)(vt vf:Value)(T:List WK)(F:List Wk)(f:Int)(tt:Bx h)(hm:h.mark<=h.n)(sm:BP T F)(st:Bi h vt T)(sf:BD h vf F):
  WC Tryz.prog tb 81 [.agg #[vt,vf],I f] h fun r h'=>r=.tuple #[I (yb T F f).1,I (yb T F f).2]/\WL h h':=by
 refine en ?_;refine VG ?_;intro p h1 e1 o1;refine go ?_;refine VA (zJ8 h1 vt vf T F (tt.ext e1) (yJ e1 hm) sm (st.ext e1) (BD.ext sf e1)) ?_;rintro _ h2 ⟨rfl,e2⟩;have e12:=e1.trans e2;have o1:=o1.ext e2;have st2:=st.ext e12;have sf2:=BD.ext sf e12;have hF:=sm.funcs;refine go ?_;refine VD (fun hb=> ?_) (fun hb=> ?_)<;>simp only[DB]at hb<;>refine go ?_
 ·refine rt ?_;exact⟨by rw[yb,QG hb];rfl,e12⟩
 have hb:yl T F=0:=by omega
 refine VA (yi h2 f F.length) ?_;rintro _ _ ⟨rfl,rfl⟩;refine go ?_;refine VD (fun hc=> ?_) (fun hc=> ?_)<;>simp only[DB]at hc<;>refine go ?_
 ·refine rt ?_;exact⟨by rw[yb,QC (by omega),hc,QC (by exact Bool.noConfusion)];rfl,e12⟩
 have hf:0<=f/\f<(F.length:Int):=by unfold za at hc;simpa using hc
 obtain⟨csF,⟨vb,rfl,sb,hlb⟩,pcF,hsF⟩:=yr (i:=f.toNat) sf2 (by omega);have hsig:=zF9 ((Z4 hb).2.2.2 _ (zP (l:=F) (i:=f.toNat) (by omega)));obtain⟨csT,⟨vp,rfl,sp,hsp⟩,pcT,hsT⟩:=YI (i:=(F.getD f.toNat default).sig.toNat) st2 (by omega);refine gr ?_;exact⟨by rw[yb,QC (by omega),hc,QG rfl];rfl,e12⟩
theorem zGK(h:WG)(vt vf:Value)(T:List WK)(F:List Wk)(f:Int)(tt:Bx h)(hm:h.mark<=h.n)(sm:BP T F)(st:Bi h vt T)(sf:BD h vf F):
  WC Tryz.prog tb 75 [.agg #[vt,vf],I f] h fun r h'=>r=.tuple #[I (Ym T F f).1,I (Ym T F f).2]/\WL h h':=by
 refine en ?_;refine VG ?_;intro p h1 e1 o1;refine go ?_;refine VA (zHa h1 vt vf T F f (tt.ext e1) (yJ e1 hm) sm (st.ext e1) (BD.ext sf e1)) ?_;rintro _ h2 ⟨rfl,e2⟩;have e12:=e1.trans e2;have o1:=o1.ext e2;have sf2:=BD.ext sf e12;have hF:=sm.funcs;refine go ?_;refine VD (fun hb=> ?_) (fun hb=> ?_)<;>simp only[DB]at hb<;>refine go ?_
 ·refine rt ?_;exact⟨by rw[Ym,QG hb];rfl,e12⟩
 have hb2:(yb T F f).2=0:=by omega
 have hin:0<=f/\f<(F.length:Int)/\yl T F=0:=by
  unfold yb at hb2;split at hb2
  ·rename_i hp;exact absurd hb2 hp
  ·rename_i hp;split at hb2
   ·rename_i hc;unfold za at hc;simp at hc;exact⟨hc.1,hc.2,by omega⟩
   ·cases hb2
 obtain⟨csF,⟨vb,rfl,sb,hlb⟩,pcF,hsF⟩:=yr (i:=f.toNat) sf2 (by omega);have hmem:=zP (l:=F) (i:=f.toNat) (by omega);refine go ?_;refine VA (zDY h2 _ vb _ sb (sm.blocks _ hmem) (sm.ins _ hmem)) ?_;rintro _ h3 ⟨rfl,e3⟩;have hfn:=(Z4 hin.2.2).2.2.2 _ hmem;have hbd:yI (F.getD f.toNat default).blocks<=128:=by
  unfold Bt at hfn;split at hfn
  ·cases hfn
  ·rename_i hbad;unfold zCL at hbad;simp only[GK,not_or,JG,JD]at hbad;omega
 have hpos:=Z9 (F.getD f.toNat default).blocks;have hn:0<=(yb T F f).1/\(yb T F f).1<=100:=by
  unfold yb;split
  ·simp
  ·split
   ·have hs:=zF9 hfn;have:=sm.parts _ (zP (l:=T) (i:=(F.getD f.toNat default).sig.toNat) (by omega));simp only;omega
   ·simp
 refine gr ?_;exact⟨by rw[Ym,QC (by omega)];rfl,e12.trans e3⟩
end Go.Proofs.YtmilpkdhbdgjfaaGreatDoor
set_option maxRecDepth 100000
namespace Go.Proofs.YtmilpkdhbdgjfaaGreatDoor
open Go.Am
theorem zKq(h:WG)(vt:Value)(T:List WK)(st:Bi h vt T)(hT:(T.length:Int)<=9223372036854775807):
  WC Tryz.prog tb 44 [vt] h fun r h'=>(r=.bool true\/r=.bool false/\T.length<=20/\∀ x∈T,x.parts.length<=20)/\h=h':=by
 refine en ?_;refine VE (fun i=>T.length-i) (fun i t h1=>h=h1/\zC t 3=I i/\i<=T.length/\∀ j,j<i->(T.getD j default).parts.length<=20) 0 ?_ ?_
 ·exact⟨rfl,WN,QU _,fun j hj=>absurd hj (Ql _)⟩
 rintro i t _ hsame ⟨rfl,s3,hi,hm⟩;have fin:(20<(T.length:Int))\/(i=T.length/\T.length<=20)\/i<T.length:=by omega
 refine go ?_;refine VH (fun hb=> ?_) (fun hb=> ?_)<;>simp only[DB]at hb<;>refine go ?_
 ·obtain⟨cs,⟨va,rfl,sa,hla⟩,pc,hs⟩:=YI st (show i<T.length by omega);refine VD (fun hc=> ?_) (fun hc=> ?_)<;>simp only[DB]at hc
  ·refine go ?_;refine VD (fun hd=> ?_) (fun hd=> ?_)<;>simp only[DB]at hd
   ·refine gr ?_;exact⟨.inl rfl,rfl⟩
   ·refine go ?_;refine zA (i+1) (by omega) ⟨rfl,BG,by omega,fun j hj=> ?_⟩;by_cases e:j=i
    ·subst e;omega
    ·exact hm j (by omega)
  ·refine gr ?_;refine⟨.inl ?_,rfl⟩;rw[QS (show(20:Int)<T.length by omega)];rfl
 ·refine rt ?_;refine⟨?_,rfl⟩;by_cases hg:20<(T.length:Int)
  ·left;rw[QS hg];rfl
  ·right;refine⟨by rw[QM hg];rfl,by omega,fun x hx=> ?_⟩;obtain⟨j,hj,rfl⟩:=Zq hx;exact hm j (by omega)
def zP8(F:List Wk):Prop:=∀ f∈F,∀ b∈f.blocks,∀ x∈b.ins,x.args.length<=20/\x.frm.length<=20
theorem zNU{T:List WK}{F:List Wk}(h1:T.length<=20)(h2:∀ x∈T,x.parts.length<=20)(h3:F.length<=10)(h4:∀ f∈F,f.blocks.length<=20/\∀ b∈f.blocks,b.ins.length<=1000):BP T F:=
 ⟨by omega,fun x hx=>by have:=h2 x hx;omega,by omega,fun f hf=>by have:=(h4 f hf).1;omega,fun f hf=>(h4 f hf).2⟩
theorem zLG(h:WG)(vt vf:Value)(T:List WK)(F:List Wk)(most:Int)(hmost:0<=most/\most<=1000)(st:Bi h vt T)(sf:BD h vf F)(hT:(T.length:Int)<=9223372036854775807)(hF:(F.length:Int)<=9223372036854775807):
  WC Tryz.prog tb 18 [.agg #[vt,vf],I most] h fun r h'=>(r=.bool true\/r=.bool false/\BP T F/\zP8 F)/\WL h h':=by
 refine en ?_;refine VG ?_;intro p h1 e1 o1;have st1:=st.ext e1;have sf1:=BD.ext sf e1;refine go ?_;refine VA (zKq h1 vt T st1 hT) ?_;rintro r _ ⟨hr,rfl⟩;refine go ?_;rcases hr with rfl|⟨rfl,hT2,hp2⟩
 ·refine gr ?_;exact⟨.inl rfl,e1⟩
 refine go ?_;refine VD (fun hb=> ?_) (fun hb=> ?_)<;>simp only[DB]at hb<;>refine go ?_
 ·refine rt ?_;exact⟨.inl rfl,e1⟩
 refine VE (fun i=>F.length-i) (fun i t h2=>h1=h2/\zC t 6=I i/\i<=F.length/\(∃ n,zC t 5=I n/\0<=n/\n<=most)/\∀ j,j<i->(F.getD j default).blocks.length<=20/\∀ b∈(F.getD j default).blocks,b.ins.length<=1000/\∀ x∈b.ins,x.args.length<=20/\x.frm.length<=20) 0 ?_ ?_
 ·exact⟨rfl,WN,QU _,⟨0,WN,by omega,by omega⟩,fun j hj=>absurd hj (Ql _)⟩
 rintro i t _ hsame ⟨rfl,s6,hi,⟨n,s5,hn0,hn⟩,hm⟩;refine go ?_;refine VD (fun hc=> ?_) (fun hc=> ?_)<;>simp only[DB]at hc
 ·have hi':i<F.length:=by omega
  obtain⟨csF,⟨vb,rfl,sb,hlb⟩,pcF,hsF⟩:=yr sf1 hi';refine go ?_;refine VD (fun hd=> ?_) (fun hd=> ?_)<;>simp only[DB]at hd<;>refine go ?_
  ·refine rt ?_;exact⟨.inl rfl,e1⟩
  refine VE (fun k=>(F.getD i default).blocks.length-k) (fun k t h2=>h1=h2/\zC t 7=I k/\k<=(F.getD i default).blocks.length/\(∃ n,zC t 5=I n/\0<=n/\n<=most)/\∀ j,j<k->((F.getD i default).blocks.getD j default).ins.length<=1000/\∀ x∈((F.getD i default).blocks.getD j default).ins,x.args.length<=20/\x.frm.length<=20) 0 ?_ ?_
  ·exact⟨rfl,WN,QU _,⟨n,WN,hn0,hn⟩,fun j hj=>absurd hj (Ql _)⟩
  rintro k t2 _ hsame2 ⟨rfl,s7,hk,⟨n2,s5b,hn20,hn2⟩,hm2⟩;refine go ?_;refine VD (fun he=> ?_) (fun he=> ?_)<;>simp only[DB]at he
  ·have hk':k<(F.getD i default).blocks.length:=by omega
   obtain⟨csB,⟨vi,rfl,si,hli⟩,pcB,hsB⟩:=yr sb hk';refine go ?_;refine VD (fun hf=> ?_) (fun hf=> ?_)<;>simp only[DB]at hf<;>refine go ?_
   ·refine rt ?_;exact⟨.inl rfl,e1⟩
   refine VE (fun j=>((F.getD i default).blocks.getD k default).ins.length-j) (fun j t h2=>h1=h2/\zC t 9=I j/\j<=((F.getD i default).blocks.getD k default).ins.length/\∀ q,q<j->(((F.getD i default).blocks.getD k default).ins.getD q default).args.length<=20/\(((F.getD i default).blocks.getD k default).ins.getD q default).frm.length<=20) 0 ?_ ?_
   ·exact⟨rfl,WN,QU _,fun q hq=>absurd hq (Ql _)⟩
   rintro j t3 _ hsame3 ⟨rfl,s9,hj,hq9⟩;refine go ?_;refine VD (fun hg=> ?_) (fun hg=> ?_)<;>simp only[DB]at hg
   ·have hj':j<((F.getD i default).blocks.getD k default).ins.length:=by omega
    obtain⟨csI,⟨va,vfr,rfl,sa,sfr,hla,hlf,ho⟩,pcI,hsI⟩:=yr si hj';refine go ?_;refine VH (fun hh=> ?_) (fun hh=> ?_)<;>simp only[DB]at hh<;>refine go ?_
    ·refine rt ?_;exact⟨.inl rfl,e1⟩
    refine VD (fun hh2=> ?_) (fun hh2=> ?_)<;>simp only[DB]at hh2<;>refine go ?_
    ·refine rt ?_;exact⟨.inl rfl,e1⟩
    ·refine zA (j+1) (by omega) ⟨rfl,BG,by omega,fun q hq=> ?_⟩;by_cases e:q=j
     ·subst e;omega
     ·exact hq9 q (by omega)
   ·refine go ?_;refine zA (k+1) (by omega) ⟨rfl,BG,by omega,⟨n2+(((F.getD i default).blocks.getD k default).ins.length:Int),WN,by omega,by omega⟩,fun q hq=> ?_⟩;by_cases e:q=k
    ·subst e;refine⟨by omega,fun x hx=> ?_⟩;obtain⟨y,hy,rfl⟩:=Zq hx;exact hq9 y (by omega)
    ·exact hm2 q (by omega)
  ·refine go ?_;refine zA (i+1) (by omega) ⟨rfl,BG,by omega,⟨n2,WN,hn20,hn2⟩,fun q hq=> ?_⟩;by_cases e:q=i
   ·subst e;refine⟨by omega,fun b hb=> ?_⟩;obtain⟨y,hy,rfl⟩:=Zq hb;exact hm2 y (by omega)
   ·exact hm q (by omega)
 ·refine gr ?_;have hall:∀ f∈F,f.blocks.length<=20/\∀ b∈f.blocks,b.ins.length<=1000/\∀ x∈b.ins,x.args.length<=20/\x.frm.length<=20:=fun f hf=>by
   obtain⟨y,hy,rfl⟩:=Zq hf;exact hm y (by omega)
  exact⟨.inr ⟨rfl,zNU hT2 hp2 (by omega) fun f hf=>⟨(hall f hf).1,fun b hb=>((hall f hf).2 b hb).1⟩,fun f hf b hb=>((hall f hf).2 b hb).2⟩,e1⟩
end Go.Proofs.YtmilpkdhbdgjfaaGreatDoor
set_option maxRecDepth 100000
namespace Go.Proofs.YtmilpkdhbdgjfaaGreatDoor
open Go.Am
def YR(x:B2):List Int:=if x.kind=1 then[x.to]else if x.kind=2 then(if x.to=x.els then[x.to]else[x.to,x.els])else[]
def Bw(h:WG)(v:Value):Prop:=∀ a n c,v=.slice (some a) n c->h.n<=a.block
theorem Bw.since{h h':WG}{v:Value}(f:Bw h' v)(n:h.n<=h'.n):Bw h v:=fun a k c e=>QO n (f a k c e)
theorem zFE{h0 h:WG}{v:Value}{l:List Int}(o:Wo h0 h v l):Bw h0 v:=by
 obtain⟨g,a,_,rfl,_⟩:=o;intro a n c e;cases e;assumption
theorem zJP(h0 h:WG)(v:Value)(a b:Int)(e0:WL h0 h)(o:Wo h0 h v [a,b]):
  WC Tryz.prog tb 210 [v] h fun r h'=>Wd h' r (if a=b then[a]else[a,b])/\Bw h0 r/\WL h0 h':=by
 have s:Wd h v [a,b]:=o.sl;have fr:=zFE o;refine en ?_;refine VD (fun hb=> ?_) (fun hb=> ?_)<;>simp only[DB]at hb
 ·exact absurd hb (by simp)
 refine go ?_;refine VE (fun i=>2-i) (fun i t h1=>h=h1/\zC t 3=I i/\(i=1\/i=2/\a≠b)) 1 ?_ ?_
 ·exact⟨rfl,WN,.inl rfl⟩
 rintro i t _ hsame ⟨rfl,s3,hi⟩;have hlen:([a,b]:List Int).length=2:=rfl;refine go ?_;refine VD (fun hc=> ?_) (fun hc=> ?_)<;>simp only[DB]at hc
 ·have hi1:i=1:=by rw[hlen]at hc;omega
  subst hi1;refine go ?_;refine VD (fun hd=> ?_) (fun hd=> ?_)<;>simp only[DB]at hd
  ·have hab:a=b:=by simpa [List.getD]using hd.symm
   subst hab;obtain⟨g,g1,g2,rfl,g3⟩:=o;refine go ?_;refine Vi (i:=1) (v:= .slice (some ⟨g,0,none⟩) [a,a].length 1) (r:= .slice (some ⟨g,1,none⟩) 1 1) (by rfl) ?_;have s4:Wd h (.slice (some ⟨g,1,none⟩) 1 1) [a]:=⟨rfl,.inr ⟨g,1,_,rfl,ZP g3,by rfl,g2⟩⟩;refine go ?_;refine VE (fun i=>1) (fun(i:Unit) t h1=>h=h1/\zC t 5=I 1/\zC t 3=I ((1:Nat):Int)) () ?_ ?_
   ·exact⟨rfl,WN,WN⟩
   rintro _ t2 _ hsame2 ⟨rfl,s5,s3b⟩;have hlen1:([a]:List Int).length=1:=rfl;refine go ?_;refine Vi (i:=1) (v:= .slice (some ⟨g,0,none⟩) [a,a].length 1) (r:= .slice (some ⟨g,1,none⟩) 1 1) (by rfl) ?_;have hcl:zBM 1 [I 0] (.slice (some ⟨g,1,none⟩) 1 1) h=some (.tuple #[],h.set g (.row [I a,I 0] true 0)):=by
    show((zg h ⟨g,1,none⟩ [I 0]).map (Value.tuple #[],·))=_;have:zg h ⟨g,1,none⟩ [I 0]=some (h.set g (.row [I a,I 0] true 0)):=by
     unfold zg;rw[g3];rfl
    rw[this];rfl
   refine U0 hcl ?_;have e1:WL h0 (h.set g (.row [I a,I 0] true 0)):=e0.set g1 g2 _;refine go ?_;refine Vl (i:=1) (v:= .slice (some ⟨g,0,none⟩) [a,a].length 1) (r:= .slice (some ⟨g,0,none⟩) 1 1) (by rfl) ?_;refine gr ?_;refine⟨?_,(fun a k c e=>by cases e;exact g1),e1⟩;rw[QG rfl];exact⟨rfl,.inr ⟨g,0,[I a,I 0],rfl,by unfold zt;rw[zU,QG rfl],by rfl,g2⟩⟩
  ·have hab:a≠b:=fun e=>hd (by simp[List.getD,e]);refine go ?_;exact zA 2 (by omega) ⟨rfl,WN,.inr ⟨rfl,hab⟩⟩
 ·refine gr ?_
  have:a≠b:=by rcases hi with rfl|⟨_,h⟩;. exact absurd hc (by simp)
               ·exact h
  exact⟨by rw[QC this];exact s,fr,e0⟩
theorem zKE(h:WG)(x:B2):
  WC Tryz.prog tb 179 [.agg #[.int .u8 x.kind,I x.a,I x.to,I x.els]] h fun r h'=>Wd h' r (YR x)/\Bw h r/\WL h h':=by
 refine en ?_;refine VG ?_;intro p h1 e1 o1;refine go ?_;refine VD (fun hb=> ?_) (fun hb=> ?_)<;>simp only[DB]at hb<;>refine go ?_
 ·refine WO.bl [x.to] ?_;intro v h2 e2 o2;refine gr ?_;refine⟨?_,(zFE o2).since e1.n,e1.trans e2⟩;rw[YR,QG hb];exact o2.sl
 refine VD (fun hc=> ?_) (fun hc=> ?_)<;>simp only[DB]at hc<;>refine go ?_
 ·refine WO.bl [x.to,x.els] ?_;intro v h2 e2 o2;refine go ?_;refine VA (zJP h1 h2 v x.to x.els e2 o2) ?_;rintro r h3 ⟨s3,f3,e3⟩;refine gr ?_;refine⟨?_,f3.since e1.n,e1.trans e3⟩;rw[YR,QC hb,QG hc];exact s3
 ·refine rt ?_;refine⟨?_,(fun a k c e=>by cases e),e1⟩;rw[YR,QC hb,QC hc];exact Wd.nil _
def zF(T:List WK)(F:List Wk)(f b:Int):List Wm×Int:=
 if(Ym T F f).2≠0 then([],(Ym T F f).2)else if b<0\/((F.getD f.toNat default).blocks.length:Int)<=b then([],2)else((F.getD f.toNat default).blocks,0)
theorem zBA{T:List WK}{F:List Wk}{f:Int}(h:(Ym T F f).2=0):0<=f/\f<(F.length:Int)/\yl T F=0:=by
 have hb2:(yb T F f).2=0:=by
  unfold Ym at h;split at h
  ·rename_i hn;exact absurd h hn
  ·rename_i hn;omega
 unfold yb at hb2;split at hb2
 ·rename_i hp;exact absurd hb2 hp
 ·rename_i hp;split at hb2
  ·rename_i hc;unfold za at hc;simp at hc;exact⟨hc.1,hc.2,by omega⟩
  ·cases hb2
theorem zCe(h:WG)(vt vf:Value)(T:List WK)(F:List Wk)(f b:Int)(tt:Bx h)(hm:h.mark<=h.n)(sm:BP T F)(st:Bi h vt T)(sf:BD h vf F):
  WC Tryz.prog tb 135 [.agg #[vt,vf],I f,I b] h fun r h'=>(∃ v,r=.tuple #[v,I (zF T F f b).2]/\BW h' v (zF T F f b).1)/\WL h h':=by
 refine en ?_;refine VG ?_;intro p h1 e1 o1;refine go ?_;refine VA (zGK h1 vt vf T F f (tt.ext e1) (yJ e1 hm) sm (st.ext e1) (BD.ext sf e1)) ?_;rintro _ h2 ⟨rfl,e2⟩;have e12:=e1.trans e2;have o1:=o1.ext e2;have sf2:=BD.ext sf e12;have hF:=sm.funcs;refine go ?_;refine VD (fun hb=> ?_) (fun hb=> ?_)<;>simp only[DB]at hb<;>refine go ?_
 ·refine rt ?_;rw[show zF T F f b=([],(Ym T F f).2)from by rw[zF,QG hb]];exact⟨⟨_,rfl,Wy.nil⟩,e12⟩
 have hb0:(Ym T F f).2=0:=by omega
 have hin:=zBA hb0;obtain⟨csF,⟨vb,rfl,sb,hlb⟩,pcF,hsF⟩:=yr (i:=f.toNat) sf2 (by omega);refine VH (fun hc=> ?_) (fun hc=> ?_)<;>simp only[DB]at hc<;>refine go ?_
 ·refine rt ?_;rw[show zF T F f b=([],2)from by rw[zF,QC (by omega),QG (.inl hc)]];exact⟨⟨_,rfl,Wy.nil⟩,e12⟩
 refine VD (fun hd=> ?_) (fun hd=> ?_)<;>simp only[DB]at hd<;>refine go ?_<;>refine rt ?_
 ·rw[show zF T F f b=([],2)from by rw[zF,QC (by omega),QG (.inr hd)]];exact⟨⟨_,rfl,Wy.nil⟩,e12⟩
 ·rw[show zF T F f b=((F.getD f.toNat default).blocks,0)from by rw[zF,QC (by omega),QC (by omega)]];exact⟨⟨_,rfl,sb⟩,e12⟩
theorem ZO{T:List WK}{F:List Wk}{f b:Int}(h:(zF T F f b).2=0):0<=b/\b<((zF T F f b).1.length:Int)/\(zF T F f b).1=(F.getD f.toNat default).blocks/\(Ym T F f).2=0:=by
 unfold zF at h |-;split at h
 ·rename_i hn;exact absurd h hn
 ·rename_i hn;rw[QC hn];split at h
  ·cases h
  ·rename_i hb;rw[QC hb];exact⟨by omega,by simp only;omega,rfl,by omega⟩
end Go.Proofs.YtmilpkdhbdgjfaaGreatDoor
set_option maxRecDepth 100000
namespace Go.Proofs.YtmilpkdhbdgjfaaGreatDoor
open Go.Am
theorem zPW{l:List Int}{n:Int}{i:Nat}(h:i<l.length)(e:l.getD i 0=n):n∈l:=e▸yZ h
theorem zJH{l:List Int}{n:Int}(h:∀ i,i<l.length->l.getD i 0≠n):n∉l:=fun hn=>by
 obtain⟨i,hi,e⟩:=zAq hn;exact h i hi e
theorem zL7(h:WG)(v:Value)(l:List Int)(n:Int)(s:Wd h v l)(hl:(l.length:Int)<=9223372036854775807):
  WC Tryz.prog tb 40 [v,I n] h fun r h'=>(∃ k:Int,r=I k/\decide (0<=k)=decide (n∈l))/\h=h':=by
 refine en ?_;refine VE (fun i=>l.length-i) (fun i t h1=>h=h1/\zC t 8=I i/\i<=l.length/\∀ j,j<i->l.getD j 0≠n) 0 ?_ ?_
 ·exact⟨rfl,WN,QU _,fun j hj=>absurd hj (Ql _)⟩
 rintro i t _ hsame ⟨rfl,s8,hi,hm⟩;refine go ?_;refine VD (fun hb=> ?_) (fun hb=> ?_)<;>simp only[DB]at hb
 ·have hi':i<l.length:=by omega
  refine go ?_;refine VD (fun hc=> ?_) (fun hc=> ?_)<;>simp only[DB]at hc<;>refine go ?_
  ·refine rt ?_;exact⟨⟨i,rfl,by rw[QS (zPW hi' hc.symm)];simp⟩,rfl⟩
  ·refine zA (i+1) (by omega) ⟨rfl,BG,by omega,fun j hj=> ?_⟩;by_cases e:j=i
   ·subst e;exact fun h=>hc h.symm
   ·exact hm j (by omega)
 ·refine gr ?_;exact⟨⟨-1,rfl,by rw[QM (zJH fun j hj=>hm j (by omega))];rfl⟩,rfl⟩
theorem Y3(h:WG)(v:Value)(l:List Int)(n:Int)(s:Wd h v l)(hl:(l.length:Int)<=9223372036854775807):
  WC Tryz.prog tb 144 [v,I n] h fun r h'=>r=.bool (decide (n∈l))/\h=h':=by
 refine en ?_;refine VA (zL7 h v l n s hl) ?_;rintro _ _ ⟨⟨k,rfl,e⟩,rfl⟩;refine gr ?_;exact⟨by rw[<-e];rfl,rfl⟩
abbrev DS:=List (Int×Int)×List Int
def ZD(nx:Int->List Int):Nat->Int->DS->DS
 |0,_,s=>s
 |n+1,b,s=>if(s.1.lookup b).isSome then s else
  (((nx b).foldl (fun(t:DS) (c:Int)=>ZD nx n c t) (s.1++[(b,(s.1.length:Int))],s.2)).1,((nx b).foldl (fun(t:DS) (c:Int)=>ZD nx n c t) (s.1++[(b,(s.1.length:Int))],s.2)).2++[b])
def Zo(nx:Int->List Int)(n:Nat)(l:List Int)(s:DS):DS:=l.foldl (fun s c=>ZD nx n c s) s
def Ba(N:Nat)(es:List (Int×Int)):Nat:=((List.range N).filter fun(i:Nat)=>(es.lookup ((i:Nat):Int)).isNone).length
theorem zAh{es:List (Int×Int)}{b v c:Int}:(es++[(b,v)]).lookup c=match es.lookup c with|some w=>some w|none=>if c=b then some v else none:=by
 induction es with
 |nil=>
  simp only[GD,List.lookup_cons,List.lookup_nil];by_cases h:c=b
  ·subst h;simp
  ·have:(c == b)=false:=by simpa using h
   rw[this,QC h]
 |cons e es ih=>
  obtain⟨k,w⟩:=e;simp only[List.cons_append,List.lookup_cons];cases hk:(c == k)with
  |true=>rfl
  |false=>simp only;exact ih
theorem zHj{es:List (Int×Int)}{b v c:Int}(h:(es.lookup c).isSome):((es++[(b,v)]).lookup c).isSome:=by
 rw[zAh];cases hc:es.lookup c with
 |none=>rw[hc]at h;cases h
 |some w=>rfl
theorem zL3{nx:Int->List Int}:∀ (n:Nat) (b:Int) (s:DS) (c:Int),(s.1.lookup c).isSome->((ZD nx n b s).1.lookup c).isSome:=by
 intro n;induction n with
 |zero=>intro b s c h;exact h
 |succ n ih=>
  intro b s c h;unfold ZD;split
  ·exact h
  ·simp only;have:∀ (l:List Int) (s:DS),(s.1.lookup c).isSome->((l.foldl (fun s c=>ZD nx n c s) s).1.lookup c).isSome:=by
    intro l;induction l with
    |nil=>intro s h;exact h
    |cons x l ihl=>intro s h;exact ihl _ (ih x s c h)
   exact this _ _ (zHj h)
theorem zE8{nx:Int->List Int}{n:Nat}{c:Int}:∀ (l:List Int) (s:DS),(s.1.lookup c).isSome->((Zo nx n l s).1.lookup c).isSome
 |[],s,h=>h
 |x::l,s,h=>zE8 l _ (zL3 n x s c h)
theorem zKp{N:Nat}{p q:Nat->Bool}(h:∀ i,i<N->q i=true->p i=true):((List.range N).filter q).length<=((List.range N).filter p).length:=by
 rw[<-List.countP_eq_length_filter,<-List.countP_eq_length_filter];exact List.countP_mono_left fun i hi hq=>h i (GS.1 hi) hq
theorem zCO{N:Nat}{es es':List (Int×Int)}(h:∀ c,(es.lookup c).isSome->(es'.lookup c).isSome):Ba N es'<=Ba N es:=by
 unfold Ba;apply zKp;intro i _ hi;cases hc:es.lookup (i:Int)with
 |none=>rfl
 |some w=>
  have:=h i (by rw[hc];rfl);rw[Option.isNone_iff_eq_none]at hi;rw[hi]at this;cases this
theorem zDk{p q:Nat->Bool}{i:Nat}(hp:p i=true)(hq:q i=false):∀ {l:List Nat},(∀ j∈l,q j=true->p j=true)->i∈l->l.countP q<l.countP p
 |[],_,h=>by cases h
 |x::l,hl,h=>by
  have hle:l.countP q<=l.countP p:=List.countP_mono_left fun j hj hqj=>hl j (by simp[hj]) hqj;by_cases e:x=i
  ·subst e;simp only[List.countP_cons,hp,hq,Q8];simp;omega
  ·have him:i∈l:=by
    rcases GN.1 h with h|h
    ·exact absurd h.symm e
    ·exact h
   have:=zDk hp hq (l:=l) (fun j hj=>hl j (by simp[hj])) him;simp only[List.countP_cons];cases hqx:q x with
   |false=>simp;omega
   |true=>rw[hl x (by simp) hqx];simp;omega
theorem zDv{N:Nat}{es:List (Int×Int)}{b v:Int}(h:es.lookup b=none)(hb:0<=b/\b<(N:Int)):Ba N (es++[(b,v)])<Ba N es:=by
 unfold Ba;rw[<-List.countP_eq_length_filter,<-List.countP_eq_length_filter];obtain⟨i,rfl⟩:∃ i:Nat,b=i:=⟨b.toNat,by omega⟩;refine zDk (i:=i) (by simp[h]) (by simp[zAh,h]) (fun j _ hj=> ?_) (GS.2 (by omega));rw[zAh]at hj;cases hc:es.lookup (j:Int)with
 |none=>rfl
 |some w=>rw[hc]at hj;cases hj
theorem zGw{N:Nat}{es:List (Int×Int)}(h:Ba N es=0){b:Int}(hb:0<=b/\b<(N:Int)):(es.lookup b).isSome:=by
 cases hc:es.lookup b with
 |some w=>rfl
 |none=>have:=zDv (v:=0) hc hb;omega
theorem zCd{nx:Int->List Int}{N:Nat}(hin:∀ b,0<=b/\b<(N:Int)->∀ c∈nx b,0<=c/\c<(N:Int)):∀ (n:Nat) (b:Int) (s:DS),0<=b/\b<(N:Int)->(ZD nx n b s).2.length+Ba N (ZD nx n b s).1<=s.2.length+Ba N s.1:=by
 intro n;induction n with
 |zero=>intro b s _;exact QE _
 |succ n ih=>
  intro b s hb;unfold ZD;split
  ·exact QE _
  ·rename_i hns;have hnone:s.1.lookup b=none:=by
    cases hc:s.1.lookup b with
    |none=>rfl
    |some w=>rw[hc]at hns;exact absurd rfl hns
   have:∀ (l:List Int) (s:DS),(∀ c∈l,0<=c/\c<(N:Int))->(l.foldl (fun s c=>ZD nx n c s) s).2.length+Ba N (l.foldl (fun s c=>ZD nx n c s) s).1<=s.2.length+Ba N s.1:=by
    intro l;induction l with
    |nil=>intro s _;exact QE _
    |cons x l ihl=>intro s hl;exact QO (ihl _ fun c hc=>hl c (by simp[hc])) (ih x s (hl x (by simp)))
   have h1:=this (nx b) (s.1++[(b,(s.1.length:Int))],s.2) (hin b hb);have h2:=zDv (v:=(s.1.length:Int)) hnone hb;simp only[QW,QZ]at *;omega
end Go.Proofs.YtmilpkdhbdgjfaaGreatDoor
set_option maxRecDepth 100000
namespace Go.Am
section
variable {P:Program}{tab:Ww}{t:WJ Value}{h h0:WG}{ds:List Deferred}{rd:Option Nat}{l:List WH}{Q:WT->WG->Prop}{d:Nat}
theorem Vn{x y:Operand}{v w:Value}{xs ys:List Int}(hx:ev t x=v)(hy:ev t y=w)(o:Wc h0 h v xs)(s:Wd h w ys)(e0:WL h0 h)(hne:ys≠[])(hr:xs.length+ys.length<=4294967296)
  (k:∀ h',WL h0 h'->Wo h0 h' (.slice (some ⟨h.n,0,none⟩) (xs++ys).length 1) (xs++ys)->Be v h h'->WO P tab l ⟨t.set d (.slice (some ⟨h.n,0,none⟩) (xs++ys).length 1),ds,rd⟩ h' Q):WO P tab (⟨some d,none,.append 1 x y⟩::l) ⟨t,ds,rd⟩ h Q:=by
 have hsrc:=ZH s;have hroom:room=4294967296:=rfl;obtain⟨z,zs,rfl⟩:∃ z zs,ys=z::zs:=by
  cases ys with
  |nil=>exact absurd rfl hne
  |cons z zs=>exact⟨z,zs,rfl⟩
 have hone:zH (I z::zs.map I)=true:=zBv (z::zs);have hlen:(I z::zs.map I).length / 1=(z::zs).length:=by simp
 rcases o with⟨rfl,rfl⟩|⟨g,g1,g2,rfl,g3⟩
 ·have h1:Nat.ble (z::zs).length room=true:=QF (by rw[hroom];simpa using hr);refine WO.op (.slice (some ⟨h.n,0,none⟩) (z::zs).length 1) (h.push (.row ((z::zs).map I) true 0)) rfl ?_ (k _ (e0.push _) ⟨h.n,e0.n,by simp[WG.push],rfl,zZ _ _⟩ ⟨GO _,fun k hk _=> ?_⟩)
  ·simp only[WP,hx,hy,zz,hsrc,Q6,hone,hlen,h1,QV,cond_true,QT];rfl
  ·rw[zX,QC (by omega)]
 ·have h1:Nat.ble (xs.length+(z::zs).length) room=true:=QF (by rw[hroom];exact hr);have h2:cut (xs.map I) 0 (xs.length*1)=some (xs.map I):=by rw[yu (by simp)];simp[Qn]
  have hn:(h.kill g).n=h.n:=rfl;have h3:Nat.ble 0 (0+xs.length*1)=true:=QF (QU _);have hl:xs.length+(z::zs).length=(xs++z::zs).length:=(QW ..).symm;refine WO.op (.slice (some ⟨h.n,0,none⟩) (xs++z::zs).length 1) ((h.kill g).push (.row (xs.map I++(z::zs).map I) true (0-0))) rfl ?_
   (k _ ((e0.kill g1).push _) ⟨h.n,e0.n,by simp[WG.push,WG.kill],rfl,?_⟩ ⟨GO _,fun k hk hv=> ?_⟩)
  ·rw[<-hl];simp only[WP,hx,hy,zz,hsrc,Q6,hone,hlen,h1,g3,h2,h3,QV,cond_true,QT];rfl
  ·have:=zZ (h.kill g) (.row (xs.map I++(z::zs).map I) true (0-0));rw[hn]at this;rw[this];simp
  ·rw[zX,QC (by rw[hn];omega),ye,QC (fun e=>hv _ _ _ rfl e.symm)]
end
end Go.Am
namespace Go.Proofs.YtmilpkdhbdgjfaaGreatDoor
open Go.Am
def zQN(p vm vd:Value)(g:Nat):Prop:=p≠ .pointer (some ⟨g,0,none⟩)/\vm≠ .map (some g)/\∀ a n c,vd=.slice (some a) n c->a.block≠g
structure WS(hB h:WG)(p vl vm vd:Value)(s:DS):Prop where
 own:WI hB h p [vl,vm,vd]
 map:BN hB h vm s.1
 dn:Wc hB h vd s.2
 ext:WL hB h
def BF(h h':WG)(p vm vd vd':Value):Prop:=h.n<=h'.n/\∀ g,g<h.n->zQN p vm vd g->h'.get g=h.get g/\zQN p vm vd' g
theorem BF.refl(h:WG)(p vm vd:Value):BF h h p vm vd vd:=⟨QE _,fun _ _ n=>⟨rfl,n⟩⟩
theorem BF.trans{h h1 h2:WG}{p vm vd vd1 vd2:Value}(a:BF h h1 p vm vd vd1)(b:BF h1 h2 p vm vd1 vd2):BF h h2 p vm vd vd2:=
 ⟨QO a.1 b.1,fun g hg nw=>let⟨x,y⟩:=a.2 g hg nw;let⟨u,v⟩:=b.2 g (QK hg a.1) y;⟨u.trans x,v⟩⟩
theorem BF.ext{h h':WG}(e:WL h h')(p vm vd:Value):BF h h' p vm vd vd:=⟨e.n,fun g hg n=>⟨e.get g hg,n⟩⟩
def Off(h:WG)(p vm vd v:Value)(l:List Int):Prop:=l=[]\/∃ g off,v=.slice (some ⟨g,off,none⟩) l.length 1/\g<h.n/\zQN p vm vd g
theorem zML{h h':WG}{v:Value}(s:Wd h v []):Wd h' v []:=by
 refine⟨rfl,.inl ⟨rfl,?_⟩⟩;rcases s.2 with⟨_,hv⟩|⟨g,off,row,hv,_⟩
 ·exact hv
 ·exact .inr ⟨_,_,hv⟩
theorem BF.sl{h h':WG}{p vm vd vd' v:Value}{l:List Int}(k:BF h h' p vm vd vd')(s:Wd h v l)(o:Off h p vm vd v l):Wd h' v l/\Off h' p vm vd' v l:=by
 rcases o with rfl|⟨g,off,rfl,hg,nw⟩
 ·exact⟨zML s,.inl rfl⟩
 ·obtain⟨e1,e2⟩:=k.2 g hg nw;refine⟨⟨s.1,?_⟩,.inr ⟨g,off,rfl,QK hg k.1,e2⟩⟩;rcases s.2 with⟨h0,hv⟩|⟨g',off',row,hv,hr,hc,hl⟩
  ·exact .inl ⟨h0,hv⟩
  ·cases hv;exact .inr ⟨g,off,row,rfl,by unfold zt at *;rw[e1];exact hr,hc,QK hg k.1⟩
theorem zLo{hB h h2:WG}{p vl vm vd v:Value}{s:DS}{l:List Int}(w:WS hB h p vl vm vd s)(f:Bw h v)(sl:Wd h2 v l):Off h2 p vm vd v l:=by
 rcases sl.2 with⟨h0,hv⟩|⟨g,off,row,hv,hr,hc,hl⟩
 ·exact .inl (GR.1 h0)
 ·refine .inr ⟨g,off,hv,hl,?_⟩;have hg:h.n<=g:=f _ _ _ hv;obtain⟨g1,_,a1,rfl,_⟩:=w.own;obtain⟨g2,_,_,_,a2,rfl,_⟩:=w.map;refine⟨fun e=>by cases e;omega,fun e=>by cases e;omega,fun a n c e he=> ?_⟩;rcases w.dn with⟨rfl,_⟩|⟨g3,_,a3,rfl,_⟩
  ·cases e
  ·cases e;simp only at he;omega
theorem zFq{h0 h1 h:WG}{p v:Value}{a:Option Addr}{n k:Nat}{cs:List Value}{xs:List Int}(o:WI h0 h p (.slice a n k::cs))(i:Wc h1 h v xs):∀ b m c,v=.slice (some b) m c->p≠ .pointer (some ⟨b.block,0,none⟩):=by
 intro b m c hv hp;obtain⟨g,_,_,rfl,hg⟩:=o;rcases i with⟨rfl,_⟩|⟨g2,_,_,rfl,hg2⟩
 ·cases hv
 ·cases hv;cases hp;rw[hg]at hg2;cases xs with
  |nil=>cases hg2
  |cons x xs=>cases hg2
theorem WI.upd{h0 h h':WG}{p v:Value}{a:Option Addr}{n k:Nat}{cs:List Value}{xs:List Int}(o:WI h0 h p (.slice a n k::cs))(i:Wc h0 h v xs)(u:Be v h h'):WI h0 h' p (.slice a n k::cs):=by
 have hne:=zFq o i;obtain⟨g,g1,g2,rfl,hg⟩:=o;exact⟨g,g1,QK g2 u.1,rfl,(u.2 g g2 fun b m c hv e=>hne b m c hv (by rw[e])).trans hg⟩
theorem WI.updM{h0 h h':WG}{p m:Value}{cs:List Value}{es:List (Int×Int)}(o:WI h0 h p cs)(i:BN h0 h m es)(u:zMI m h h'):WI h0 h' p cs:=by
 obtain⟨g,g1,g2,rfl,hg⟩:=o;refine⟨g,g1,QK g2 u.1,rfl,(u.2 g g2 fun e=> ?_).trans hg⟩;obtain⟨g3,_,_,_,_,rfl,h3,_⟩:=i;cases e;rw[hg]at h3;cases h3
theorem BN.updC{h0 h h':WG}{p m:Value}{cs:List Value}{es:List (Int×Int)}(i:BN h0 h m es)(o:WI h0 h p cs)(u:Wu p h h'):BN h0 h' m es:=by
 obtain⟨g3,c,es',g1,g2,rfl,h3,h4⟩:=i;refine⟨g3,c,es',g1,QK g2 u.1,rfl,(u.2 g3 g2 fun e=> ?_).trans h3,h4⟩;obtain⟨g,_,_,rfl,hg⟩:=o;cases e;rw[h3]at hg;cases hg
theorem Wo.updC{h0 h h':WG}{p v:Value}{a:Option Addr}{n k:Nat}{cs:List Value}{xs:List Int}(i:Wo h0 h v xs)(o:WI h0 h p (.slice a n k::cs))(u:Wu p h h'):Wo h0 h' v xs:=by
 have hne:=zFq o (.inr i);obtain⟨g,g1,g2,rfl,hg⟩:=i;exact⟨g,g1,QK g2 u.1,rfl,(u.2 g g2 fun e=>hne _ _ _ rfl e).trans hg⟩
def W4(L:List Wm)(b:Int):List Int:=YR (L.getD b.toNat default).fin
theorem zBP{nx:Int->List Int}{n:Nat}{b:Int}{s:DS}(h:(s.1.lookup b).isSome):ZD nx n b s=s:=by
 cases n with
 |zero=>rfl
 |succ n=>unfold ZD;rw[QG h]
theorem zJ2(hB:WG)(L:List Wm)(vl:Value)(hin:∀ b,0<=b/\b<(L.length:Int)->∀ c∈W4 L b,0<=c/\c<(L.length:Int))(n:Nat)
  (IH:∀ (h:WG) (p vm vd:Value) (s:DS) (b:Int),WS hB h p vl vm vd s->0<=b/\b<(L.length:Int)->Ba L.length s.1<=n->s.2.length+Ba L.length s.1<=L.length->
   WC Tryz.prog tb 177 [p,I b] h fun r h'=>∃ vd',WS hB h' p vl vm vd' (ZD (W4 L) n b s)/\BF h h' p vm vd vd')
  (h:WG) (p vm vd nlv:Value) (s:DS) (l:List Int) (w:WS hB h p vl vm vd s) (sl:Wd h nlv l) (hl:(l.length:Int)<=1000) (o:Off h p vm vd nlv l) (hr:∀ c∈l,0<=c/\c<(L.length:Int)) (hu:Ba L.length s.1<=n) (hd:s.2.length+Ba L.length s.1<=L.length):
  WC Tryz.prog tb 176 [p,nlv,.func (.func 177) #[] #[]] h fun r h'=>∃ vd',WS hB h' p vl vm vd' (Zo (W4 L) n l s)/\BF h h' p vm vd vd':=by
 refine en ?_;refine VE (fun i=>l.length-i) (fun i t h1=>zC t 10=I i/\i<=l.length/\∃ vd1,WS hB h1 p vl vm vd1 (Zo (W4 L) n (l.take i) s)/\BF h h1 p vm vd vd1) 0 ?_ ?_
 ·exact⟨WN,QU _,vd,w,BF.refl ..⟩
 rintro i t h1 hsame ⟨s10,hi,vd1,w1,k1⟩;obtain⟨sl1,o1⟩:=k1.sl sl o;refine go ?_;refine VD (fun hc=> ?_) (fun hc=> ?_)<;>simp only[DB]at hc
 ·have hi':i<l.length:=by omega
  refine go ?_;have hm:=yZ hi';have hu1:Ba L.length (Zo (W4 L) n (l.take i) s).1<=n:=QO (zCO fun c hc=>zE8 _ _ hc) hu;have hd1:(Zo (W4 L) n (l.take i) s).2.length+Ba L.length (Zo (W4 L) n (l.take i) s).1<=L.length:=by
   have:∀ (m:List Int) (s:DS),(∀ c∈m,0<=c/\c<(L.length:Int))->(Zo (W4 L) n m s).2.length+Ba L.length (Zo (W4 L) n m s).1<=s.2.length+Ba L.length s.1:=by
    intro m;induction m with
    |nil=>intro s _;exact QE _
    |cons x m ih=>intro s hm;exact QO (ih _ fun c hc=>hm c (by simp[hc])) (zCd hin n x s (hm x (by simp)))
   exact QO (this _ _ fun c hc=>hr c (List.mem_of_mem_take hc)) hd
  refine VS (WV.func (IH h1 p vm vd1 _ (l.getD i 0) w1 (hr _ hm) hu1 hd1)) ?_;rintro r h2 ⟨vd2,w2,k2⟩;refine go ?_;refine zA (i+1) (by omega) ⟨BG,by omega,vd2,?_,k1.trans k2⟩;have e:Zo (W4 L) n (l.take (i+1)) s=ZD (W4 L) n (l.getD i 0) (Zo (W4 L) n (l.take i) s):=by
   unfold Zo;rw[GM,List.foldl_append];simp[List.getD,QB hi']
  rw[e];exact w2
 ·refine go ?_;refine rtN ?_;have:i=l.length:=by omega
  subst this;rw[Gf]at w1;exact⟨vd1,w1,k1⟩
end Go.Proofs.YtmilpkdhbdgjfaaGreatDoor
set_option maxRecDepth 100000
namespace Go.Proofs.YtmilpkdhbdgjfaaGreatDoor
open Go.Am
section
variable {t:WJ Value}
theorem zQU{x:Operand}{v:Value}(hx:WR t x v:=by first|with_reducible exact WR.const|((with_reducible apply WR.tmp);(repeat (first|((with_reducible apply Vb);rfl)|((with_reducible apply Wq.same);(with_reducible assumption);rfl)));first|with_reducible exact Wq.here|with_reducible assumption|(unfold Wq;with_reducible assumption))|with_reducible exact WR.fn|with_reducible exact XC|fail):ev t x=v:=hx
end
theorem zGy(x:B2):(YR x).length<=2:=by
 unfold YR;split
 ·simp
 ·split
  ·split<;>simp
  ·simp
theorem zFz{h0 h:WG}{p:Value}{cs:List Value}(o:WI h0 h p cs):∃ g,p=.pointer (some ⟨g,0,none⟩):=let⟨g,_,_,e,_⟩:=o;⟨g,e⟩
theorem zKe{hB h h':WG}{p vl vm vd:Value}(u:zMI vm h h'):BF h h' p vm vd vd:=⟨u.1,fun g hg n=>⟨u.2 g hg n.2.1,n⟩⟩
theorem zNB{h h':WG}{p vm vd:Value}{q:Nat}{k c:Nat}(u:Be vd h h')(hq:q=h.n):BF h h' p vm vd (.slice (some ⟨q,0,none⟩) k c):=
 ⟨u.1,fun g hg n=>⟨u.2 g hg n.2.2,n.1,n.2.1,fun a k c e=>by cases e;simp only;omega⟩⟩
theorem zLY{h h':WG}{p vm vd:Value}(u:Wu p h h'):BF h h' p vm vd vd:=⟨u.1,fun g hg n=>⟨u.2 g hg n.1,n⟩⟩
theorem zMw(hB:WG)(hmB:hB.mark<=hB.n)(L:List Wm)(vl:Value)(bl:BW hB vl L)(hL:L.length<=1000)(hin:∀ b,0<=b/\b<(L.length:Int)->∀ c∈W4 L b,0<=c/\c<(L.length:Int)):∀ (n:Nat) (h:WG) (p vm vd:Value) (s:DS) (b:Int),WS hB h p vl vm vd s->0<=b/\b<(L.length:Int)->Ba L.length s.1<=n->s.2.length+Ba L.length s.1<=L.length->
   WC Tryz.prog tb 177 [p,I b] h fun r h'=>∃ vd',WS hB h' p vl vm vd' (ZD (W4 L) n b s)/\BF h h' p vm vd vd':=by
 obtain⟨la,ln,lk,hvl⟩:=zQ bl;subst hvl;intro n;induction n with
 |zero=>
  intro h p vm vd s b w hb hu hd;obtain⟨v,hv⟩:=Option.isSome_iff_exists.1 (zGw (Nat.le_zero.1 hu) hb);obtain⟨gp,rfl⟩:=zFz w.own;have wo:=w.own;have wm:=w.map;refine en ?_;refine rt ?_;exact⟨vd,w,BF.refl ..⟩
 |succ n IH=>
  intro h p vm vd s b w hb hu hd;obtain⟨gp,rfl⟩:=zFz w.own;have wo:=w.own;have wm:=w.map;refine en ?_;cases hv:s.1.lookup b with
  |some v=>
   refine gr ?_;exact⟨vd,by rw[zBP (by rw[hv];rfl)];exact w,BF.refl ..⟩
  |none=>
   have hlt:=zDv (v:=(s.1.length:Int)) hv hb;refine go ?_;refine VC 0 rfl rfl ?_;have o1:WI hB (inC (zB 0 h)) (.pointer (some ⟨gp,0,none⟩)) [.slice la ln lk,vm,vd]:=wo;have m1:BN hB (inC (zB 0 h)) vm s.1:=wm;refine Wg ?_;have hmk:h.mark<=hB.n:=by rw[w.ext.mark];exact hmB
   refine We.upd wm w.ext hmk hv ?_;intro h1 e1 wm1 u1;have wo1:=WI.updM wo wm u1;have wd1:=w.dn.updM wm u1;have k1:BF h h1 (.pointer (some ⟨gp,0,none⟩)) vm vd vd:=zKe (hB:=hB) (vl:=vm) u1;clear o1 m1 wo wm;obtain⟨i,rfl⟩:∃ i:Nat,b=i:=⟨b.toNat,by omega⟩;have bl1:=BW.ext bl e1;obtain⟨csB,⟨vi,rfl,si,hli⟩,pcB,hsB⟩:=yr (i:=i) bl1 (by omega);refine go ?_;refine VA (zKE h1 _) ?_;rintro r h2 ⟨s2,f2,e2⟩;have wo2:=wo1.ext e2;have wm2:=wm1.ext e2;have wd2:=wd1.ext e2;have e02:=e1.trans e2;have w1:WS hB h1 (.pointer (some ⟨gp,0,none⟩)) (.slice la ln lk) vm vd (s.1++[((i:Int),(s.1.length:Int))],s.2):=⟨wo1,wm1,wd1,e1⟩;have w2:WS hB h2 (.pointer (some ⟨gp,0,none⟩)) (.slice la ln lk) vm vd (s.1++[((i:Int),(s.1.length:Int))],s.2):=⟨wo2,wm2,wd2,e02⟩;have hnx:YR (L.getD i default).fin=W4 L (i:Int):=by unfold W4;rw[Q2]
   rw[hnx]at s2;have hnl:(W4 L (i:Int)).length<=2:=by unfold W4;exact zGy _
   refine go ?_;refine VA (zJ2 hB L (.slice la ln lk) hin n IH h2 (.pointer (some ⟨gp,0,none⟩)) vm vd r _ (W4 L (i:Int)) w2 s2 (by omega) (zLo w1 f2 s2) (hin _ hb) (by simp only;omega) (by simp only at hd |-;omega)) ?_;rintro _ h3 ⟨vd3,w3,k3⟩;have wo3:=w3.own;refine go ?_;refine WO.bl [(i:Int)] ?_;intro v4 h4 e4 o4;have wd4:=w3.dn.ext e4;have e34:=w3.ext.trans e4;refine go ?_;have hbd:(Zo (W4 L) n (W4 L (i:Int)) (s.1++[((i:Int),(s.1.length:Int))],s.2)).2.length<=1000:=by
    have:∀ (m:List Int) (s:DS),(∀ c∈m,0<=c/\c<(L.length:Int))->(Zo (W4 L) n m s).2.length+Ba L.length (Zo (W4 L) n m s).1<=s.2.length+Ba L.length s.1:=by
     intro m;induction m with
     |nil=>intro s _;exact QE _
     |cons x m ih=>intro s hm;exact QO (ih _ fun c hc=>hm c (by simp[hc])) (zCd hin n x s (hm x (by simp)))
    have:=this (W4 L (i:Int)) (s.1++[((i:Int),(s.1.length:Int))],s.2) (hin _ hb);simp only at this;omega
   refine Vn (v:=vd3) (w:=v4) (by exact zQU) (by exact zQU) wd4 o4.sl e34 (by simp) (by simp only[QZ];omega) ?_;intro h5 e5 o5 u5;have wo5:=WI.upd (wo3.ext e4) wd4 u5;have wm5:=(w3.map.ext e4).upd wd4 u5;refine go ?_;refine Vj wo5 e5 ?_ (hl:=QE 3);intro h6 e6 wo6 u6;refine go ?_;refine rtN ?_;have hdf:ZD (W4 L) (n+1) (i:Int) s=((Zo (W4 L) n (W4 L (i:Int)) (s.1++[((i:Int),(s.1.length:Int))],s.2)).1,(Zo (W4 L) n (W4 L (i:Int)) (s.1++[((i:Int),(s.1.length:Int))],s.2)).2++[(i:Int)]):=by
    conv=>lhs;unfold ZD
    rw[QC (by rw[hv];exact Bool.noConfusion)];rfl
   rw[hdf];refine⟨_,⟨wo6,BN.updC wm5 wo5 u6,.inr (Wo.updC o5 wo5 u6),e6⟩,?_⟩;exact(((k1.trans (BF.ext e2 ..)).trans k3).trans (BF.ext e4 ..)).trans ((zNB u5 rfl).trans (zLY u6))
end Go.Proofs.YtmilpkdhbdgjfaaGreatDoor
set_option maxRecDepth 100000
namespace Go.Proofs.YtmilpkdhbdgjfaaGreatDoor
open Go.Am
theorem zDu(N:Nat)(es:List (Int×Int)):Ba N es<=N:=by
 unfold Ba;have:=List.length_filter_le (fun(i:Nat)=>(es.lookup ((i:Nat):Int)).isNone) (List.range N);simpa using this
theorem zJb(h:WG)(hm:h.mark<=h.n)(L:List Wm)(vl fv:Value)(l:List Int)(bl:BW h vl L)(hL:L.length<=1000)(hin:∀ b,0<=b/\b<(L.length:Int)->∀ c∈W4 L b,0<=c/\c<(L.length:Int))(sl:Wd h fv l)(hl:(l.length:Int)<=1000)(hr:∀ c∈l,0<=c/\c<(L.length:Int)):
  WC Tryz.prog tb 138 [vl,fv] h fun r h'=>Wc h h' r (Zo (W4 L) L.length l ([],[])).2/\WL h h':=by
 obtain⟨la,ln,lk,rfl⟩:=zQ bl;refine en ?_;refine WO.mkMap ?_;intro vm h1 e1 m1;obtain⟨gm,rfl⟩:∃ g,vm=.map (some g):=let⟨g,_,_,_,_,e,_⟩:=m1;⟨g,e⟩;refine go ?_;refine VG ?_;intro p h2 e2 o2;have e12:=e1.trans e2;have w2:WS h h2 p (.slice la ln lk) (.map (some gm)) (.slice none 0 0) ([],[]):=⟨o2.since e1,m1.ext e2,.inl ⟨rfl,rfl⟩,e12⟩;have hoff:Off h2 p (.map (some gm)) (.slice none 0 0) fv l:=by
  rcases sl.2 with⟨h0,hv⟩|⟨g,off,row,hv,hr,hc,hg⟩
  ·exact .inl (GR.1 h0)
  ·refine .inr ⟨g,off,hv,QK hg e12.n,?_⟩;obtain⟨g1,a1,_,hp,_⟩:=w2.own;obtain⟨g2,_,_,a2,_,hm2,_⟩:=w2.map;cases hm2;refine⟨fun e=> ?_,fun e=>by cases e;omega,fun a n c e=>by cases e⟩;rw[hp]at e;cases e;omega
 refine go ?_;refine VA (zJ2 h L (.slice la ln lk) hin L.length (fun h' p vm vd s b w hb hu hd=>zMw h hm L (.slice la ln lk) bl hL hin L.length h' p vm vd s b w hb hu hd) h2 p _ _ fv ([],[]) l w2 (sl.ext e12) hl hoff hr (zDu _ _) (by have:=zDu L.length [];simp only[Gh];omega)) ?_;rintro _ h3 ⟨vd,w3,k3⟩;obtain⟨gp,rfl⟩:=zFz w3.own;have wo3:=w3.own;refine gr ?_;exact⟨w3.dn,w3.ext⟩
theorem zJr{T:List WK}{n:Int}{f:Wk}(h:Bt T n f=true):f.blocks.length<=16/\∀ b,0<=b/\b<(f.blocks.length:Int)->∀ c∈W4 f.blocks b,0<=c/\c<(f.blocks.length:Int):=by
 unfold Bt at h;split at h
 ·cases h
 ·rename_i hbad;have hlen:f.blocks.length<=16:=by
   unfold zCL at hbad;simp only[GK,not_or,JG,Bool.not_eq_false']at hbad;have h1:za ((f.blocks.length:Int)-1) 16=true:=by simpa using hbad.1.2
   unfold za at h1;simp only[QI,QY]at h1;omega
  refine⟨hlen,fun b hb c hc=> ?_⟩;rw[Gn,Gz]at h;have hmem:=zP (l:=f.blocks) (i:=b.toNat) (by omega);have hblk:=h _ hmem;unfold zCY at hblk;simp only[GK,not_or,JG,Bool.not_eq_false']at hblk;have he:zA2 (f.blocks.getD b.toNat default).fin (szL T n f)=true:=by simpa using hblk.2
  unfold W4 YR at hc;unfold zA2 za szL at he;split at hc
  ·rename_i hk;rw[QG hk]at he;simp only[QI,QY]at he;simp only[Qd]at hc;omega
  ·rename_i hk;rw[QC hk]at he;split at hc
   ·rename_i hk2;rw[QG hk2]at he;simp only[QI,QY]at he;split at hc
    ·simp only[Qd]at hc;omega
    ·simp only[GN,List.mem_nil_iff,or_false]at hc;rcases hc with rfl|rfl<;>omega
   ·cases hc
theorem Zc{T:List WK}{F:List Wk}{f b:Int}(h:(zF T F f b).2=0):(zF T F f b).1.length<=16/\∀ c,0<=c/\c<((zF T F f b).1.length:Int)->∀ d∈W4 (zF T F f b).1 c,0<=d/\d<((zF T F f b).1.length:Int):=by
 obtain⟨_,_,h3,h4⟩:=ZO h;have hin:=zBA h4;rw[h3];exact zJr ((Z4 hin.2.2).2.2.2 _ (zP (l:=F) (i:=f.toNat) (by omega)))
end Go.Proofs.YtmilpkdhbdgjfaaGreatDoor
