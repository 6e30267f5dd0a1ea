/- Walks of functions, plain laws; proves no statement. -/
import Derived.Test.YtmilpkdhbdgjfaaGreatDoorJl
import Derived.Test.YtmilpkdhbdgjfaaGreatDoorAmE
set_option linter.all false
set_option maxHeartbeats 4000000
set_option maxRecDepth 100000
namespace Go.Proofs.YtmilpkdhbdgjfaaGreatDoor
open Go.Am
def zET(l:List Bn):Bool:=(l.take 50).any (fun x=>decide (10<x.args.length))||decide (30<l.length)
theorem zLp(h:WG)(v:Value)(l:List Bn)(s:SlA h v l)(hl:(l.length:Int)<=1152921504606846976):WC Tryz.prog tb 19 [v] h fun r h'=>r=.bool (zET l)/\h=h':=by
 obtain⟨v1,v2,v3,rfl⟩:∃ a n k,v=.slice a n k:=by
  obtain⟨_,⟨_,⟨_,e|⟨_,_,e⟩⟩|⟨_,_,_,e,_⟩⟩,_⟩:=s<;>exact⟨_,_,_,e⟩
 unfold zET;refine en ?_;refine VE (fun i=>l.length-i) (fun i t h1=>h=h1/\zC t 3=I i/\i<=l.length/\i<=50/\((l.take i).any fun x=>decide (10<x.args.length))=false) 0 ?_ ?_
 ·exact⟨rfl,WN,QU _,QU _,rfl⟩
 rintro i t _ hsame ⟨rfl,s3,hi,h50,hany⟩;by_cases hil:i<l.length;case neg=>
  have hii:i=l.length:=by omega
  have hd:¬((i:Int)<(l.length:Int)):=by omega
  rw[hii,Gf]at hany;refine go ?_;refine gr ?_;refine⟨?_,rfl⟩;rw[Qn (show l.length<=50 by omega),hany,Qj];refine congrArg Value.bool (decide_eq_decide.2 ⟨fun q=> ?_,fun q=> ?_⟩)
  ·omega
  ·omega
 by_cases hi5:i<50;case neg=>
  have hii:i=50:=by omega
  subst hii;refine go ?_;refine gr ?_;refine⟨?_,rfl⟩;rw[hany,Qj];refine congrArg Value.bool (decide_eq_decide.2 ⟨fun q=> ?_,fun q=> ?_⟩)
  ·omega
  ·omega
 obtain⟨cs,⟨va,rfl,sa,hla,hk0,hk5⟩,pc,hs⟩:=yr s hil;obtain⟨a1,a2,a3,rfl⟩:=zb sa;have htk:l.take (i+1)=l.take i++[l.getD i default]:=by rw[GM,QB hil];simp[List.getD,QB hil]
 refine go ?_;refine VD (fun hc=> ?_) (fun hc=> ?_)<;>simp only[DB]at hc
 ·refine gr ?_;refine⟨?_,rfl⟩;rw[show(l.take 50).any (fun x=>decide (10<x.args.length))=true from ?_]
  ·rfl
  rw[G3];refine⟨l.getD i default,?_,QS (by omega)⟩;rw[QL,QB hil];exact List.mem_take_iff_getElem.2 ⟨i,by omega,rfl⟩
 ·refine go ?_;refine zA (i+1) (by omega) ⟨rfl,BG,by omega,by omega,?_⟩;rw[htk,List.any_append,hany];show(decide _||false)=false;rw[Qo];exact QM (by omega)
def zBi(T:List WK)(F:List Wk):Wb->List Bn->Wb
 |a,[]=>a
 |a,x::l=>if(Yn T F a x).2≠0 then a else zBi T F (Yn T F a x).1 l
noncomputable def zBw(T:List WK)(F:List Wk)(inn:List Int)(l:List Bn):Wb×Bool:=if(Z0 T F inn).2=0 then(zBi T F (Z0 T F inn).1 l,true)else((Z0 T F inn).1,false)
theorem zMM{T:List WK}{F:List Wk}{inn:List Int}:((Z0 T F inn).2=0->yl T F=0)/\BL T F 1 (Z0 T F inn).1:=by
 unfold Z0;split
 ·rename_i hs;exact⟨fun e=>absurd e hs,VO rfl⟩
 rename_i hs;have hp:=(zEK (by simpa using hs)).1;refine⟨fun _=>hp,?_⟩;split
 ·exact VO rfl
 obtain⟨hc,hF1,hF8,hfn⟩:=Z4 hp;have hr:=zBK hp (f:=0) ⟨by omega,by omega⟩;refine⟨by simp,fun i hi=> ?_,fun i hi=> ?_⟩
 ·have hi:i=0:=by simp at hi;omega
  subst hi;refine⟨⟨Qh _,by show(0:Int)<_;omega⟩,?_⟩;show(([]++List.replicate _ v0:List Wi).length:Int)=Zx T F 0;simp;omega
 ·simp at hi
section
variable {h:WG}{vt vf:Value}{T:List WK}{F:List Wk}
theorem zKw(E:B3 h vt vf T F)(vi:Value)(inn:List Int)(si:Wd h vi inn)(hl:(inn.length:Int)<=1152921504606846976)(vx:Value)(l:List Bn)(sl:SlA h vx l)(hll:l.length<=50)(h10:∀ x∈l,x.args.length<=10):
  WC Tryz.prog tb 28 [.agg #[vt,vf],vi,vx] h fun w h'=>(∃ cs,w=.tuple #[.agg cs.toArray,.bool (zBw T F inn l).2]/\FM h.n h' cs (zBw T F inn l).1/\BL T F 51 (zBw T F inn l).1)/\WL h h':=by
 have hm:=E.hm;obtain⟨t1,t2,t3,rfl⟩:=zQ E.st;obtain⟨f1,f2,f3,rfl⟩:=zQ E.sf;obtain⟨b1,b2,b3,rfl⟩:=Wv.shape si;obtain⟨l1,l2,l3,rfl⟩:∃ a n k,vx=.slice a n k:=by
  obtain⟨_,⟨_,⟨_,e|⟨_,_,e⟩⟩|⟨_,_,_,e,_⟩⟩,_⟩:=sl<;>exact⟨_,_,_,e⟩
 obtain⟨hbp,hbo⟩:=zMM (T:=T) (F:=F) (inn:=inn);unfold zBw;refine en ?_;refine VG ?_;intro p3 h1 e1 o3;replace o3:WI h h1 p3 [.slice t1 t2 t3,.slice f1 f2 f3]:=o3;refine go ?_;refine VJ ?_;intro p6 h2 e2 o6;have hp6:=o6.within;have o3:=o3.ext e2;have e02:=e1.trans e2;refine go ?_;refine VA (zLA (E.ext e02) _ inn (si.ext e02) hl) ?_;rintro _ h3 ⟨⟨cs,rfl,fm⟩,e3⟩;have o3:=o3.ext e3;have o6:=o6.ext e3;have e03:=e02.trans e3;generalize Z0 T F inn=B at *;obtain⟨x1,x2,x3,y1,y2,y3,z1,z2,z3,w1,w2,w3,rfl⟩:=fm.shape;refine go ?_;refine VJ ?_;intro p8 h4 e4 o8;refine go ?_;refine VF (cs:=mC (.slice x1 x2 x3) (.slice y1 y2 y3) (.slice z1 z2 z3) (.slice w1 w2 w3) _) o8 e4 ?_;intro h5 e5 o8' u8;obtain⟨g8,g8a,g8b,rfl,g8c⟩:=id o8';by_cases hB:B.2=0;case neg=>
  rw[QC hB];refine go ?_;refine VE (fun i=>1-i) (fun i t h'=>i=0/\h'=h5/\zC t 10=I 0) 0 ?_ ?_
  ·exact⟨rfl,rfl,WN⟩
  rintro i t h6 hsame ⟨rfl,hh,s10⟩;subst hh;have sl6:=SlA.ext sl (e03.trans e5);by_cases h0:(0:Int)<(l.length:Int)
  ·refine go ?_;refine VF (cs:=mC (.slice x1 x2 x3) (.slice y1 y2 y3) (.slice z1 z2 z3) (.slice w1 w2 w3) B.1) (o6.ext e5) ((e2.trans e3).trans e5) ?_;intro h13 e13 o13 u13;refine go ?_;refine rt ?_ (VL WN o13 rfl (W0.cons WN W0.nil));refine⟨⟨_,by rw[QM hB];rfl,?_,?_⟩,e1.trans e13⟩
   ·refine(fm.upd (fun k k1 k2=>(u13.2 k (by have:=e5.n;omega) (fun e=> ?_)).trans (e5.get k k2)) (by have:=u13.1;have:=e5.n;omega)).base (by have:=e02.n;omega);have:=hp6 k (by rw[e];rfl);omega
   ·exact hbo.mono (by omega)
  ·refine go ?_;refine VF (cs:=mC (.slice x1 x2 x3) (.slice y1 y2 y3) (.slice z1 z2 z3) (.slice w1 w2 w3) B.1) (o6.ext e5) ((e2.trans e3).trans e5) ?_;intro h13 e13 o13 u13;refine go ?_;refine rt ?_ (VL WN o13 rfl (W0.cons WN W0.nil));refine⟨⟨_,by rw[QM hB];rfl,?_,?_⟩,e1.trans e13⟩
   ·refine(fm.upd (fun k k1 k2=>(u13.2 k (by have:=e5.n;omega) (fun e=> ?_)).trans (e5.get k k2)) (by have:=u13.1;have:=e5.n;omega)).base (by have:=e02.n;omega);have:=hp6 k (by rw[e];rfl);omega
   ·exact hbo.mono (by omega)
 rw[QG hB];have hp:=hbp hB;rw[hB];refine go ?_;refine VE (fun i=>l.length-i) (fun i t h'=>∃ cs a bb hF,(WL h3 h'/\WI h3 h' (.pointer (some ⟨g8,0,none⟩)) cs)/\(FM bb hF cs a/\(∀ k,bb<=k->k<hF.n->h'.get k=hF.get k)/\hF.n<=h'.n/\¬(bb<=g8/\g8<hF.n)/\h2.n<=bb)/\(zC t 10=I i/\i<=l.length)/\BL T F (1+i) a/\zBi T F a (l.drop i)=zBi T F B.1 l) 0 ?_ ?_
 ·exact⟨_,B.1,h2.n,h3,⟨e5,g8,g8a,g8b,rfl,g8c⟩,⟨fm,fun k _ hk=>e5.get k hk,e5.n,by omega,QE _⟩,⟨WN,QU _⟩,hbo,rfl⟩
 rintro i t h10' hsame ⟨cs,a,bb,hF,⟨e310,o810⟩,⟨fmF,kF,nF,ngF,bF⟩,⟨s10,hi⟩,ok,hst⟩;obtain⟨m1,m2,m3,n1,n2,n3,i1,i2,i3,v1,v2,v3,rfl⟩:=fmF.shape;have fm10:=fmF.upd kF nF;have e010:=e03.trans e310;have sl10:=SlA.ext sl e010;have E10:=E.ext e010;have o3:=o3.ext e310;by_cases hil:i<l.length;case neg=>
  have hii:i=l.length:=by omega
  rw[hii,List.drop_length]at hst;have hst:a=zBi T F B.1 l:=hst;refine go ?_;refine VF (cs:=mC (.slice m1 m2 m3) (.slice n1 n2 n3) (.slice i1 i2 i3) (.slice v1 v2 v3) a) (o6.ext e310) ((e2.trans e3).trans e310) ?_;intro h13 e13 o13 u13;refine go ?_;refine rt ?_ (VL WN o13 rfl (W0.cons WN W0.nil));refine⟨⟨_,rfl,?_,?_⟩,e1.trans e13⟩
  ·rw[<-hst];refine(fmF.upd (fun k k1 k2=>(u13.2 k (by omega) (fun e=> ?_)).trans (kF k k1 k2)) (by have:=u13.1;omega)).base (by have:=e02.n;omega);have:=hp6 k (by rw[e];rfl);omega
  ·rw[<-hst];exact ok.mono (by omega)
 have hxm:l.getD i default∈l:=zP hil;have h10x:=h10 _ hxm;obtain⟨cx,rx,pcx,hsx⟩:=zd sl10 (i:=i) hil;obtain⟨va,rfl,-⟩:=id rx;have hdr:l.drop i=l.getD i default::l.drop (i+1):=by rw[GJ hil];simp[List.getD,QB hil]
 generalize l.getD i default=x at *;have o3Y:WI h (inC (zB 1 h10')) p3 [.slice t1 t2 t3,.slice f1 f2 f3]:=VX (o3.ext (zO 1 h10'));have o8Y:WI h3 (inC (zB 1 h10')) (.pointer (some ⟨g8,0,none⟩)) (mC (.slice m1 m2 m3) (.slice n1 n2 n3) (.slice i1 i2 i3) (.slice v1 v2 v3) a):=VX (o810.ext (zO 1 h10'));have slZ:=SlA.ext sl10 (zO 1 h10');have slY:SlA (inC (zB 1 h10')) (.slice l1 l2 l3) l:=slZ;have pcY:Wl (inC (zB 1 h10')) _ _ _:=(pcx _ (zO 1 h10')).2;refine go ?_;refine VC 1 rfl rfl ?_;refine Wg ?_;have fmY:FM bb (inC (zB 1 h10')) (mC (.slice m1 m2 m3) (.slice n1 n2 n3) (.slice i1 i2 i3) (.slice v1 v2 v3) a) a:=fm10.upd (fun k _ hk=>(zO 1 h10').get k hk) (zO 1 h10').n;have rxZ:=rx.ext (zO 1 h10');have rxY:RAct (inC (zB 1 h10')) _ x:=rxZ;refine VA (zPm (E10.as 1) hp _ a fmY ok (by omega) _ x rxY h10x) ?_;rintro _ X ⟨⟨cs',rfl,fmX⟩,eX⟩;refine nE eX ?_;refine Wg ?_;obtain⟨x1',x2',x3',y1',y2',y3',z1',z2',z3',w1',w2',w3',rfl⟩:=fmX.shape;have hm10:h10'.mark<=h10'.n:=by rw[e010.mark];exact QO hm e010.n
 have hnX:h10'.n+1<=X.n:=eX.n;refine We.mk (ob:= .row [.slice none 0 0,.slice none 0 0,.slice none 0 0,I 0,.slice none 0 0,I 0,I 0,.int .u8 0,I 0,I 0] true 0) (f:=fun g=> .pointer (some ⟨g,0,none⟩)) hm10 rfl ?_;refine We.inC ?_;refine XI (q:=h10'.n) (row:=[.slice none 0 0,.slice none 0 0,.slice none 0 0,I 0,.slice none 0 0,I 0,I 0,.int .u8 0,I 0,I 0]) (off:=0) (cs:=mC (.slice x1' x2' x3') (.slice y1' y2' y3') (.slice z1' z2' z3') (.slice w1' w2' w3') (Yn T F a x).1) (by rw[zDZ,QG rfl]) hm10 ?_ (QE 10);intro Y nY kY gY wY cl';have nY:Y.n=X.n:=nY;have kY:∀ k,k≠h10'.n->Y.get k=X.get k:=fun k hk=>(kY k hk).trans (by rw[zDZ,QC hk]);have gY:Y.get h10'.n=some (.row (mC (.slice x1' x2' x3') (.slice y1' y2' y3') (.slice z1' z2' z3') (.slice w1' w2' w3') (Yn T F a x).1) true 0):=gY;have e11:WL h10' (zx h10' (inC Y)):=⟨by show h10'.n<=Y.n;omega,fun k hk=>(kY k (by omega)).trans ((eX.get k (by show k<h10'.n+1;omega)).trans ((zO 1 h10').get k hk)),fun w=>wY (fun j hj=>by
   have hj:X.n<=j:=hj;rw[zDZ,QC (by omega)];exact eX.wf ((zO 1 h10').wf w) j hj),rfl,fun _=>rfl⟩
 have o11:WI h10' (zx h10' (inC Y)) (.pointer (some ⟨h10'.n,0,none⟩)) (mC (.slice x1' x2' x3') (.slice y1' y2' y3') (.slice z1' z2' z3') (.slice w1' w2' w3') (Yn T F a x).1):=⟨h10'.n,QE _,by show h10'.n<Y.n;omega,rfl,gY⟩;have fk:∀ k,(inC (zB 1 h10')).n<=k->k<X.n->(zx h10' (inC Y)).get k=X.get k:=fun k k1 _=>kY k (by have k1:h10'.n+1<=k:=k1;omega);have fn:X.n<=(zx h10' (inC Y)).n:=Nat.le_of_eq nY.symm;refine Wg ?_;generalize zx h10' (inC Y)=h11 at *;have e311:=e310.trans e11;have o811:=o810.ext e11;refine go ?_;rw[hdr]at hst;have hst:(if(Yn T F a x).2≠0 then a else zBi T F (Yn T F a x).1 (l.drop (i+1)))=zBi T F B.1 l:=hst;refine VD (fun hc=> ?_) (fun hc=> ?_)<;>simp only[DB]at hc
 ·rw[QG hc]at hst;have hn11:=e11.n;refine go ?_;refine VF (cs:=mC (.slice m1 m2 m3) (.slice n1 n2 n3) (.slice i1 i2 i3) (.slice v1 v2 v3) a) (o6.ext e311) ((e2.trans e3).trans e311) ?_;intro h13 e13 o13 u13;refine go ?_;refine rt ?_ (VL WN o13 rfl (W0.cons WN W0.nil));refine⟨⟨_,rfl,?_,?_⟩,e1.trans e13⟩
  ·rw[<-hst];refine(fmF.upd (fun k k1 k2=>(u13.2 k (by omega) (fun e=> ?_)).trans ((e11.get k (by omega)).trans (kF k k1 k2))) (by have:=u13.1;omega)).base (by have:=e02.n;omega);have:=hp6 k (by rw[e];rfl);omega
  ·rw[<-hst];exact ok.mono (by omega)
 ·rw[QC (fun q=>q hc)]at hst;refine go ?_;refine VF (cs:=mC (.slice x1' x2' x3') (.slice y1' y2' y3') (.slice z1' z2' z3') (.slice w1' w2' w3') (Yn T F a x).1) o811 e311 ?_;intro h12 e12 o12 u12;have hg8:=o810.within g8 rfl;refine go ?_;exact zA (i+1) (by omega) ⟨_,(Yn T F a x).1,h10'.n+1,X,⟨e12,o12⟩,⟨fmX,fun k k1 k2=>(u12.2 k (by omega) (fun e=>by cases e;omega)).trans (fk k k1 k2),by have:=u12.1;omega,by omega,by have:=e3.n;have:=e310.n;omega⟩,⟨BG,by omega⟩,zPp hp ok x,hst⟩
end
set_option maxRecDepth 1000000 in
theorem zK8:(zLC Tryz.prog (zGI Tryz.prog) 400).call 17 [] (YY Tryz.prog.globals.size [(0,ZM)]) (fun v _=>some v)=some (.bool true):=by kernel_rfl
theorem zL2:((BJ Tryz.prog (zGI Tryz.prog) 400).call 17 [] (YY Tryz.prog.globals.size [(0,ZM)])).map (·.1)=some (.bool true):=zNL zK8
set_option maxRecDepth 1000000 in
theorem zF7:([(0,ZM)]:List (Nat×List Value)).all (fun x=>Nat.ble (x.1+1) Tryz.prog.globals.size&&yz x.2)=true:=by kernel_rfl
set_option maxRecDepth 1000000 in
theorem tb_ok:tb.Ok Tryz.prog where
 code:=fun _ _ h=>h
 stub:=fun f s hs=>by
  have hs:(if f=17 then some (zAt [(0,ZM)] (.bool true))else none)=some s:=hs;split at hs
  ·rename_i e;subst e;cases hs;exact zHG Tryz.checked.mixed (zIr _) rfl (fun x hx=>by
    have h1:=QX.1 zF7 x hx;rw[QI]at h1;exact⟨QP h1.1,h1.2⟩) zL2
  ·cases hs
 grow:=fun f s hs args h v h' hk=>by
  have hs:(if f=17 then some (zAt [(0,ZM)] (.bool true))else none)=some s:=hs;split at hs
  ·cases hs;exact zIN args h v h' hk
  ·cases hs
section
variable {H:Type}{h:WG}
theorem zP6{n:Int}(h:(Lit.int .i64 n).wf=true): -9223372036854775808<=n/\n<=9223372036854775807:=by
 simp[Lit.wf,IntKind.wrap,IntKind.signed,IntKind.bits]at h;have h1:IntKind.min .i64= -9223372036854775808:=by decide
 have h2:IntKind.max .i64=9223372036854775807:=by decide
 omega
theorem zGc(cs:List Value)(d:DataW H)(r:Rd Tryz.prog h 37 cs d)(hw:BC Tryz.prog 37 d):∃ a:Wi,cs=[.int .u8 a.kind,I a.n,I a.block,I a.pos]/\ -9223372036854775808<=a.block/\a.block<=9223372036854775807:=by
 obtain⟨hl,hr⟩:=ZV r Tryz.underlying37 hw;have hc:Tryz.prog.cellsOf 37=4:=by kernel_rfl
 rw[hc]at hl;obtain⟨x0,x1,x2,x3,rfl⟩:∃ x0 x1 x2 x3,cs=[x0,x1,x2,x3]:=by
  exact zPo hl
 obtain⟨d0,r0,w0⟩:=hr 0 _ rfl;have c0:Tryz.prog.cellsOf 5=1:=by kernel_rfl
 replace r0:Rd Tryz.prog h 5 (([x0,x1,x2,x3].drop 0).take (Tryz.prog.cellsOf 5)) d0:=r0;replace w0:BC Tryz.prog 5 d0:=w0;rw[c0]at r0;replace r0:Rd Tryz.prog h 5 [x0] d0:=r0;obtain⟨d1,r1,w1⟩:=hr 1 _ rfl;have c1:Tryz.prog.cellsOf 2=1:=by kernel_rfl
 replace r1:Rd Tryz.prog h 2 (([x0,x1,x2,x3].drop 1).take (Tryz.prog.cellsOf 2)) d1:=r1;replace w1:BC Tryz.prog 2 d1:=w1;rw[c1]at r1;replace r1:Rd Tryz.prog h 2 [x1] d1:=r1;obtain⟨d2,r2,w2⟩:=hr 2 _ rfl;have c2:Tryz.prog.cellsOf 3=1:=by kernel_rfl
 replace r2:Rd Tryz.prog h 3 (([x0,x1,x2,x3].drop 2).take (Tryz.prog.cellsOf 3)) d2:=r2;replace w2:BC Tryz.prog 3 d2:=w2;rw[c2]at r2;replace r2:Rd Tryz.prog h 3 [x2] d2:=r2;obtain⟨d3,r3,w3⟩:=hr 3 _ rfl;have c3:Tryz.prog.cellsOf 3=1:=by kernel_rfl
 replace r3:Rd Tryz.prog h 3 (([x0,x1,x2,x3].drop 3).take (Tryz.prog.cellsOf 3)) d3:=r3;replace w3:BC Tryz.prog 3 d3:=w3;rw[c3]at r3;replace r3:Rd Tryz.prog h 3 [x3] d3:=r3;obtain⟨k,e0,f0⟩:=yt r0 Tryz.underlying5;cases e0;obtain⟨n,e1,f1⟩:=yt r1 Tryz.underlying2;cases e1;obtain⟨b,e2,f2⟩:=yt r2 Tryz.underlying3;cases e2;obtain⟨p,e3,f3⟩:=yt r3 Tryz.underlying3;cases e3;exact⟨⟨k,n,b,p⟩,rfl,zP6 f2⟩
theorem zQL(cs:List Value)(d:DataW H)(r:Rd Tryz.prog h 37 cs d)(hw:BC Tryz.prog 37 d):∃ a,W5 h cs a:=let⟨a,e,_⟩:=zGc cs d r hw;⟨a,e⟩
theorem zQ1{cs:List Value}(h:cs.length=8):∃ x0 x1 x2 x3 x4 x5 x6 x7,cs=[x0,x1,x2,x3,x4,x5,x6,x7]:=by
 match cs,h with
 |[a,b,c,d,e,f,g,i],_=>exact⟨_,_,_,_,_,_,_,_,rfl⟩
theorem zP5(cs:List Value)(d:DataW H)(r:Rd Tryz.prog h 58 cs d)(hw:BC Tryz.prog 58 d):∃ a,RAct h cs a:=by
 obtain⟨hl,hr⟩:=ZV r Tryz.underlying58 hw;have hc:Tryz.prog.cellsOf 58=8:=by kernel_rfl
 rw[hc]at hl;obtain⟨x0,x1,x2,x3,x4,x5,x6,x7,rfl⟩:∃ x0 x1 x2 x3 x4 x5 x6 x7,cs=[x0,x1,x2,x3,x4,x5,x6,x7]:=by
  exact zQ1 hl
 obtain⟨d0,r0,w0⟩:=hr 0 _ rfl;have c0:Tryz.prog.cellsOf 5=1:=by kernel_rfl
 replace r0:Rd Tryz.prog h 5 (([x0,x1,x2,x3,x4,x5,x6,x7].drop 0).take (Tryz.prog.cellsOf 5)) d0:=r0;replace w0:BC Tryz.prog 5 d0:=w0;rw[c0]at r0;replace r0:Rd Tryz.prog h 5 [x0] d0:=r0;obtain⟨d1,r1,w1⟩:=hr 1 _ rfl;have c1:Tryz.prog.cellsOf 3=1:=by kernel_rfl
 replace r1:Rd Tryz.prog h 3 (([x0,x1,x2,x3,x4,x5,x6,x7].drop 1).take (Tryz.prog.cellsOf 3)) d1:=r1;replace w1:BC Tryz.prog 3 d1:=w1;rw[c1]at r1;replace r1:Rd Tryz.prog h 3 [x1] d1:=r1;obtain⟨d2,r2,w2⟩:=hr 2 _ rfl;have c2:Tryz.prog.cellsOf 3=1:=by kernel_rfl
 replace r2:Rd Tryz.prog h 3 (([x0,x1,x2,x3,x4,x5,x6,x7].drop 2).take (Tryz.prog.cellsOf 3)) d2:=r2;replace w2:BC Tryz.prog 3 d2:=w2;rw[c2]at r2;replace r2:Rd Tryz.prog h 3 [x2] d2:=r2;obtain⟨d3,r3,w3⟩:=hr 3 _ rfl;have c3:Tryz.prog.cellsOf 37=4:=by kernel_rfl
 replace r3:Rd Tryz.prog h 37 (([x0,x1,x2,x3,x4,x5,x6,x7].drop 3).take (Tryz.prog.cellsOf 37)) d3:=r3;replace w3:BC Tryz.prog 37 d3:=w3;rw[c3]at r3;replace r3:Rd Tryz.prog h 37 [x3,x4,x5,x6] d3:=r3;obtain⟨d4,r4,w4⟩:=hr 4 _ rfl;have c4:Tryz.prog.cellsOf 46=1:=by kernel_rfl
 replace r4:Rd Tryz.prog h 46 (([x0,x1,x2,x3,x4,x5,x6,x7].drop 7).take (Tryz.prog.cellsOf 46)) d4:=r4;replace w4:BC Tryz.prog 46 d4:=w4;rw[c4]at r4;replace r4:Rd Tryz.prog h 46 [x7] d4:=r4;obtain⟨k,e0,f0⟩:=yt r0 Tryz.underlying5;cases e0;obtain⟨n,e1,f1⟩:=yt r1 Tryz.underlying3;cases e1;obtain⟨i,e2,f2⟩:=yt r2 Tryz.underlying3;cases e2;obtain⟨a,e3,_⟩:=zGc _ d3 r3 w3;cases e3;obtain⟨vc,lc,e4,s4,b4⟩:=zAL r4 Tryz.underlying46 (c:=4) (by kernel_rfl) (by decide+kernel) w4 zQL;cases e4;simp[Lit.wf,IntKind.wrap,IntKind.signed,IntKind.bits]at f0;have u0:IntKind.min .u8=0:=by decide
 have u1:IntKind.max .u8=255:=by decide
 exact⟨⟨k,n,i,a,lc⟩,_,rfl,s4,by simp only;omega,by simp only;omega,by simp only;omega⟩
end
end Go.Proofs.YtmilpkdhbdgjfaaGreatDoor
set_option maxRecDepth 100000
namespace Go.Proofs.YtmilpkdhbdgjfaaGreatDoor
open Go.Am
theorem zMH{l:List Bn}(h:zET l=false):l.length<=50/\∀ x∈l,x.args.length<=10:=by
 unfold zET at h;rw[Bool.or_eq_false_iff]at h;have h2:¬30<l.length:=by simpa using h.2
 refine⟨by omega,fun x hx=> ?_⟩;have h1:=Gz.1 h.1 x (by rw[Qn (by omega)];exact hx);have:¬10<x.args.length:=by simpa using h1
 omega
theorem FM.frs{b:Nat}{h:WG}{vm vf vi ve:Value}{a:Wb}(o:FM b h (mC vm vf vi ve a) a):BE h vf a.frs:=by
 obtain⟨vm',vf',vi',ve',e,_,k⟩:=o.ex;simp only[JB]at e;obtain⟨rfl,rfl,rfl,_⟩:=e;exact(k h (fun _ _ _=>rfl) (QE _)).1
theorem zQD{v:Wi}(h:Bk v=true):v≠v0:=by
 rintro rfl;exact absurd h (by decide)
theorem zEU{a:Wb}(f:BT)(hne:0<a.frs.length):zJ (putF a f)=f:=by
 show(a.frs.set (a.frs.length-1) f).getD ((a.frs.set (a.frs.length-1) f).length-1) default=f;rw[Q7,yS (by omega),QG rfl]
theorem zFI{a:Wb}{f:BT}:yo (putF a f)=yo a:=by
 show(decide (a.state=1)&&decide (0<(a.frs.set (a.frs.length-1) f).length))=_;rw[Q7];rfl
theorem zPi{a:Wb}{r:Int}{v:Wi}(h:(B8 a r v).2=0):yo a=true/\Yv a r=true/\Bk v=true/\(B8 a r v).1=putF a {zJ a with regs:=(zJ a).regs.set r.toNat v}:=by
 unfold B8 at h |-;split at h
 ·cases h
 rename_i hr;rw[QC hr];split at h;case isFalse=>cases h
 rename_i hk;rw[QG hk];rw[QI]at hk;exact⟨by simpa using hr,hk.1,hk.2,rfl⟩
theorem zOD{a:Wb}{r:Int}{v:Wi}(hr:yo a=true)(hh:Yv a r=true)(hv:Bk v=true):
  zAv (putF a {zJ a with regs:=(zJ a).regs.set r.toNat v}) r=(v,0)/\∀ i:Nat,(i:Int)≠r->zAv (putF a {zJ a with regs:=(zJ a).regs.set r.toNat v}) i=zAv a i:=by
 have hne:=Zt hr;have hb:0<=r/\r<((zJ a).regs.length:Int):=by unfold Yv at hh;simpa using hh
 have hhas:∀ i,Yv (putF a {zJ a with regs:=(zJ a).regs.set r.toNat v}) i=Yv a i:=fun i=>by
  unfold Yv;rw[zEU _ hne];simp
 have hget:∀ i:Nat,((zJ a).regs.set r.toNat v).getD i default=if i=r.toNat then v else(zJ a).regs.getD i default:=fun i=>yS (by omega);refine⟨?_,fun i hi=> ?_⟩
 ·unfold zAv;rw[zFI,hr,hhas,hh,zEU _ hne];simp only[hget,QG,zQD hv,Gw,Bool.true_eq_false]
 ·unfold zAv;rw[zFI,hr,hhas,zEU _ hne];have hi':¬i=r.toNat:=by omega
  simp only[Q2,hget,QC hi']
theorem zHt(h:WG)(vt vf:Value)(T:List WK)(F:List Wk)(vx:Value)(l:List Bn)(r:Int)(v:Wi)(tt:Bx h)(hm:h.mark<=h.n)(st:Bi h vt T)(sf:BD h vf F)(sl:SlA h vx l)(hT:(T.length:Int)<=1152921504606846976)(hF:(F.length:Int)<=1152921504606846976)(hl:(l.length:Int)<=1152921504606846976):
  WC Tryz.prog tb 6 [.agg #[vt,vf],vx,I r,.agg #[.int .u8 v.kind,I v.n,I v.block,I v.pos]] h fun r h'=>r=.bool true:=by
 refine en ?_;refine VG ?_;intro p4 h1 e1 o4;replace o4:WI h h1 p4 [vt,vf]:=o4;refine go ?_;refine VG ?_;intro p7 h3 e3 o7;replace o7:WI h1 h3 p7 [.int .u8 v.kind,I v.n,I v.block,I v.pos]:=o7;have e03:=e1.trans e3;have o4:=o4.ext e3;refine go ?_;refine VA (zLv h3 (tt.ext e03).1) ?_;rintro _ _ ⟨rfl,rfl⟩;refine go ?_;refine VA (zLG h3 vt vf T F 100 (by omega) (st.ext e03) (BD.ext sf e03) (by omega) (by omega)) ?_;rintro rr h4 ⟨hr,e4⟩;rcases hr with rfl|⟨rfl,sm,smi⟩
 ·refine go ?_;refine gr ?_;rfl
 have e04:=e03.trans e4;have o4:=o4.ext e4;have o7:=o7.ext e4;refine go ?_;refine VA (zLp h4 vx l (sl.ext e04) hl) ?_;rintro _ _ ⟨rfl,rfl⟩;cases hhv:zET l with
 |true=>
  refine go ?_;refine gr ?_;rfl
 |false=>
  obtain⟨hl50,hx10⟩:=zMH hhv;have E4:B3 h4 vt vf T F:=⟨tt.ext e04,yJ e04 hm,sm,st.ext e04,BD.ext sf e04⟩;refine go ?_;refine VA (zKw E4 (.slice none 0 0) [] ⟨by simp,.inl ⟨rfl,.inl rfl⟩⟩ (by simp) vx l (sl.ext e04) hl50 hx10) ?_;rintro _ h5 ⟨⟨csA,rfl,fmA,okA⟩,e5⟩;generalize zBw T F [] l=A at *;obtain⟨m1,m2,m3,n1,n2,n3,i1,i2,i3,v1,v2,v3,rfl⟩:=fmA.shape;refine go ?_;refine VJ ?_;intro p10 h6 e6 o10;refine go ?_;refine VF (cs:=mC (.slice m1 m2 m3) (.slice n1 n2 n3) (.slice i1 i2 i3) (.slice v1 v2 v3) A.1) o10 e6 ?_;intro h7 e7 o10' u7;have e47:=e5.trans e7;have e07:=e04.trans e47;have o7:=o7.ext e47;have fmA7:=fmA.ext e7;refine go ?_;refine VA (zJ9 h7 _ A.1 fmA7 (yJ e07 hm) r v) ?_;rintro _ h8 ⟨⟨csS,rfl,fmS⟩,e8⟩;have hset:= @zPi A.1 r v;generalize B8 A.1 r v=S at *;obtain⟨c1,c2,c3,d1,d2,d3,g1,g2,g3,k1,k2,k3,rfl⟩:=fmS.shape;refine go ?_;refine VJ ?_;intro p12 h9 e9 o12;refine go ?_;refine VF (cs:=mC (.slice c1 c2 c3) (.slice d1 d2 d3) (.slice g1 g2 g3) (.slice k1 k2 k3) S.1) o12 e9 ?_;intro h10 e10 o12' u12;have e710:=e8.trans e10;have o7:=o7.ext e710;have o10:=o10'.ext e710;have fmA10:=fmA7.ext e710;have fmS10:=fmS.ext e10;cases hA:A.2 with
  |false=>
   refine go ?_;refine gr ?_;rfl
  |true=>
   by_cases hS:S.2=0;case neg=>
    refine go ?_;refine gr ?_;rfl
   obtain⟨hrA,hasA,hvA,hSe⟩:=hset hS;obtain⟨hr1,hr2⟩:=zOD hrA hasA hvA;have hlS:S.1.frs.length=A.1.frs.length:=by rw[hSe];show(A.1.frs.set _ _).length=_;simp
   rw[<-hSe]at hr1 hr2;have hne:=Zt hrA;have hlA:=okA.fl;refine go ?_;refine VA (zFs h10 _ S.1 fmS10 r) ?_;rintro _ h11 ⟨rfl,e11⟩;rw[hr1];refine go ?_;refine VJ ?_;intro p14 h12 e12 o14;refine go ?_;refine VF (cs:=[.int .u8 v.kind,I v.n,I v.block,I v.pos]) o14 e12 ?_;intro h13 e13 o14' u14;have e1013:=e11.trans e13;have o7:=o7.ext e1013;have o10:=o10.ext e1013;have o12:=o12'.ext e1013;have fmA13:=fmA10.ext e1013;have fmS13:=fmS10.ext e1013;have frA:=fmA13.frs;have frS:=fmS13.frs;have hl1:(S.1.frs.length:Int)=(A.1.frs.length:Int):=by omega
   have hl2:¬(A.1.frs.length:Int)=0:=by omega
   have e013:=e07.trans (e710.trans e1013);refine go ?_;refine Vf (zGM (xs:=#[.int .u8 v.kind,I v.n,I v.block,I v.pos]) (ys:=#[.int .u8 v.kind,I v.n,I v.block,I v.pos]) (b:=true) (by kernel_rfl) (by rw[zD2,QS rfl])) ?_;refine go ?_;rw[show((A.1.frs.length:Int)-1)=((A.1.frs.length-1:Nat):Int) by omega];refine VE (fun i=>(zJ A.1).regs.length-i) (fun i t h1=>WL h13 h1/\zC t 17=I i/\i<=(zJ A.1).regs.length) 0 ?_ ?_
   ·exact⟨WL.refl _,WN,QU _⟩
   rintro i t h20 hsame ⟨e20,s17,hi⟩;have o7:=o7.ext e20;have o10:=o10.ext e20;have o12:=o12.ext e20;have fmA20:=fmA13.ext e20;have fmS20:=fmS13.ext e20;have e020:=e013.trans e20;obtain⟨cs,⟨w,rfl,kw,hwl⟩,pc,hsl⟩:=zd fmA20.frs (i:=A.1.frs.length-1) (by omega);obtain⟨w1,w2,w3,rfl⟩:=zb kw;have pc20:=(pc _ (WL.refl _)).1;have frA:=fmA20.frs;have hfr:A.1.frs.getD (A.1.frs.length-1) default=zJ A.1:=rfl;rw[hfr]at kw;have hrl:=fmA20.lr (A.1.frs.length-1) (by omega);rw[hfr]at hrl;refine go ?_;refine VD (fun hb=> ?_) (fun hb=> ?_)<;>simp only[DB]at hb
   ·refine go ?_;refine VA (zFs h20 _ A.1 fmA20 i) ?_;rintro _ h21 ⟨rfl,e21⟩;have hr2i:=hr2 i;generalize zAv A.1 i=ra at *;refine go ?_;refine VJ ?_;intro p18 h22 e22 o18;refine go ?_;refine VF (cs:=[.int .u8 ra.1.kind,I ra.1.n,I ra.1.block,I ra.1.pos]) o18 e22 ?_;intro h23 e23 o18' u23;have e2023:=e21.trans e23;have o12:=o12.ext e2023;refine go ?_;refine VA (zFs h23 _ S.1 (fmS20.ext e2023) i) ?_;rintro _ h24 ⟨rfl,e24⟩;generalize zAv S.1 i=rs at *;refine go ?_;refine VJ ?_;intro p20 h25 e25 o20;refine go ?_;refine VF (cs:=[.int .u8 rs.1.kind,I rs.1.n,I rs.1.block,I rs.1.pos]) o20 e25 ?_;intro h26 e26 o20' u26;have o18:=o18'.ext (e24.trans e26);have e2026:=e2023.trans (e24.trans e26);by_cases hir:(i:Int)=r
    ·refine go ?_;refine zA (i+1) (by omega) ⟨e20.trans e2026,BG,by omega⟩
    ·obtain rfl:=hr2i hir;refine go ?_;refine Vf (zGM (xs:=#[.int .u8 rs.1.kind,I rs.1.n,I rs.1.block,I rs.1.pos]) (ys:=#[.int .u8 rs.1.kind,I rs.1.n,I rs.1.block,I rs.1.pos]) (b:=true) (by kernel_rfl) (by rw[zD2,QS rfl])) ?_;refine go ?_;refine zA (i+1) (by omega) ⟨e20.trans e2026,BG,by omega⟩
   ·have hm20:h20.mark<=h20.n:=yJ e020 hm;refine go ?_;refine VA (zAo h20 _ A.1 fmA20.rm fmA20.small hm20) ?_;rintro _ h21 ⟨⟨csT,rfl,rm,om⟩,e21⟩;obtain⟨vm,vf',vi,ve,xs,rfl,nb,M⟩:=zMq rm om fmA20.small fmA20.nm;obtain⟨gf,nf,rfl⟩:∃ gf nf,vf'=.slice (some ⟨gf,0,none⟩) nf 5:=by
     rcases M.f with⟨_,e⟩|⟨g,_,_,_,_,e,_⟩
     ·have:=M.lx;rw[e]at this;simp at this;omega
     ·exact⟨g,_,e⟩
    obtain⟨hb1,hb2,oi⟩:=id M.i;obtain⟨m1',m2',m3',rfl⟩:=nb.1.shape;obtain⟨i1',i2',i3',rfl⟩:=Wv.shape oi.sl;obtain⟨v1',v2',v3',rfl⟩:=nb.2.shape;refine go ?_;refine VJ ?_;intro q h22 e22 o22;refine go ?_;refine VF (cs:=mC (.slice m1' m2' m3') (.slice (some ⟨gf,0,none⟩) nf 5) (.slice i1' i2' i3') (.slice v1' v2' v3') A.1) o22 e22 ?_;intro h23 e23 o22' u23;have M23:=M.ext e23;have e2023:=e21.trans e23;have hxl:=M23.lx;have hlr:=M23.lr (A.1.frs.length-1) (by omega);obtain⟨cs',⟨rfl,_⟩,pcT,hsT⟩:=zd M23.f.sl (i:=A.1.frs.length-1) (by omega);have ow:=M23.rg (A.1.frs.length-1) (by omega);have hh2:0<=r/\r<((zJ A.1).regs.length:Int):=by unfold Yv at hasA;simpa using hasA
    have hst:=fun(h':WG) (o':WZ 4 W5 h20.n h' (xs.getD (A.1.frs.length-1) default).v ((zJ A.1).regs.set r.toNat v)) (u:UpB (xs.getD (A.1.frs.length-1) default).v h23 h')=>M23.setR (i:=A.1.frs.length-1) (l:=(zJ A.1).regs.set r.toNat v) (by omega) (by rw[Q7];exact hlr) o' u;replace hst:=Wt.mk hst;have hwi:=(M.rg (A.1.frs.length-1) (by omega)).within;obtain⟨w1',w2',w3',hw⟩:=zb ow.sl;have ow':WZ 4 W5 h20.n h23 (.slice w1' w2' w3') (zJ A.1).regs:=by rw[<-hw];exact ow
    rw[hw]at pcT hst hwi;have o7X:=o7.ext e2023;refine go ?_;refine VC 0 rfl rfl ?_;have o22Y:WI h21 (inC (zB 0 h23)) q (mC (.slice m1' m2' m3') (.slice (some ⟨gf,0,none⟩) nf 5) (.slice i1' i2' i3') (.slice v1' v2' v3') A.1):=o22';have o7Y:WI h1 (inC (zB 0 h23)) p7 [.int .u8 v.kind,I v.n,I v.block,I v.pos]:=o7X;have pcY:Wl (inC (zB 0 h23)) _ _ _:=(pcT _ (WL.refl _)).2;have frY:BE (inC (zB 0 h23)) (.slice (some ⟨gf,0,none⟩) nf 5) A.1.frs:=M23.fr;have kY:BA (inC (zB 0 h23)) (.slice w1' w2' w3') (zJ A.1).regs:=ow'.sl;have owY:WZ 4 W5 h20.n (zB 0 h23) (.slice w1' w2' w3') (zJ A.1).regs:=ow';refine Wg ?_;refine V7 (hB:=h20) (hS:=h23) (i:=r.toNat) (off:=0) (cs:=[.int .u8 v.kind,I v.n,I v.block,I v.pos]) (ho:=by simp) v owY e2023 ?_ rfl (QE _) (by omega) (fun old hx hr ho=> ?_) ?_ (hx:=by show WR _ _ (zR _ (r.toNat*4));exact zY)
    ·rw[e2023.mark];exact hm20
    ·unfold W5 at hr |-;subst hr;rfl
    intro h24 e24 o24 n24 k24;have u24:UpB (.slice w1' w2' w3') h23 h24:=zDa (by omega) k24;have Mf:=hst.out h24 o24 u24;have dq:Wp (.slice w1' w2' w3') q:=(VI (h:=h21) o22.since' hwi).symm;have o22Z:=o22'.upB u24 dq;have o12Z:=o12.ext e24;have rmT:=Mf.rm (vm:= .slice m1' m2' m3') (ve:= .slice v1' v2' v3') nb;have rmS:=(fmS20.ext e24).rm;have hEq:({A.1 with frs:=A.1.frs.set (A.1.frs.length-1) {A.1.frs.getD (A.1.frs.length-1) default with regs:=(zJ A.1).regs.set r.toNat v}}:Wb)=S.1:=hSe.symm;rw[hEq]at rmT;have o22S:WI h21 h24 q (mC (.slice m1' m2' m3') (.slice (some ⟨gf,0,none⟩) nf 5) (.slice i1' i2' i3') (.slice v1' v2' v3') S.1):=by rw[hSe];exact o22Z
    clear o22Z;refine go ?_;refine VA (zHn h24 _ _ S.1 S.1 rmT rmS) ?_;rintro _ h25 ⟨rfl,e25⟩;rw[QS rfl];refine gr ?_;rfl
end Go.Proofs.YtmilpkdhbdgjfaaGreatDoor
