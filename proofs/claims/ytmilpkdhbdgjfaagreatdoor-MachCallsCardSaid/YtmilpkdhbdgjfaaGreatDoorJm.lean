/- Walks of functions, plain laws; proves no statement. -/
import Derived.Test.YtmilpkdhbdgjfaaGreatDoorJl
import Derived.Test.YtmilpkdhbdgjfaaGreatDoorAmE
set_option linter.all false
set_option maxHeartbeats 4000000
set_option maxRecDepth 100000
namespace Go.Proofs.YtmilpkdhbdgjfaaGreatDoor
open Go.Am
def zDs(l:List BZ):Bool:=(l.take 50).any (fun x=>decide (10<x.args.length))||decide (30<l.length)
theorem zNA(h:WG)(v:Value)(l:List BZ)(s:SlA h v l)(hl:(l.length:Int)<=1152921504606846976):WC Tryz.prog tb 19 [v] h fun r h'=>r=.bool (zDs l)/\h=h':=by
 obtain⟨v1,v2,v3,rfl⟩:∃ a n k,v=.slice a n k:=by
  obtain⟨_,⟨_,⟨_,e|⟨_,_,e⟩⟩|⟨_,_,_,e,_⟩⟩,_⟩:=s<;>exact⟨_,_,_,e⟩
 unfold zDs;refine en ?_;refine VE (fun i=>l.length-i) (fun i t h1=>h=h1/\zC t 3=I i/\i<=l.length/\i<=50/\((l.take i).any fun x=>decide (10<x.args.length))=false) 0 ?_ ?_
 ·exact⟨rfl,WN,QU _,QU _,rfl⟩
 rintro i t _ hsame ⟨rfl,s3,hi,h50,hany⟩;by_cases hil:i<l.length;case neg=>
  have hii:i=l.length:=by omega
  have hd:¬((i:Int)<(l.length:Int)):=by omega
  rw[hii,Gf]at hany;refine go ?_;refine gr ?_;refine⟨?_,rfl⟩;rw[Ql (show l.length<=50 by omega),hany,Qj];refine congrArg Value.bool (decide_eq_decide.2 ⟨fun q=> ?_,fun q=> ?_⟩)
  ·omega
  ·omega
 by_cases hi5:i<50;case neg=>
  have hii:i=50:=by omega
  subst hii;refine go ?_;refine gr ?_;refine⟨?_,rfl⟩;rw[hany,Qj];refine congrArg Value.bool (decide_eq_decide.2 ⟨fun q=> ?_,fun q=> ?_⟩)
  ·omega
  ·omega
 obtain⟨cs,⟨va,rfl,sa,hla,hk0,hk5⟩,pc,hs⟩:=yr s hil;obtain⟨a1,a2,a3,rfl⟩:=zd sa;have htk:l.take (i+1)=l.take i++[l.getD i default]:=by rw[GL,QB hil];simp[List.getD,QB hil]
 refine go ?_;refine VD (fun hc=> ?_) (fun hc=> ?_)<;>simp only[DB]at hc
 ·refine gr ?_;refine⟨?_,rfl⟩;rw[show(l.take 50).any (fun x=>decide (10<x.args.length))=true from ?_]
  ·rfl
  rw[G3];refine⟨l.getD i default,?_,QT (by omega)⟩;rw[QI,QB hil];exact List.mem_take_iff_getElem.2 ⟨i,by omega,rfl⟩
 ·refine go ?_;refine zA (i+1) (by omega) ⟨rfl,BI,by omega,by omega,?_⟩;rw[htk,List.any_append,hany];show(decide _||false)=false;rw[Qo];exact QM (by omega)
def zBo(T:List WK)(F:List Wk):Wb->List BZ->Wb
 |a,[]=>a
 |a,x::l=>if(Yn T F a x).2≠0 then a else zBo T F (Yn T F a x).1 l
noncomputable def zAf(T:List WK)(F:List Wk)(inn:List Int)(l:List BZ):Wb×Bool:=if(Zo T F inn).2=0 then(zBo T F (Zo T F inn).1 l,true)else((Zo T F inn).1,false)
theorem zHu{T:List WK}{F:List Wk}{inn:List Int}:((Zo T F inn).2=0->yl T F=0)/\BH T F 1 (Zo T F inn).1:=by
 unfold Zo;split
 ·rename_i hs;exact⟨fun e=>absurd e hs,VO rfl⟩
 rename_i hs;have hp:=(zBa (by simpa using hs)).1;refine⟨fun _=>hp,?_⟩;split
 ·exact VO rfl
 obtain⟨hc,hF1,hF8,hfn⟩:=Z1 hp;have hr:=zBI hp (f:=0) ⟨by omega,by omega⟩;refine⟨by simp,fun i hi=> ?_,fun i hi=> ?_⟩
 ·have hi:i=0:=by simp at hi;omega
  subst hi;refine⟨⟨Qh _,by show(0:Int)<_;omega⟩,?_⟩;show(([]++List.replicate _ v0:List Wi).length:Int)=Zz T F 0;simp;omega
 ·simp at hi
section
variable {h:WG}{vt vf:Value}{T:List WK}{F:List Wk}
theorem zLN(E:B5 h vt vf T F)(vi:Value)(inn:List Int)(si:Wd h vi inn)(hl:(inn.length:Int)<=1152921504606846976)(vx:Value)(l:List BZ)(sl:SlA h vx l)(hll:l.length<=50)(h10:∀ x∈l,x.args.length<=10):
  WC Tryz.prog tb 28 [.agg #[vt,vf],vi,vx] h fun w h'=>(∃ cs,w=.tuple #[.agg cs.toArray,.bool (zAf T F inn l).2]/\FM h.n h' cs (zAf T F inn l).1/\BH T F 51 (zAf T F inn l).1)/\WL h h':=by
 have hm:=E.hm;obtain⟨t1,t2,t3,rfl⟩:=zQ E.st;obtain⟨f1,f2,f3,rfl⟩:=zQ E.sf;obtain⟨b1,b2,b3,rfl⟩:=Wv.shape si;obtain⟨l1,l2,l3,rfl⟩:∃ a n k,vx=.slice a n k:=by
  obtain⟨_,⟨_,⟨_,e|⟨_,_,e⟩⟩|⟨_,_,_,e,_⟩⟩,_⟩:=sl<;>exact⟨_,_,_,e⟩
 obtain⟨hbp,hbo⟩:=zHu (T:=T) (F:=F) (inn:=inn);unfold zAf;refine en ?_;refine VG ?_;intro p3 h1 e1 o3;replace o3:WI h h1 p3 [.slice t1 t2 t3,.slice f1 f2 f3]:=o3;refine go ?_;refine VJ ?_;intro p6 h2 e2 o6;have hp6:=o6.within;have o3:=o3.ext e2;have e02:=e1.trans e2;refine go ?_;refine VA (zKO (E.ext e02) _ inn (si.ext e02) hl) ?_;rintro _ h3 ⟨⟨cs,rfl,fm⟩,e3⟩;have o3:=o3.ext e3;have o6:=o6.ext e3;have e03:=e02.trans e3;generalize Zo T F inn=B at *;obtain⟨x1,x2,x3,y1,y2,y3,z1,z2,z3,w1,w2,w3,rfl⟩:=fm.shape;refine go ?_;refine VJ ?_;intro p8 h4 e4 o8;refine go ?_;refine VF (cs:=mC (.slice x1 x2 x3) (.slice y1 y2 y3) (.slice z1 z2 z3) (.slice w1 w2 w3) _) o8 e4 ?_;intro h5 e5 o8' u8;obtain⟨g8,g8a,g8b,rfl,g8c⟩:=id o8';by_cases hB:B.2=0;case neg=>
  rw[QC hB];refine go ?_;refine VE (fun i=>1-i) (fun i t h'=>i=0/\h'=h5/\zC t 10=I 0) 0 ?_ ?_
  ·exact⟨rfl,rfl,WN⟩
  rintro i t h6 hsame ⟨rfl,hh,s10⟩;subst hh;have sl6:=SlA.ext sl (e03.trans e5);by_cases h0:(0:Int)<(l.length:Int)
  ·refine go ?_;refine VF (cs:=mC (.slice x1 x2 x3) (.slice y1 y2 y3) (.slice z1 z2 z3) (.slice w1 w2 w3) B.1) (o6.ext e5) ((e2.trans e3).trans e5) ?_;intro h13 e13 o13 u13;refine go ?_;refine rt ?_ (VL WN o13 rfl (W0.cons WN W0.nil));refine⟨⟨_,by rw[QM hB];rfl,?_,?_⟩,e1.trans e13⟩
   ·refine(fm.upd (fun k k1 k2=>(u13.2 k (by have:=e5.n;omega) (fun e=> ?_)).trans (e5.get k k2)) (by have:=u13.1;have:=e5.n;omega)).base (by have:=e02.n;omega);have:=hp6 k (by rw[e];rfl);omega
   ·exact hbo.mono (by omega)
  ·refine go ?_;refine VF (cs:=mC (.slice x1 x2 x3) (.slice y1 y2 y3) (.slice z1 z2 z3) (.slice w1 w2 w3) B.1) (o6.ext e5) ((e2.trans e3).trans e5) ?_;intro h13 e13 o13 u13;refine go ?_;refine rt ?_ (VL WN o13 rfl (W0.cons WN W0.nil));refine⟨⟨_,by rw[QM hB];rfl,?_,?_⟩,e1.trans e13⟩
   ·refine(fm.upd (fun k k1 k2=>(u13.2 k (by have:=e5.n;omega) (fun e=> ?_)).trans (e5.get k k2)) (by have:=u13.1;have:=e5.n;omega)).base (by have:=e02.n;omega);have:=hp6 k (by rw[e];rfl);omega
   ·exact hbo.mono (by omega)
 rw[QG hB];have hp:=hbp hB;rw[hB];refine go ?_;refine VE (fun i=>l.length-i) (fun i t h'=>∃ cs a bb hF,(WL h3 h'/\WI h3 h' (.pointer (some ⟨g8,0,none⟩)) cs)/\(FM bb hF cs a/\(∀ k,bb<=k->k<hF.n->h'.get k=hF.get k)/\hF.n<=h'.n/\¬(bb<=g8/\g8<hF.n)/\h2.n<=bb)/\(zC t 10=I i/\i<=l.length)/\BH T F (1+i) a/\zBo T F a (l.drop i)=zBo T F B.1 l) 0 ?_ ?_
 ·exact⟨_,B.1,h2.n,h3,⟨e5,g8,g8a,g8b,rfl,g8c⟩,⟨fm,fun k _ hk=>e5.get k hk,e5.n,by omega,QE _⟩,⟨WN,QU _⟩,hbo,rfl⟩
 rintro i t h10' hsame ⟨cs,a,bb,hF,⟨e310,o810⟩,⟨fmF,kF,nF,ngF,bF⟩,⟨s10,hi⟩,ok,hst⟩;obtain⟨m1,m2,m3,n1,n2,n3,i1,i2,i3,v1,v2,v3,rfl⟩:=fmF.shape;have fm10:=fmF.upd kF nF;have e010:=e03.trans e310;have sl10:=SlA.ext sl e010;have E10:=E.ext e010;have o3:=o3.ext e310;by_cases hil:i<l.length;case neg=>
  have hii:i=l.length:=by omega
  rw[hii,List.drop_length]at hst;have hst:a=zBo T F B.1 l:=hst;refine go ?_;refine VF (cs:=mC (.slice m1 m2 m3) (.slice n1 n2 n3) (.slice i1 i2 i3) (.slice v1 v2 v3) a) (o6.ext e310) ((e2.trans e3).trans e310) ?_;intro h13 e13 o13 u13;refine go ?_;refine rt ?_ (VL WN o13 rfl (W0.cons WN W0.nil));refine⟨⟨_,rfl,?_,?_⟩,e1.trans e13⟩
  ·rw[<-hst];refine(fmF.upd (fun k k1 k2=>(u13.2 k (by omega) (fun e=> ?_)).trans (kF k k1 k2)) (by have:=u13.1;omega)).base (by have:=e02.n;omega);have:=hp6 k (by rw[e];rfl);omega
  ·rw[<-hst];exact ok.mono (by omega)
 have hxm:l.getD i default∈l:=zP hil;have h10x:=h10 _ hxm;obtain⟨cx,rx,pcx,hsx⟩:=zh sl10 (i:=i) hil;obtain⟨va,rfl,-⟩:=id rx;have hdr:l.drop i=l.getD i default::l.drop (i+1):=by rw[GI hil];simp[List.getD,QB hil]
 generalize l.getD i default=x at *;have o3Y:WI h (inC (zB 1 h10')) p3 [.slice t1 t2 t3,.slice f1 f2 f3]:=VX (o3.ext (zO 1 h10'));have o8Y:WI h3 (inC (zB 1 h10')) (.pointer (some ⟨g8,0,none⟩)) (mC (.slice m1 m2 m3) (.slice n1 n2 n3) (.slice i1 i2 i3) (.slice v1 v2 v3) a):=VX (o810.ext (zO 1 h10'));have slZ:=SlA.ext sl10 (zO 1 h10');have slY:SlA (inC (zB 1 h10')) (.slice l1 l2 l3) l:=slZ;have pcY:Wl (inC (zB 1 h10')) _ _ _:=(pcx _ (zO 1 h10')).2;refine go ?_;refine VC 1 rfl rfl ?_;refine Wg ?_;have fmY:FM bb (inC (zB 1 h10')) (mC (.slice m1 m2 m3) (.slice n1 n2 n3) (.slice i1 i2 i3) (.slice v1 v2 v3) a) a:=fm10.upd (fun k _ hk=>(zO 1 h10').get k hk) (zO 1 h10').n;have rxZ:=rx.ext (zO 1 h10');have rxY:B8 (inC (zB 1 h10')) _ x:=rxZ;refine VA (zP3 (E10.as 1) hp _ a fmY ok (by omega) _ x rxY h10x) ?_;rintro _ X ⟨⟨cs',rfl,fmX⟩,eX⟩;refine nE eX ?_;refine Wg ?_;obtain⟨x1',x2',x3',y1',y2',y3',z1',z2',z3',w1',w2',w3',rfl⟩:=fmX.shape;have hm10:h10'.mark<=h10'.n:=by rw[e010.mark];exact QO hm e010.n
 have hnX:h10'.n+1<=X.n:=eX.n;refine We.mk (ob:= .row [.slice none 0 0,.slice none 0 0,.slice none 0 0,I 0,.slice none 0 0,I 0,I 0,.int .u8 0,I 0,I 0] true 0) (f:=fun g=> .pointer (some ⟨g,0,none⟩)) hm10 rfl ?_;refine We.inC ?_;refine XG (q:=h10'.n) (row:=[.slice none 0 0,.slice none 0 0,.slice none 0 0,I 0,.slice none 0 0,I 0,I 0,.int .u8 0,I 0,I 0]) (off:=0) (cs:=mC (.slice x1' x2' x3') (.slice y1' y2' y3') (.slice z1' z2' z3') (.slice w1' w2' w3') (Yn T F a x).1) (by rw[zDS,QG rfl]) hm10 ?_ (QE 10);intro Y nY kY gY wY cl';have nY:Y.n=X.n:=nY;have kY:∀ k,k≠h10'.n->Y.get k=X.get k:=fun k hk=>(kY k hk).trans (by rw[zDS,QC hk]);have gY:Y.get h10'.n=some (.row (mC (.slice x1' x2' x3') (.slice y1' y2' y3') (.slice z1' z2' z3') (.slice w1' w2' w3') (Yn T F a x).1) true 0):=gY;have e11:WL h10' (zy h10' (inC Y)):=⟨by show h10'.n<=Y.n;omega,fun k hk=>(kY k (by omega)).trans ((eX.get k (by show k<h10'.n+1;omega)).trans ((zO 1 h10').get k hk)),fun w=>wY (fun j hj=>by
   have hj:X.n<=j:=hj;rw[zDS,QC (by omega)];exact eX.wf ((zO 1 h10').wf w) j hj),rfl,fun _=>rfl⟩
 have o11:WI h10' (zy h10' (inC Y)) (.pointer (some ⟨h10'.n,0,none⟩)) (mC (.slice x1' x2' x3') (.slice y1' y2' y3') (.slice z1' z2' z3') (.slice w1' w2' w3') (Yn T F a x).1):=⟨h10'.n,QE _,by show h10'.n<Y.n;omega,rfl,gY⟩;have fk:∀ k,(inC (zB 1 h10')).n<=k->k<X.n->(zy h10' (inC Y)).get k=X.get k:=fun k k1 _=>kY k (by have k1:h10'.n+1<=k:=k1;omega);have fn:X.n<=(zy h10' (inC Y)).n:=Nat.le_of_eq nY.symm;refine Wg ?_;generalize zy h10' (inC Y)=h11 at *;have e311:=e310.trans e11;have o811:=o810.ext e11;refine go ?_;rw[hdr]at hst;have hst:(if(Yn T F a x).2≠0 then a else zBo T F (Yn T F a x).1 (l.drop (i+1)))=zBo T F B.1 l:=hst;refine VD (fun hc=> ?_) (fun hc=> ?_)<;>simp only[DB]at hc
 ·rw[QG hc]at hst;have hn11:=e11.n;refine go ?_;refine VF (cs:=mC (.slice m1 m2 m3) (.slice n1 n2 n3) (.slice i1 i2 i3) (.slice v1 v2 v3) a) (o6.ext e311) ((e2.trans e3).trans e311) ?_;intro h13 e13 o13 u13;refine go ?_;refine rt ?_ (VL WN o13 rfl (W0.cons WN W0.nil));refine⟨⟨_,rfl,?_,?_⟩,e1.trans e13⟩
  ·rw[<-hst];refine(fmF.upd (fun k k1 k2=>(u13.2 k (by omega) (fun e=> ?_)).trans ((e11.get k (by omega)).trans (kF k k1 k2))) (by have:=u13.1;omega)).base (by have:=e02.n;omega);have:=hp6 k (by rw[e];rfl);omega
  ·rw[<-hst];exact ok.mono (by omega)
 ·rw[QC (fun q=>q hc)]at hst;refine go ?_;refine VF (cs:=mC (.slice x1' x2' x3') (.slice y1' y2' y3') (.slice z1' z2' z3') (.slice w1' w2' w3') (Yn T F a x).1) o811 e311 ?_;intro h12 e12 o12 u12;have hg8:=o810.within g8 rfl;refine go ?_;exact zA (i+1) (by omega) ⟨_,(Yn T F a x).1,h10'.n+1,X,⟨e12,o12⟩,⟨fmX,fun k k1 k2=>(u12.2 k (by omega) (fun e=>by cases e;omega)).trans (fk k k1 k2),by have:=u12.1;omega,by omega,by have:=e3.n;have:=e310.n;omega⟩,⟨BI,by omega⟩,zPk hp ok x,hst⟩
end
set_option maxRecDepth 1000000 in
theorem zLW:(zLG Tryz.prog (zGQ Tryz.prog) 400).call 17 [] (YY Tryz.prog.globals.size [(0,ZN)]) (fun v _=>some v)=some (.bool true):=by kernel_rfl
theorem zMi:((BJ Tryz.prog (zGQ Tryz.prog) 400).call 17 [] (YY Tryz.prog.globals.size [(0,ZN)])).map (·.1)=some (.bool true):=zLy zLW
set_option maxRecDepth 1000000 in
theorem zFg:([(0,ZN)]:List (Nat×List Value)).all (fun x=>Nat.ble (x.1+1) Tryz.prog.globals.size&&yx x.2)=true:=by kernel_rfl
set_option maxRecDepth 1000000 in
theorem tb_ok:tb.Ok Tryz.prog where
 code:=fun _ _ h=>h
 stub:=fun f s hs=>by
  have hs:(if f=17 then some (zAx [(0,ZN)] (.bool true))else none)=some s:=hs;split at hs
  ·rename_i e;subst e;cases hs;exact zG9 Tryz.checked.mixed (zIf _) rfl (fun x hx=>by
    have h1:=QX.1 zFg x hx;rw[QJ]at h1;exact⟨QP h1.1,h1.2⟩) zMi
  ·cases hs
 grow:=fun f s hs args h v h' hk=>by
  have hs:(if f=17 then some (zAx [(0,ZN)] (.bool true))else none)=some s:=hs;split at hs
  ·cases hs;exact zJA args h v h' hk
  ·cases hs
section
variable {H:Type}{h:WG}
theorem zP7{n:Int}(h:(Lit.int .i64 n).wf=true): -9223372036854775808<=n/\n<=9223372036854775807:=by
 simp[Lit.wf,IntKind.wrap,IntKind.signed,IntKind.bits]at h;have h1:IntKind.min .i64= -9223372036854775808:=by decide
 have h2:IntKind.max .i64=9223372036854775807:=by decide
 omega
theorem zGq(cs:List Value)(d:DataW H)(r:Rd Tryz.prog h 37 cs d)(hw:BD Tryz.prog 37 d):∃ a:Wi,cs=[.int .u8 a.kind,I a.n,I a.block,I a.pos]/\ -9223372036854775808<=a.block/\a.block<=9223372036854775807:=by
 obtain⟨hl,hr⟩:=ZY r Tryz.underlying37 hw;have hc:Tryz.prog.cellsOf 37=4:=by kernel_rfl
 rw[hc]at hl;obtain⟨x0,x1,x2,x3,rfl⟩:∃ x0 x1 x2 x3,cs=[x0,x1,x2,x3]:=by
  exact zPy hl
 obtain⟨d0,r0,w0⟩:=hr 0 _ rfl;have c0:Tryz.prog.cellsOf 5=1:=by kernel_rfl
 replace r0:Rd Tryz.prog h 5 (([x0,x1,x2,x3].drop 0).take (Tryz.prog.cellsOf 5)) d0:=r0;replace w0:BD Tryz.prog 5 d0:=w0;rw[c0]at r0;replace r0:Rd Tryz.prog h 5 [x0] d0:=r0;obtain⟨d1,r1,w1⟩:=hr 1 _ rfl;have c1:Tryz.prog.cellsOf 2=1:=by kernel_rfl
 replace r1:Rd Tryz.prog h 2 (([x0,x1,x2,x3].drop 1).take (Tryz.prog.cellsOf 2)) d1:=r1;replace w1:BD Tryz.prog 2 d1:=w1;rw[c1]at r1;replace r1:Rd Tryz.prog h 2 [x1] d1:=r1;obtain⟨d2,r2,w2⟩:=hr 2 _ rfl;have c2:Tryz.prog.cellsOf 3=1:=by kernel_rfl
 replace r2:Rd Tryz.prog h 3 (([x0,x1,x2,x3].drop 2).take (Tryz.prog.cellsOf 3)) d2:=r2;replace w2:BD Tryz.prog 3 d2:=w2;rw[c2]at r2;replace r2:Rd Tryz.prog h 3 [x2] d2:=r2;obtain⟨d3,r3,w3⟩:=hr 3 _ rfl;have c3:Tryz.prog.cellsOf 3=1:=by kernel_rfl
 replace r3:Rd Tryz.prog h 3 (([x0,x1,x2,x3].drop 3).take (Tryz.prog.cellsOf 3)) d3:=r3;replace w3:BD Tryz.prog 3 d3:=w3;rw[c3]at r3;replace r3:Rd Tryz.prog h 3 [x3] d3:=r3;obtain⟨k,e0,f0⟩:=ZA r0 Tryz.underlying5;cases e0;obtain⟨n,e1,f1⟩:=ZA r1 Tryz.underlying2;cases e1;obtain⟨b,e2,f2⟩:=ZA r2 Tryz.underlying3;cases e2;obtain⟨p,e3,f3⟩:=ZA r3 Tryz.underlying3;cases e3;exact⟨⟨k,n,b,p⟩,rfl,zP7 f2⟩
theorem zPa(cs:List Value)(d:DataW H)(r:Rd Tryz.prog h 37 cs d)(hw:BD Tryz.prog 37 d):∃ a,W7 h cs a:=let⟨a,e,_⟩:=zGq cs d r hw;⟨a,e⟩
theorem zQt{cs:List Value}(h:cs.length=8):∃ x0 x1 x2 x3 x4 x5 x6 x7,cs=[x0,x1,x2,x3,x4,x5,x6,x7]:=by
 match cs,h with
 |[a,b,c,d,e,f,g,i],_=>exact⟨_,_,_,_,_,_,_,_,rfl⟩
theorem zMF(cs:List Value)(d:DataW H)(r:Rd Tryz.prog h 58 cs d)(hw:BD Tryz.prog 58 d):∃ a,B8 h cs a:=by
 obtain⟨hl,hr⟩:=ZY r Tryz.underlying58 hw;have hc:Tryz.prog.cellsOf 58=8:=by kernel_rfl
 rw[hc]at hl;obtain⟨x0,x1,x2,x3,x4,x5,x6,x7,rfl⟩:∃ x0 x1 x2 x3 x4 x5 x6 x7,cs=[x0,x1,x2,x3,x4,x5,x6,x7]:=by
  exact zQt hl
 obtain⟨d0,r0,w0⟩:=hr 0 _ rfl;have c0:Tryz.prog.cellsOf 5=1:=by kernel_rfl
 replace r0:Rd Tryz.prog h 5 (([x0,x1,x2,x3,x4,x5,x6,x7].drop 0).take (Tryz.prog.cellsOf 5)) d0:=r0;replace w0:BD Tryz.prog 5 d0:=w0;rw[c0]at r0;replace r0:Rd Tryz.prog h 5 [x0] d0:=r0;obtain⟨d1,r1,w1⟩:=hr 1 _ rfl;have c1:Tryz.prog.cellsOf 3=1:=by kernel_rfl
 replace r1:Rd Tryz.prog h 3 (([x0,x1,x2,x3,x4,x5,x6,x7].drop 1).take (Tryz.prog.cellsOf 3)) d1:=r1;replace w1:BD Tryz.prog 3 d1:=w1;rw[c1]at r1;replace r1:Rd Tryz.prog h 3 [x1] d1:=r1;obtain⟨d2,r2,w2⟩:=hr 2 _ rfl;have c2:Tryz.prog.cellsOf 3=1:=by kernel_rfl
 replace r2:Rd Tryz.prog h 3 (([x0,x1,x2,x3,x4,x5,x6,x7].drop 2).take (Tryz.prog.cellsOf 3)) d2:=r2;replace w2:BD Tryz.prog 3 d2:=w2;rw[c2]at r2;replace r2:Rd Tryz.prog h 3 [x2] d2:=r2;obtain⟨d3,r3,w3⟩:=hr 3 _ rfl;have c3:Tryz.prog.cellsOf 37=4:=by kernel_rfl
 replace r3:Rd Tryz.prog h 37 (([x0,x1,x2,x3,x4,x5,x6,x7].drop 3).take (Tryz.prog.cellsOf 37)) d3:=r3;replace w3:BD Tryz.prog 37 d3:=w3;rw[c3]at r3;replace r3:Rd Tryz.prog h 37 [x3,x4,x5,x6] d3:=r3;obtain⟨d4,r4,w4⟩:=hr 4 _ rfl;have c4:Tryz.prog.cellsOf 46=1:=by kernel_rfl
 replace r4:Rd Tryz.prog h 46 (([x0,x1,x2,x3,x4,x5,x6,x7].drop 7).take (Tryz.prog.cellsOf 46)) d4:=r4;replace w4:BD Tryz.prog 46 d4:=w4;rw[c4]at r4;replace r4:Rd Tryz.prog h 46 [x7] d4:=r4;obtain⟨k,e0,f0⟩:=ZA r0 Tryz.underlying5;cases e0;obtain⟨n,e1,f1⟩:=ZA r1 Tryz.underlying3;cases e1;obtain⟨i,e2,f2⟩:=ZA r2 Tryz.underlying3;cases e2;obtain⟨a,e3,_⟩:=zGq _ d3 r3 w3;cases e3;obtain⟨vc,lc,e4,s4,b4⟩:=zAM r4 Tryz.underlying46 (c:=4) (by kernel_rfl) (by decide+kernel) w4 zPa;cases e4;simp[Lit.wf,IntKind.wrap,IntKind.signed,IntKind.bits]at f0;have u0:IntKind.min .u8=0:=by decide
 have u1:IntKind.max .u8=255:=by decide
 exact⟨⟨k,n,i,a,lc⟩,_,rfl,s4,by simp only;omega,by simp only;omega,by simp only;omega⟩
end
end Go.Proofs.YtmilpkdhbdgjfaaGreatDoor
set_option maxRecDepth 100000
namespace Go.Proofs.YtmilpkdhbdgjfaaGreatDoor
open Go.Am
theorem zMP{l:List BZ}(h:zDs l=false):l.length<=50/\∀ x∈l,x.args.length<=10:=by
 unfold zDs at h;rw[Bool.or_eq_false_iff]at h;have h2:¬30<l.length:=by simpa using h.2
 refine⟨by omega,fun x hx=> ?_⟩;have h1:=Gy.1 h.1 x (by rw[Ql (by omega)];exact hx);have:¬10<x.args.length:=by simpa using h1
 omega
theorem zMG{T:List WK}{F:List Wk}{a:Wb}{f into:Int}{args:List Wi}{v:Wi}(h:(YV T F a f args into).2=0):
  yp a=true/\(YV T F a f args into).1={a with frs:=a.frs++[ZH T F f args into]}/\zDH a into=true:=by
 unfold YV at h |-;split at h
 ·cases h
 rename_i hr;rw[QC hr];split at h;case isFalse=>cases h
 rename_i hk;rw[QG hk];unfold okC at hk;simp only[QJ]at hk;exact⟨by simpa using hr,rfl,hk.2⟩
theorem zOw{a:Wb}{fr:BX}{v:Wi}(hr:yp a=true)(hi:zDH a fr.into=true):(yg {a with frs:=a.frs++[fr]} v).2=2\/(yg {a with frs:=a.frs++[fr]} v).2=0/\(B6 a fr.into v).2=0/\(yg {a with frs:=a.frs++[fr]} v).1=(B6 a fr.into v).1/\(yg {a with frs:=a.frs++[fr]} v).1.state=1:=by
 have hne:=YZ hr;have hs1:a.state=1:=by unfold yp at hr;simp at hr;exact hr.1
 have hr':yp {a with frs:=a.frs++[fr]}=true:=by unfold yp;simp[hs1]
 unfold yg;rw[QC (by rw[hr'];decide)];by_cases hv:okE v=false
 ·rw[QG hv];exact .inl rfl
 rw[QC hv];have hov:Bo v=true:=by unfold okE at hv;simp at hv;exact hv.1
 rw[QG (by show 1<(a.frs++[fr]).length;simp;omega)];refine .inr ⟨rfl,?_,?_,hs1⟩
 ·unfold B6;rw[QC (by rw[hr];decide),hi,hov];rfl
 ·unfold B6;rw[QC (by rw[hr];decide),hi,hov];show({a with frs:=Zu {a with frs:=a.frs++[fr]} v}:Wb)=putF a {zN a with regs:=(zN a).regs.set fr.into.toNat v};unfold putF Zu zN;have e1:(a.frs++[fr]).length-1=a.frs.length:=by simp
  have e2:(a.frs++[fr]).length-2=a.frs.length-1:=by simp
  have e3:(a.frs++[fr]).getD (a.frs.length-1) default=a.frs.getD (a.frs.length-1) default:=by
   simp only[QI];rw[Qe (by omega)]
  have e4:(a.frs++[fr]).getD a.frs.length default=fr:=by simp[QI]
  simp only[e1,e2,e3,e4];rw[List.set_append_left _ _ (by omega),List.take_append_of_le_length (by simp),Ql (by simp)]
theorem zHA{T:List WK}{F:List Wk}{inn:List Int}{l:List BZ}(h:yp (zAf T F inn l).1=true):yl T F=0:=by
 unfold zAf at h;split at h
 ·rename_i hB;exact zHu.1 hB
 ·rename_i hB;unfold Zo at h hB;split at h
  ·cases h
  ·rename_i hs;exact(zBa (by simpa using hs)).1
theorem FM.frs{b:Nat}{h:WG}{vm vf vi ve:Value}{a:Wb}(o:FM b h (mC vm vf vi ve a) a):BN h vf a.frs:=by
 obtain⟨vm',vf',vi',ve',e,_,k⟩:=o.ex;simp only[JB]at e;obtain⟨rfl,rfl,rfl,_⟩:=e;exact(k h (fun _ _ _=>rfl) (QE _)).1
theorem zF9(h:WG)(vt vf:Value)(T:List WK)(F:List Wk)(vx:Value)(l:List BZ)(cx:List Value)(x:BZ)(v:Wi)(tt:By h)(hm:h.mark<=h.n)(st:Bh h vt T)(sf:BC h vf F)(sl:SlA h vx l)(rx:B8 h cx x)(hT:(T.length:Int)<=1152921504606846976)(hF:(F.length:Int)<=1152921504606846976)(hl:(l.length:Int)<=1152921504606846976):
  WC Tryz.prog tb 7 [.agg #[vt,vf],vx,.agg cx.toArray,.agg #[.int .u8 v.kind,I v.n,I v.block,I v.pos]] h fun r h'=>r=.bool true:=by
 obtain⟨va,rfl,sa,hla,hk0,hk255⟩:=rx;obtain⟨a1,a2,a3,rfl⟩:=zd sa;refine en ?_;refine VG ?_;intro p4 h1 e1 o4;replace o4:WI h h1 p4 [vt,vf]:=o4;refine go ?_;refine VG ?_;intro p6 h2 e2 o6;replace o6:WI h1 h2 p6 [.int .u8 x.kind,I x.n,I x.into,.int .u8 x.v.kind,I x.v.n,I x.v.block,I x.v.pos,.slice a1 a2 a3]:=o6;refine go ?_;refine VG ?_;intro p7 h3 e3 o7;replace o7:WI h2 h3 p7 [.int .u8 v.kind,I v.n,I v.block,I v.pos]:=o7;have e03:=e1.trans (e2.trans e3);have o4:=o4.ext (e2.trans e3);have o6:=o6.ext e3;refine go ?_;refine VA (zMM h3 (tt.ext e03).1) ?_;rintro _ _ ⟨rfl,rfl⟩;refine go ?_;refine VA (zK7 h3 vt vf T F 100 (by omega) (st.ext e03) (BC.ext sf e03) (by omega) (by omega)) ?_;rintro rr h4 ⟨hr,e4⟩;rcases hr with rfl|⟨rfl,sm,smi⟩
 ·refine go ?_;refine gr ?_;rfl
 have e04:=e03.trans e4;have o4:=o4.ext e4;have o6:=o6.ext e4;have o7:=o7.ext e4;refine go ?_;refine VA (zNA h4 vx l (sl.ext e04) hl) ?_;rintro _ _ ⟨rfl,rfl⟩;cases hhv:zDs l with
 |true=>
  refine go ?_;refine gr ?_;rfl
 |false=>
  obtain⟨hl50,hx10⟩:=zMP hhv;by_cases h10:10<x.args.length
  ·have h10':(10:Int)<(x.args.length:Int):=by omega
   have sa4:=BA.ext sa e04;refine go ?_;refine gr ?_;rfl
  have h10':¬(10:Int)<(x.args.length:Int):=by omega
  have sa4:=BA.ext sa e04;have E4:B5 h4 vt vf T F:=⟨tt.ext e04,yJ e04 hm,sm,st.ext e04,BC.ext sf e04⟩;refine go ?_;refine VA (zLN E4 (.slice none 0 0) [] ⟨by simp,.inl ⟨rfl,.inl rfl⟩⟩ (by simp) vx l (sl.ext e04) hl50 hx10) ?_;rintro _ h5 ⟨⟨csA,rfl,fmA,okA⟩,e5⟩;have hrp:=zHA (T:=T) (F:=F) (inn:=[]) (l:=l);generalize zAf T F [] l=A at *;obtain⟨m1,m2,m3,n1,n2,n3,i1,i2,i3,v1,v2,v3,rfl⟩:=fmA.shape;refine go ?_;refine VJ ?_;intro p10 h6 e6 o10;refine go ?_;refine VF (cs:=mC (.slice m1 m2 m3) (.slice n1 n2 n3) (.slice i1 i2 i3) (.slice v1 v2 v3) A.1) o10 e6 ?_;intro h7 e7 o10' u7;have e47:=e5.trans e7;have o4:=o4.ext e47;have o6:=o6.ext e47;have o7:=o7.ext e47;have fmA7:=fmA.ext e7;have sa7:=BA.ext sa4 e47;refine go ?_;refine VA (zGx (E4.ext e47) A.1 hrp _ fmA7 (by have:=okA.fl;omega) x.n _ x.args sa7 (by omega) x.into) ?_;rintro _ h8 ⟨⟨csC,rfl,fmC⟩,e8⟩;have hcr:= @zMG T F A.1 x.n x.into x.args v;have hokC:yp A.1=true->BH T F 52 (YV T F A.1 x.n x.args x.into).1:=fun q=>zJ9 (hrp q) okA x.n x.args x.into;generalize YV T F A.1 x.n x.args x.into=C at *;obtain⟨c1,c2,c3,d1,d2,d3,g1,g2,g3,k1,k2,k3,rfl⟩:=fmC.shape;refine go ?_;refine VJ ?_;intro p12 h9 e9 o12;refine go ?_;refine VF (cs:=mC (.slice c1 c2 c3) (.slice d1 d2 d3) (.slice g1 g2 g3) (.slice k1 k2 k3) C.1) o12 e9 ?_;intro h10 e10 o12' u12;have e710:=e8.trans e10;have o6:=o6.ext e710;have o7:=o7.ext e710;have o10:=o10'.ext e710;have fmA10:=fmA7.ext e710;have fmC10:=fmC.ext e10;cases hA:A.2 with
  |false=>
   refine go ?_;refine gr ?_;rfl
  |true=>
   by_cases hC:C.2=0;case neg=>
    refine go ?_;refine gr ?_;rfl
   obtain⟨hrA,hCe,hasA⟩:=hcr hC;refine go ?_;have okC:=hokC hrA;have hm10:h10.mark<=h10.n:=yJ (e04.trans (e47.trans e710)) hm;refine VA (zD8 h10 _ C.1 fmC10 hm10 v okC.ret) ?_;rintro _ h11 ⟨⟨csR,rfl,fmR⟩,e11⟩;have hrs:= @zOw A.1 (ZH T F x.n x.args x.into) v hrA hasA;rw[<-hCe]at hrs;have hlC:C.1.frs.length=A.1.frs.length+1:=by rw[hCe];simp
   have hfi:(ZH T F x.n x.args x.into).into=x.into:=rfl;rw[hfi]at hrs;clear hCe hokC hcr;generalize yg C.1 v=RT at *;obtain⟨x1,x2,x3,y1,y2,y3,z1,z2,z3,w1,w2,w3,rfl⟩:=fmR.shape;refine go ?_;refine VJ ?_;intro p14 h12 e12 o14;refine go ?_;refine VF (cs:=mC (.slice x1 x2 x3) (.slice y1 y2 y3) (.slice z1 z2 z3) (.slice w1 w2 w3) RT.1) o14 e12 ?_;intro h13 e13 o14' u14;have e1013:=e11.trans e13;have o6:=o6.ext e1013;have o7:=o7.ext e1013;have o10:=o10.ext e1013;have o12:=o12'.ext e1013;have fmA13:=fmA10.ext e1013;have fmC13:=fmC10.ext e1013;have fmR13:=fmR.ext e13;have frA:=fmA13.frs;have frC:=fmC13.frs;have hlA:=okA.fl;have hl1:(C.1.frs.length:Int)=(A.1.frs.length:Int)+1:=by omega
   rcases hrs with h2|⟨hr0,hs0,hRS,hst⟩
   ·rw[h2];refine gr ?_;rfl
   refine go ?_;refine VA (zJz h13 _ A.1 fmA13 (yJ (e04.trans (e47.trans (e710.trans e1013))) hm) x.into v) ?_;rintro _ h14 ⟨⟨csS,rfl,fmS⟩,e14⟩;generalize B6 A.1 x.into v=S at *;obtain⟨x1',x2',x3',y1',y2',y3',z1',z2',z3',w1',w2',w3',rfl⟩:=fmS.shape;refine go ?_;refine VJ ?_;intro p16 h15 e15 o16;refine go ?_;refine VF (cs:=mC (.slice x1' x2' x3') (.slice y1' y2' y3') (.slice z1' z2' z3') (.slice w1' w2' w3') S.1) o16 e15 ?_;intro h16 e16 o16' u16;have o14:=o14'.ext (e14.trans e16);have rmR:=(fmR13.ext (e14.trans e16)).rm;have rmS:=(fmS.ext e16).rm;rw[hs0];refine go ?_;refine VA (zHP h16 _ _ RT.1 S.1 rmR rmS) ?_;rintro _ h17 ⟨rfl,e17⟩;refine go ?_;rw[QT hRS];refine gr ?_;rfl
end Go.Proofs.YtmilpkdhbdgjfaaGreatDoor
