/- Walks of functions, plain laws; proves no statement. -/
import Derived.Test.YtmilpkdhbdgjfaaGreatDoorJj
set_option linter.all false
set_option maxHeartbeats 4000000
set_option maxRecDepth 100000
namespace Go.Proofs.YtmilpkdhbdgjfaaGreatDoor
open Go.Am
theorem zEP:∀ l:List Wm,0<=yI l
 |[]=>by simp[yI]
 |b::l=>by have:=zEP l;unfold yI at *;simp;omega
theorem Ud{P:Program}{tab:Ww}{t:WJ Value}{h:WG}{ds:List Deferred}{rd:Option Nat}{l:List WH}{Q:WT->WG->Prop}{d:Nat}{x y:Operand}{a b:Int}(r:Int)(hr:r=if a<b then b else a)(k:WO P tab l ⟨t.set d (I r),ds,rd⟩ h Q)(hx:WR t x (I a):=by exact zY)(hy:WR t y (I b):=by exact zY):WO P tab (⟨some d,none,.maxmin true [x,y]⟩::l) ⟨t,ds,rd⟩ h Q:=by
 have hx:ev t x=I a:=hx;have hy:ev t y=I b:=hy;refine WO.op (I r) h rfl ?_ k;subst hr;simp only[WP,hx,hy,Q6,Gp];rfl
def Zx(T:List WK)(F:List Wk)(f:Int):Int:=((T.getD (F.getD f.toNat default).sig.toNat default).parts.length:Int)+yI (F.getD f.toNat default).blocks
theorem zBK{T:List WK}{F:List Wk}(hp:yl T F=0){f:Int}(hf:0<=f/\f<(F.length:Int)):Ym T F f=(Zx T F f,0)/\0<=Zx T F f/\Zx T F f<=300:=by
 have hask:yb T F f=(((T.getD (F.getD f.toNat default).sig.toNat default).parts.length:Int),0):=by
  unfold yb;rw[QC (fun e=>e hp),QG (by unfold za;simp;omega)]
 have Z:=zOb hp hf;have h1:=Z.many;have h2:=Z.par4;have h3:=zEP (F.getD f.toNat default).blocks;unfold z0 at h1;unfold Yu at h2;unfold Zx;refine⟨?_,by omega,by omega⟩;unfold Ym;rw[hask];simp
def ZX(T:List WK)(F:List Wk)(f:Int)(args:List Wi)(into:Int):BT:=⟨f,0,0,args++List.replicate ((Zx T F f).toNat-args.length) v0,into⟩
theorem zJh{z:List Value}{c:Nat}(hz:z.length=c):∀ (n i:Nat),i<n->((zS z n).drop (i*c)).take c=z
 |0,i,h=>absurd h (Ql _)
 |n+1,0,_=>by
  rw[G7,Qx];show(z++zS z n).take c=z;rw[List.take_append_of_le_length (by omega),Qn (by omega)]
 |n+1,i+1,h=>by
  have e:(zS z (n+1)).drop ((i+1)*c)=(zS z n).drop (i*c):=by
   show(z++zS z n).drop ((i+1)*c)=_;rw[GW,Nat.add_comm,<-GZ,List.drop_append_of_le_length (by omega),List.drop_of_length_le (l:=z) (by omega),GD]
  rw[e];exact zJh hz n i (by omega)
theorem zGL{z:List Value}:∀ n,(zS z n).length=n*z.length
 |0=>by simp[zS]
 |n+1=>by
  show(z++zS z n).length=_;rw[QW,zGL n,GW,Nat.add_comm]
section
variable {h:WG}{vt vf:Value}{T:List WK}{F:List Wk}
theorem zHT(E:B3 h vt vf T F)(hp:yl T F=0){f:Int}(hf:0<=f/\f<(F.length:Int))(va:Value)(args:List Wi)(sa:BA h va args)(ha:args.length<=100)(into:Int):
  WC Tryz.prog tb 33 [.agg #[vt,vf],I f,va,I into] h fun r h'=>(∃ v,r=.agg #[I f,I 0,I 0,v,I into]/\WZ 4 W5 h.n h' v (ZX T F f args into).regs)/\WL h h':=by
 obtain⟨hr,hn0,hn3⟩:=zBK hp hf;have hR:=zGK h vt vf T F f E.tt E.hm E.sm E.st E.sf;obtain⟨a1,a2,a3,rfl⟩:=zb sa;refine en ?_;refine VG ?_;intro p h1 e1 o1;replace o1:WI h h1 p [vt,vf]:=o1;refine go ?_;refine VJ ?_;intro p8 h2 e2 o2;have o12:=o1.ext e2;have e02:=e1.trans e2;have E2:=E.ext e02;have hR:=zGK h2 vt vf T F f E2.tt E2.hm E2.sm E2.st E2.sf;rw[hr]at hR;refine go ?_;refine VA hR ?_;rintro _ h3 ⟨rfl,e3⟩;have o23:=o2.ext e3;have e03:=e02.trans e3;have sa3:=BA.ext sa e03;obtain⟨N,hN⟩:∃ N:Nat,Zx T F f=N:=⟨(Zx T F f).toNat,by omega⟩;obtain⟨m,hm⟩:∃ m:Nat,m=args.length+(N-args.length):=⟨_,rfl⟩;have hregs:(ZX T F f args into).regs=args++List.replicate (N-args.length) v0:=by unfold ZX;simp only;rw[hN,Q2]
 rw[hregs];rw[hN]at hn3 |-;refine go ?_;refine Ud (a:=(N:Int)) (b:=(args.length:Int)) (m:Int) (by split<;>omega) ?_;refine go ?_;refine XZ (n:=m) (by omega) ?_;intro h4 e4 n4 g4;have o24:=o23.ext e4;have sa4:=BA.ext sa3 e4;obtain⟨ys,s4,hys⟩:=sa4;have h1:zH ys=true:=zGU (by decide:0<4) s4.1 fun i hi=>by
  have:=hys i args[i] (QB hi);rw[show _=_ from this];rfl
 have hrl:(zS [.int .u8 0,I 0,I 0,I 0] m).length=m*4:=zGL m;refine go ?_;refine Xh (off:=0) (n:=m) (k:=args.length) g4 s4 (by decide) (by omega) (by rw[s4.1,hrl];omega) h1 ?_;intro h5 n5 k5 g5 w5 m5 wr5;have e35:WL h3 h5:=⟨by rw[n5,n4];omega,fun k hk=>by rw[k5 k (by omega)];exact e4.get k hk,fun w=>w5 (e4.wf w),m5.trans e4.mark,fun hmk=>(wr5 (by rw[e4.mark];omega)).trans (e4.wr hmk)⟩;have o25:=o23.ext e35;have ow:WZ 4 W5 h3.n h5 (.slice (some ⟨h3.n,0,none⟩) m 4) (args++List.replicate (N-args.length) v0):=by
  have hl:(args++List.replicate (N-args.length) v0).length=m:=by simp[hm]
  refine .inr ⟨h3.n,_,fun _=>False,QE _,by rw[n5,n4];omega,by rw[hl],g5,?_,id,fun _ h=>h.elim,fun i x hx hq _ _=> ?_⟩
  ·rw[hl,Ye (by rw[s4.1,hrl];omega),hrl]
  ·have hi:i<m:=by have:=(QN.1 hx).1;omega
   show((zL (zS [.int .u8 0,I 0,I 0,I 0] m) 0 ys).drop (i*4)).take 4=_;have hpa:zL (zS [.int .u8 0,I 0,I 0,I 0] m) 0 ys=ys++(zS [.int .u8 0,I 0,I 0,I 0] m).drop (args.length*4):=by
    unfold zL;rw[Q9,GD,Qk,s4.1]
   rw[hpa];by_cases hi2:i<args.length
   ·rw[Qf hi2]at hx;have:=hys i x hx;rw[List.drop_append_of_le_length (by rw[s4.1];omega),List.take_append_of_le_length (by rw[Gk,s4.1];omega)];exact this
   ·rw[Qu (by omega),List.getElem?_replicate]at hx;split at hx
    ·cases hx;rw[show i*4=args.length*4+(i-args.length)*4 by omega,<-GZ,List.drop_append_of_le_length (by rw[s4.1];omega),List.drop_of_length_le (l:=ys) (by rw[s4.1];omega),GD,GZ,<-Ge,show args.length+(i-args.length)=i by omega];exact zJh (z:=[.int .u8 0,I 0,I 0,I 0]) (c:=4) rfl m i hi
    ·cases hx
 refine go ?_;refine VF (cs:=[I f,I 0,I 0,.slice (some ⟨h3.n,0,none⟩) m 4,I into]) o25 (e2.trans (e3.trans e35)) ?_;intro h6 e6 o6 u6;refine gr ?_;refine⟨⟨_,rfl,?_⟩,e1.trans e6⟩;refine(ow.upd (fun k h1 h2=>u6.2 k h2 fun e=> ?_) u6.1).base e03.n;have:=o23.within k (by rw[e];rfl);omega
noncomputable def Z0(T:List WK)(F:List Wk)(inn:List Int):Wb×Int:=if zAg T F≠0 then(zM,zAg T F)else if 64<inn.length then(zM,4)else(⟨[],[ZX T F 0 [] 0],inn,0,[],0,0,1,0,0⟩,0)
theorem zLA(E:B3 h vt vf T F)(vi:Value)(inn:List Int)(si:Wd h vi inn)(hl:(inn.length:Int)<=1152921504606846976):
  WC Tryz.prog tb 8 [.agg #[vt,vf],vi] h fun w h'=>(∃ cs,w=.tuple #[.agg cs.toArray,I (Z0 T F inn).2]/\FM h.n h' cs (Z0 T F inn).1)/\WL h h':=by
 obtain⟨b1,b2,b3,rfl⟩:=Wv.shape si;refine en ?_;refine VG ?_;intro p h1 e1 o1;replace o1:WI h h1 p [vt,vf]:=o1;refine go ?_;refine VJ ?_;intro p4 h2 e2 o2;have o12:=o1.ext e2;have e02:=e1.trans e2;refine go ?_;refine VA (zK2 h2 vt vf T F (E.ext e02)) ?_;rintro _ h3 ⟨rfl,e3⟩;have o13:=o12.ext e3;have o23:=o2.ext e3;have e03:=e02.trans e3;have si3:=si.ext e03;by_cases hs:zAg T F=0;case neg=>
  have hs':zAg T F≠0:=hs;rw[show Z0 T F inn=(zM,zAg T F)from QG hs];refine go ?_;refine VF (cs:=[.slice none 0 0,.slice none 0 0,.slice none 0 0,I 0,.slice none 0 0,I 0,I 0,.int .u8 0,I 0,I 0]) o23 (e2.trans e3) ?_;intro h5 e5 o5 u5;refine gr ?_;have e05:=e1.trans e5;exact⟨⟨_,rfl,FM.zero e05.n⟩,e05⟩
 have hp:=(zEK hs).1;obtain⟨hc,hF1,hF8,hfn⟩:=Z4 hp;clear hc hfn;by_cases h64:64<inn.length
 ·rw[show Z0 T F inn=(zM,4)from by unfold Z0;rw[QC (fun e=>e hs),QG h64],hs];refine go ?_;refine VF (cs:=[.slice none 0 0,.slice none 0 0,.slice none 0 0,I 0,.slice none 0 0,I 0,I 0,.int .u8 0,I 0,I 0]) o23 (e2.trans e3) ?_;intro h5 e5 o5 u5;refine gr ?_;have e05:=e1.trans e5;exact⟨⟨_,rfl,FM.zero e05.n⟩,e05⟩
 rw[show Z0 T F inn=(⟨[],[ZX T F 0 [] 0],inn,0,[],0,0,1,0,0⟩,0)from by unfold Z0;rw[QC (fun e=>e hs),QC h64],hs];obtain⟨-,hn0,hn3⟩:=zBK hp (f:=0) ⟨by omega,by omega⟩;refine go ?_;refine VA (zHT (E.ext e03) hp (f:=0) ⟨by omega,by omega⟩ (.slice none 0 0) [] (Bp.sl (.inl rfl)) (by simp) 0) ?_;rintro _ h4 ⟨⟨v,rfl,ow⟩,e4⟩;obtain⟨w1,w2,w3,rfl⟩:=zb ow.sl;refine go ?_;refine V8 (cs:=[I 0,I 0,I 0,.slice w1 w2 w3,I 0]) ?_;intro h5 e5 n5 s5 g5;refine go ?_;refine VA (zE0 h5 _ inn (si3.ext (e4.trans e5)) (by omega)) ?_;rintro vi' h6 ⟨oi,e6⟩;obtain⟨i1,i2,i3,rfl⟩:=Wv.shape oi.sl;have e36:=(e4.trans e5).trans e6;have o26:=o23.ext e36;refine go ?_;refine VF (cs:=[.slice none 0 0,.slice (some ⟨h4.n,0,none⟩) 1 5,.slice i1 i2 i3,I 0,.slice none 0 0,I 0,I 0,.int .u8 1,I 0,I 0]) o26 (e2.trans (e3.trans e36)) ?_;intro h7 e7 o7 u7;refine gr ?_;have ow6:=(ow.ext e5).ext e6;have hwb:=ZQ ow;have hib:=oi.since';have M6:OM h3.n h6 (.slice (some ⟨h4.n,0,none⟩) 1 5) (.slice i1 i2 i3) [⟨0,0,0,.slice w1 w2 w3,0⟩] ⟨[],[ZX T F 0 [] 0],inn,0,[],0,0,1,0,0⟩:=by
  have h1:∀ i,i<1->i=0:=fun i hi=>by omega
  refine⟨.inr ⟨h4.n,_,fun _=>False,e4.n,by have:=e6.n;rw[n5]at this;omega,rfl,(e6.get _ (by omega)).trans g5,rfl,id,fun _ h=>h.elim,fun i x hx hq _ _=> ?_⟩,rfl,fun i hi=> ?_,fun i hi=> ?_,fun j k hj hk=> ?_,fun i hi g k1 k2=> ?_,⟨h5,?_,oi⟩,⟨fun g k1 k2=> ?_,fun i hi g k1 k2=> ?_⟩,?_,⟨rfl,rfl⟩,by simp,by simp only;omega,fun i hi=> ?_⟩
  ·have hi:=h1 i (QN.1 hx).1;subst hi;simp at hx;subst hx;exact⟨rfl,rfl⟩
  ·obtain rfl:=h1 i hi;exact⟨rfl,rfl,rfl,rfl⟩
  ·obtain rfl:=h1 i hi;exact ow6
  ·simp at hk;omega
  ·obtain rfl:=h1 i hi;have hg:h4.n=g:=by cases k1;rfl
   have:=(hwb g k2).2;omega
  ·have:=e4.n;omega
  ·have:=hib g k1;have hg:h4.n=g:=by cases k2;rfl
   omega
  ·obtain rfl:=h1 i hi;have:=hib g k1;have:=(hwb _ k2).2;omega
  ·exact e36.n
  ·obtain rfl:=h1 i hi;show(ZX T F 0 [] 0).regs.length<=1000;unfold ZX;simp;omega
 refine⟨⟨_,rfl,((M6.upd (fun k h1 h2=>u7.2 k h2 fun q=> ?_) u7.1).base e03.n).fm ⟨.inl rfl,.inl rfl⟩⟩,e1.trans e7⟩;have:=o23.within k (by rw[q];rfl);omega
end
end Go.Proofs.YtmilpkdhbdgjfaaGreatDoor
set_option maxRecDepth 100000
namespace Go.Proofs.YtmilpkdhbdgjfaaGreatDoor
open Go.Am
def zAi(T:List WK)(F:List Wk)(f:Int):List Int:=(T.getD (F.getD f.toNat default).sig.toNat default).parts
def B0(T:List WK)(F:List Wk)(a:Wb)(f:Int)(args:List Wi)(into:Int):Bool:=
 (decide (0<=f)&&decide (f<(F.length:Int)))&&decide (args.length=(zAi T F f).length)&&args.all Bk&&Yv a into
def zA8(T:List WK)(F:List Wk)(a:Wb)(f:Int)(args:List Wi)(into:Int):Wb×Int:=
 if yo a=false then(zM,160)else if B0 T F a f args into then({a with frs:=a.frs++[ZX T F f args into]},0)else(zM,2)
theorem Zw{α:Type}{c b:Nat}{R:WG->List Value->α->Prop}{h h':WG}{v:Value}{l:List α}(o:WZ c R b h v l)(hf:∀ h h' cs a,R h cs a->R h' cs a)(hv:∀ g,blk v=some g->h'.get g=h.get g)(hn:h.n<=h'.n):WZ c R b h' v l:=by
 rcases o with o|⟨g,cells,D,g1,g2,rfl,g3,g4,_,_,g7⟩
 ·exact .inl o
 ·exact .inr ⟨g,cells,fun _=>False,g1,QK g2 hn,rfl,(hv g rfl).trans g3,g4,id,fun _ h=>h.elim,fun i a ha hx _ _=>hf _ _ _ _ (g7 i a ha).self⟩
theorem zBL{hb h h':WG}{v:Value}{l:List Int}(o:Wc hb h v l)(hv:∀ g,blk v=some g->h'.get g=h.get g)(hn:h.n<=h'.n):Wc hb h' v l:=by
 rcases o with o|⟨g,g1,g2,rfl,g3⟩
 ·exact .inl o
 ·exact .inr ⟨g,g1,QK g2 hn,rfl,(hv g rfl).trans g3⟩
theorem ZZ{α:Type}[Inhabited α]{l:List α}{x:α}{i:Nat}(hi:i<(l++[x]).length):(l++[x]).getD i default=if i<l.length then l.getD i default else x:=by
 simp only[QW,QZ]at hi;by_cases q:i<l.length
 ·rw[QG q];simp[List.getD,Qf q]
 ·rw[QC q,show i=l.length by omega];simp[List.getD]
theorem OM.call{b gf gq nf:Nat}{h H:WG}{vi vf':Value}{xs:List Br}{a:Wb}{x:Br}{fr:BT}(M:OM b h (.slice (some ⟨gf,0,none⟩) nf 5) vi xs a)(kH:∀ k,k<h.n->k≠gf->k≠gq->H.get k=h.get k)(hn:h.n<=H.n)
  (dq2:Wp (.pointer (some ⟨gq,0,none⟩)) vi) (dq3:∀ i,i<xs.length->Wp (.pointer (some ⟨gq,0,none⟩)) (xs.getD i default).v) (oY:WZ 5 B7 b H vf' (xs++[x])) (hv:∀ g,blk vf'=some g->h.n<g/\∀ g',blk x.v=some g'->g'<g)
  (ow:WZ 4 W5 b H x.v fr.regs) (hw:∀ g,blk x.v=some g->h.n<g) (h99:a.frs.length<=99) (hreg:fr.regs.length<=1000) (rel:zGq x fr):OM b H vf' vi (xs++[x]) {a with frs:=a.frs++[fr]}:=by
 have hlx:=M.lx;have keepR:∀ i,i<xs.length->WZ 4 W5 b H (xs.getD i default).v (a.frs.getD i default).regs:=fun i hi=>Zw (M.rg i hi) (fun _ _ _ _ r=>r) (fun g hg=>kH g ((M.rg i hi).within g hg) (fun e=>M.offF i hi gf rfl (by rw[<-e];exact hg)) (fun e=>dq3 i hi gq rfl (by rw[<-e];exact hg))) hn;obtain⟨hb,hb1,oi⟩:=M.i;refine⟨oY,by simp[hlx],fun i hi=> ?_,fun i hi=> ?_,fun j k hj hk=> ?_,fun i hi=> ?_,⟨hb,hb1,zBL oi (fun g hg=>kH g (oi.within g hg) (fun e=>M.offI.1 g hg (by rw[e];rfl)) (fun e=>dq2 gq rfl (by rw[<-e];exact hg))) hn⟩,⟨fun g k1 k2=> ?_,fun i hi=> ?_⟩,QO M.bn hn,M.nm,by simp;omega,M.li,fun i hi=> ?_⟩
 ·rw[ZZ hi,ZZ (by simpa [hlx]using hi),<-hlx];split
  ·rename_i q;exact M.rel i q
  ·exact rel
 ·rw[ZZ hi,ZZ (by simpa [hlx]using hi),<-hlx];split
  ·rename_i q;exact keepR i q
  ·exact ow
 ·rw[ZZ (by omega),ZZ hk];have hj2:j<xs.length:=by simp at hk;omega
  rw[QG hj2];split
  ·rename_i q;exact M.off j k hj q
  ·intro g k1 k2;have:=(M.rg j hj2).within g k1;have:=hw g k2;omega
 ·rw[ZZ hi];split
  ·rename_i q;intro g k1 k2;have:=(M.rg i q).within g k2;have:=(hv g k1).1;omega
  ·intro g k1 k2;have:=(hv g k1).2 g k2;omega
 ·have:=oi.within g k1;have:=(hv g k2).1;omega
 ·rw[ZZ hi];split
  ·rename_i q;exact M.offI.2 i q
  ·intro g k1 k2;have:=oi.within g k1;have:=hw g k2;omega
 ·rw[ZZ hi];split
  ·rename_i q;exact M.lr i q
  ·exact hreg
section
variable {h:WG}{vt vf:Value}{T:List WK}{F:List Wk}
theorem B3.as(E:B3 h vt vf T F)(n:Nat):B3 (inC (zB n h)) vt vf T F:=by
 have E':=E.ext (zO n h);exact⟨E'.tt,QE _,E'.sm,E'.st,E'.sf⟩
theorem zLz(E:B3 h vt vf T F)(a:Wb)(hp0:yo a=true->yl T F=0)(ca:List Value){b:Nat}(ra:FM b h ca a)(h99:a.frs.length<=99)(f:Int)(va:Value)(args:List Wi)(sa:BA h va args)(ha:args.length<=10)(into:Int):
  WC Tryz.prog tb 14 [.agg #[vt,vf],.agg ca.toArray,I f,va,I into] h fun w h'=>(∃ cs,w=.tuple #[.agg cs.toArray,I (zA8 T F a f args into).2]/\FM h.n h' cs (zA8 T F a f args into).1)/\WL h h':=by
 have rm0:=ra.rm;have om0:=ra;have hm:=E.hm;obtain⟨am,af,ai,ae,rfl,_,_⟩:=ra.ex;obtain⟨t1,t2,t3,rfl⟩:=zQ E.st;obtain⟨f1,f2,f3,rfl⟩:=zQ E.sf;obtain⟨a1,a2,a3,rfl⟩:=zb sa;refine en ?_;refine VG ?_;intro p5 h1 e1 o5;replace o5:WI h h1 p5 [.slice t1 t2 t3,.slice f1 f2 f3]:=o5;have hp5:=o5.within;refine go ?_;refine VG ?_;intro p6 h2 e2 o6;replace o6:WI h1 h2 p6 [am,af,ai,I a.used,ae,I a.steps,I a.heaps,.int .u8 a.state,I a.trap,I a.exit]:=o6;refine go ?_;refine VJ ?_;intro p10 h3 e3 o10;have hp10:=o10.within;have e03:=e1.trans (e2.trans e3);have o5:=o5.ext (e2.trans e3);have o6:=o6.ext e3;refine go ?_;refine VA (zA9 h3 _ a (rm0.ext e03)) ?_;rintro _ h4 ⟨rfl,e4⟩;have o5:=o5.ext e4;have o6:=o6.ext e4;have o10:=o10.ext e4;have o10s:=o10;have e04:=e03.trans e4;by_cases hr:yo a=true;case neg=>
  have hr:yo a=false:=by simpa using hr
  rw[show zA8 T F a f args into=(zM,160)from QG hr,hr];refine go ?_;refine VF (cs:=[.slice none 0 0,.slice none 0 0,.slice none 0 0,I 0,.slice none 0 0,I 0,I 0,.int .u8 0,I 0,I 0]) o10 (e3.trans e4) ?_;intro h5 e5 o5 u5;refine gr ?_;have e05:=(e1.trans e2).trans e5;exact⟨⟨_,rfl,FM.zero e05.n⟩,e05⟩
 rw[hr];have hp:=hp0 hr;obtain⟨hc,hF1,hF8,hfn⟩:=Z4 hp;clear hc hfn;have hne:=Zt hr;refine go ?_;refine VA (zGj h4 _ a (om0.ext e04) (by rw[e04.mark];exact QO hm e04.n) hne) ?_;rintro _ h5 ⟨⟨gq,gf,nf,vm',vi',ve',xs',rfl,oq,nb',M',dq1,dq2,dq3⟩,e5⟩;have o5:=o5.ext e5;have o10:=o10.ext e5;have e05:=e04.trans e5;obtain⟨m1,m2,m3,rfl⟩:=nb'.1.shape;obtain⟨i1,i2,i3,rfl⟩:∃ a n k,vi'=.slice a n k:=let⟨_,_,h2⟩:=M'.i;Wv.shape h2.sl;obtain⟨v1,v2,v3,rfl⟩:=nb'.2.shape;refine go ?_;refine VJ ?_;intro p12 h6 e6 o12;refine go ?_;refine VF (cs:=[zR (.slice (some ⟨gf,0,none⟩) nf 5) ((a.frs.length-1)*5),.pointer (some ⟨gq,0,none⟩)]) o12 e6 ?_;intro h7 e7 o12' u12;have hp12:=o12.since';replace o12:=o12';clear o12' u12;have o5:=o5.ext e7;have o10:=o10.ext e7;have e07:=e05.trans e7;have M7:=M'.ext e7;have oq7:=oq.ext e7;have E7:=E.ext e07;have sa7:=BA.ext sa e07;have e27:=(((e3.trans e4).trans e5).trans e7);refine go ?_;refine VK (fun t h8=>WL h7 h8/\zC t 55=.bool (!B0 T F a f args into)) ?_ ?_
 ·have o5Y:WI h (inC (zB 0 h7)) p5 [.slice t1 t2 t3,.slice f1 f2 f3]:=o5;have saY:BA (inC (zB 0 h7)) (.slice a1 a2 a3) args:=sa7;have sfY:BD (inC (zB 0 h7)) (.slice f1 f2 f3) F:=E7.sf;have stY:Bi (inC (zB 0 h7)) (.slice t1 t2 t3) T:=E7.st;have e7Y:WL h7 (zx h7 (inC (zB 0 h7))):=WL.refl _;refine VC 0 rfl rfl ?_;by_cases f0:f<0
  ·have hk:B0 T F a f args into=false:=by unfold B0;rw[QM (by omega)];simp
   rw[hk];refine Wg ?_;exact zD ⟨e7Y,WN⟩
  by_cases f9:(F.length:Int)<=f
  ·have hk:B0 T F a f args into=false:=by unfold B0;rw[QS (by omega:0<=f),QM (by omega:¬f<(F.length:Int))];simp
   rw[hk];refine Wg ?_;exact zD ⟨e7Y,WN⟩
  have Z:=zOb hp (f:=f) ⟨by omega,by omega⟩;have hsg:=Z.sig;obtain⟨csF,⟨vb,rfl,sb,hlb⟩,pxF,hsF⟩:=zd E7.sf (i:=f.toNat) (by omega);obtain⟨csT,⟨vp,rfl,sp,hpl⟩,pxT,hsT⟩:=zd E7.st (i:=(F.getD f.toNat default).sig.toNat) (by omega);have pcF:Wl (inC (zB 0 h7)) _ _ _:=(pxF _ (WL.refl _)).2;have pcT:Wl (inC (zB 0 h7)) _ _ _:=(pxT _ (WL.refl _)).2;have spY:Wd (inC (zB 0 h7)) vp (zAi T F f):=sp;have hpars:(T.getD (F.getD f.toNat default).sig.toNat default).parts=zAi T F f:=rfl;rw[hpars]at hpl;obtain⟨vp1,vp2,vp3,rfl⟩:=Wv.shape sp;have hokf:(decide (0<=f)&&decide (f<(F.length:Int)))=true:=by simp;omega
  generalize T.getD (F.getD f.toNat default).sig.toNat default=PT at *;generalize hFD:F.getD f.toNat default=FD at *;by_cases hl:args.length=(zAi T F f).length;case neg=>
   have hk:B0 T F a f args into=false:=by unfold B0;rw[QM hl];simp
   rw[hk];have hl':¬(args.length:Int)=((zAi T F f).length:Int):=by omega
   refine Wg ?_;exact zD ⟨e7Y,WN⟩
  have hl':(args.length:Int)=((zAi T F f).length:Int):=by omega
  refine Wg ?_;refine VA (zFw _ _ args saY (by omega)) ?_;rintro _ X ⟨rfl,eX⟩;refine nE eX ?_;have e7X:WL h7 (zx h7 X):=(zO 0 h7).trans (yT (h:=h7) eX);have o12X:WI h5 (inC X) p12 [zR (.slice (some ⟨gf,0,none⟩) nf 5) ((a.frs.length-1)*5),.pointer (some ⟨gq,0,none⟩)]:=WI.ext (h':=X) (show WI h5 (inC (zB 0 h7)) p12 _ from o12) eX;by_cases hv:args.all Bk=true;case neg=>
   have hv:args.all Bk=false:=by simpa using hv
   have hk:B0 T F a f args into=false:=by unfold B0;rw[hv];simp
   rw[hk,hv];refine Wg ?_;exact zD ⟨e7X,WN⟩
  rw[hv];have frX:BE (inC X) (.slice (some ⟨gf,0,none⟩) nf 5) a.frs:=BE.ext (h':=zx h7 X) M7.fr e7X;refine Wg ?_;refine VA (zGu (inC X) (.slice (some ⟨gf,0,none⟩) nf 5) _ a.frs (a.frs.length-1) into ⟨_,_,_,rfl⟩ frX (by omega)) ?_;rintro _ Y ⟨rfl,eY⟩;refine nE eY ?_;have e7Y2:WL h7 (zx h7 Y):=e7X.trans (yT (h:=h7) eY);have hq:(decide (0<=into)&&decide (into<((a.frs.getD (a.frs.length-1) default).regs.length:Int)))=Yv a into:=rfl;rw[hq];have hk:B0 T F a f args into=Yv a into:=by unfold B0;rw[hokf,QS hl,hv];simp
  rw[hk];cases Yv a into with
  |true=>
   refine Wg ?_;exact zD ⟨e7Y2,WN⟩
  |false=>
   refine Wg ?_;exact zD ⟨e7Y2,WN⟩
 rintro t8 h8 hsame ⟨e8,s55⟩;have o5:=o5.ext e8;have o10:=o10.ext e8;have o12:=o12.ext e8;have e08:=e07.trans e8;have M8:=M7.ext e8;have oq8:=oq7.ext e8;have sa8:=BA.ext sa7 e8;have e28:=e27.trans e8;by_cases hk:B0 T F a f args into=true;case neg=>
  have hk:B0 T F a f args into=false:=by simpa using hk
  rw[hk]at s55;rw[show zA8 T F a f args into=(zM,2)from by unfold zA8;rw[QC (by rw[hr];decide),hk];rfl];refine go ?_;refine VF (cs:=[.slice none 0 0,.slice none 0 0,.slice none 0 0,I 0,.slice none 0 0,I 0,I 0,.int .u8 0,I 0,I 0]) o10 e28 ?_;intro h9 e9 o9 u9;refine gr ?_;have e09:=(e1.trans e2).trans e9;exact⟨⟨_,rfl,FM.zero e09.n⟩,e09⟩
 rw[hk]at s55;rw[show zA8 T F a f args into=({a with frs:=a.frs++[ZX T F f args into]},0)from by unfold zA8;rw[QC (by rw[hr];decide),hk];rfl];have hf:0<=f/\f<(F.length:Int):=by
  unfold B0 at hk;simp at hk;omega
 obtain⟨-,hn0,hn3⟩:=zBK hp hf;have hd12:Wp (.pointer (some ⟨gq,0,none⟩)) p12:=(VI (h:=h5) hp12 oq.within).symm;have hf12:Wp (.slice (some ⟨gf,0,none⟩) nf 5) p12:=(VI (h:=h5) hp12 M'.f.within).symm;obtain⟨g12,hg12a,hg12b,rfl,hg12c⟩:=id o12;obtain⟨g5,hg5a,hg5b,rfl,hg5c⟩:=id o5;have b12:¬g12=gf:=fun e=>hf12 gf rfl (by rw[<-e];rfl);have hgf:=ZQ M'.f gf rfl;have b5:¬g5=gf:=fun e=>by have:=hp5 g5 rfl;have:=e04.n;have:=(e2.trans (e3.trans e4)).n;omega
 have hgq:=oq.since' gq rfl;have hgq8:=oq8.within gq rfl;have bq:¬gq=gf:=dq1;have hgf8:=ZQ M8.f gf rfl;have hm8:h8.mark<=h4.n:=by rw[e08.mark];exact QO hm e04.n
 have hn45:=e5.n;have hn58:=(e7.trans e8).n;refine go ?_;refine VY (fun k=>k=gf) 1 rfl rfl ?_;have o5Y:WI h (inC (zB 1 h8)) (.pointer (some ⟨g5,0,none⟩)) [.slice t1 t2 t3,.slice f1 f2 f3]:=VX (o5.ext (zO 1 h8));have o12Y:WI h5 (inC (zB 1 h8)) (.pointer (some ⟨g12,0,none⟩)) [zR (.slice (some ⟨gf,0,none⟩) nf 5) ((a.frs.length-1)*5),.pointer (some ⟨gq,0,none⟩)]:=VX (o12.ext (zO 1 h8));have oqY:WI h4 (inC (zB 1 h8)) (.pointer (some ⟨gq,0,none⟩)) [.slice m1 m2 m3,.slice (some ⟨gf,0,none⟩) nf 5,.slice i1 i2 i3,I a.used,.slice v1 v2 v3,I a.steps,I a.heaps,.int .u8 a.state,I a.trap,I a.exit]:=VX (oq8.ext (zO 1 h8));have saZ:BA (zB 1 h8) (.slice a1 a2 a3) args:=BA.ext sa8 (zO 1 h8);have saY:BA (inC (zB 1 h8)) (.slice a1 a2 a3) args:=saZ;refine goV ?_;refine zJn (a:=⟨g5,0,none⟩) (k:=0) (by show WR _ _ (.pointer (some ⟨g5,0,none⟩));exact zY) b5 ?_;refine goV ?_;have E8:=(E.ext e08).as 1;refine VA (zHT E8 hp hf (.slice a1 a2 a3) args saY (by omega) into) ?_;rintro _ X ⟨⟨vr,rfl,ow⟩,eX⟩;obtain⟨w1,w2,w3,rfl⟩:=zb ow.sl;have hwb:=ZQ ow;replace hwb:∀ g,blk (.slice w1 w2 w3)=some g->h8.n+1<=g/\g<X.n:=hwb;refine WO.nil (zQl eX zBd ?_);have hnX:h8.n+1<=X.n:=eX.n;refine Ub (hS:=h8) (cs:=[I f,I 0,I 0,.slice w1 w2 w3,I into]) (⟨f,0,0,.slice w1 w2 w3,into⟩:Br) eX M8.f hm8 M8.bn (by decide) (by have:=M8.lx;omega) (fun _=>⟨rfl,rfl⟩) (fun k hk=>by cases hk;rfl) ?_;intro Y v'' lit nY kY oY sY wY;obtain⟨n',k',gv,rfl,hgv⟩:=sY;have kY8:∀ k,k<h8.n->k≠gf->Y.get k=h8.get k:=fun k hk hne=>(kY k (by omega) (by omega) (fun e=>hne (by cases e;rfl))).trans (eX.get k (by show k<h8.n+1;omega));have oqZ:WI h4 (inC Y) (.pointer (some ⟨gq,0,none⟩)) [.slice m1 m2 m3,.slice (some ⟨gf,0,none⟩) nf 5,.slice i1 i2 i3,I a.used,.slice v1 v2 v3,I a.steps,I a.heaps,.int .u8 a.state,I a.trap,I a.exit]:=by
  obtain⟨q,q1,q2,q3,q4⟩:=oq8;cases q3;exact⟨gq,q1,by show gq<Y.n;omega,rfl,(kY8 gq q2 bq).trans q4⟩
 have hYq:Y.get gq=some (.row [.slice m1 m2 m3,.slice (some ⟨gf,0,none⟩) nf 5,.slice i1 i2 i3,I a.used,.slice v1 v2 v3,I a.steps,I a.heaps,.int .u8 a.state,I a.trap,I a.exit] true 0):=by
  obtain⟨q,_,_,q3,q4⟩:=oqZ;cases q3;exact q4
 refine goV ?_;refine XH (q:=gq) (off:=1) (cs:=[.slice (some ⟨gv,0,none⟩) n' k']) hYq (QO hm8 hgq) (.inl rfl) ?_ (by simp) (hx:=by show WR _ _ (zu (.pointer (some ⟨gq,0,none⟩)) 1);exact zY);intro H nH kH gH wH mH wrH;have kH8:∀ k,k<h8.n->k≠gf->k≠gq->H.get k=h8.get k:=fun k hk h1 h2=>(kH k h2).trans (kY8 k hk h1);have hne8:h8.n<=H.n:=by omega
 have e48:=(e5.trans e7).trans e8;have e4H:WL h4 H:=⟨by have:=e48.n;omega,fun k hk=>(kH8 k (by have:=e48.n;omega) (by omega) (by omega)).trans (e48.get k hk),fun w=>wH (wY (eX.wf fun k hk=>e48.wf w k (by have hk:h8.n+1<=k:=hk;omega))),mH.trans e48.mark,fun hmk=>wrH.trans (e48.wr hmk)⟩;have e2H:WL h2 H:=(e3.trans e4).trans e4H;have oqH:WI h4 H (.pointer (some ⟨gq,0,none⟩)) [.slice m1 m2 m3,.slice (some ⟨gv,0,none⟩) n' k',.slice i1 i2 i3,I a.used,.slice v1 v2 v3,I a.steps,I a.heaps,.int .u8 a.state,I a.trap,I a.exit]:=⟨gq,hgq,by omega,rfl,gH⟩;have o12H:WI h5 H (.pointer (some ⟨g12,0,none⟩)) [zR (.slice (some ⟨gf,0,none⟩) nf 5) ((a.frs.length-1)*5),.pointer (some ⟨gq,0,none⟩)]:=⟨g12,hg12a,by omega,rfl,(kH8 g12 hg12b b12 (fun e=>hd12 gq rfl (by rw[e];rfl))).trans hg12c⟩;have hreg:(ZX T F f args into).regs.length<=1000:=by unfold ZX;simp;omega
 have MH:OM h4.n H (.slice (some ⟨gv,0,none⟩) n' k') (.slice i1 i2 i3) (xs'++[⟨f,0,0,.slice w1 w2 w3,into⟩]) {a with frs:=a.frs++[ZX T F f args into]}:=
  M8.call kH8 hne8 dq2 dq3 (Zw oY (fun _ _ _ _ r=>r) (fun g hg=>kH g (fun e=>by have hh:gv=g:=(by cases hg;rfl);omega)) (by omega)) (fun g hg=>by have hh:gv=g:=(by cases hg;rfl);exact⟨by omega,fun g' hg'=>by have:=(hwb g' hg').2;omega⟩)
   (Zw (ow.base (by show h4.n<=h8.n+1;omega)) (fun _ _ _ _ r=>r) (fun g hg=>by
     have:=hwb g hg;exact(kH g (by omega)).trans (kY g (by omega) (by omega) (fun e=>by have hh:gf=g:=(by cases e;rfl);omega))) (by omega)) (fun g hg=>by have:=(hwb g hg).1;omega) h99 hreg ⟨rfl,rfl,rfl,rfl⟩
 refine go ?_;refine VF (cs:=[.slice m1 m2 m3,.slice (some ⟨gv,0,none⟩) n' k',.slice i1 i2 i3,I a.used,.slice v1 v2 v3,I a.steps,I a.heaps,.int .u8 a.state,I a.trap,I a.exit]) (o10s.ext e4H) e2H ?_;intro h12 e12 o12' u12;refine go ?_;refine rt ?_ (VL WN o12' rfl (W0.cons WN W0.nil));have e012:=(e1.trans e2).trans e12;refine⟨⟨_,rfl,((OM.upd MH (fun k h1 h2=>u12.2 k h2 fun e=> ?_) u12.1).base e04.n).fm nb'⟩,e012⟩;have:=hp10 k (by rw[e];rfl);have:=e4.n;omega
end
end Go.Proofs.YtmilpkdhbdgjfaaGreatDoor
set_option maxRecDepth 100000
namespace Go.Am
theorem zIe{c g i len:Nat}(hi:i<=len):yW c (.slice (some ⟨g,0,none⟩) len c) none (some i) none=some (.slice (some ⟨g,0,none⟩) i c):=by
 have h1:Nat.ble i len=true:=QF hi;have h0:Nat.ble 0 i=true:=QF (QU i);simp[yW,h1,h0]
theorem zFB{α:Type}{c:Nat}{R:WG->List Value->α->Prop}{h:WG}{g n k:Nat}{l:List α}(s:Wy c R h (.slice (some ⟨g,0,none⟩) n c) l)(hk:k<=l.length):Wy c R h (.slice (some ⟨g,0,none⟩) k c) (l.take k):=by
 obtain⟨cells,⟨h1,h2⟩,hR⟩:=s;have hlen:(l.take k).length=k:=by rw[Qq];omega
 refine⟨cells.take (k*c),⟨by rw[hlen,Qq,h1];exact GC (Qr _ hk),?_⟩,fun i a ha=> ?_⟩
 ·rw[hlen];rcases h2 with⟨h0,h3⟩|⟨g',off,row,e,hr,hcut,hn⟩
  ·have h0:l.length=0:=h0;exact .inl ⟨by omega,.inr ⟨_,_,by rw[show k=0 by omega]⟩⟩
  ·cases e;refine .inr ⟨g,0,row,rfl,hr,?_,hn⟩;have hle:=Qr c hk;unfold cut at hcut |-;cases hb:Nat.ble (0+l.length*c) row.length with
   |false=>rw[hb]at hcut;cases hcut
   |true=>
    rw[hb]at hcut;have hb2:=QP hb;rw[show Nat.ble (0+k*c) row.length=true from QF (by omega)];simp only[cond_true,QA]at hcut |-;rw[<-hcut,G5,GC hle]
 ·have hi:=(QN.1 ha).1;rw[hlen]at hi;rw[List.getElem?_take_of_lt hi]at ha;have:=hR i a ha;have h4:i*c+c<=k*c:=by rw[<-GW];exact Qr _ hi
  rw[List.drop_take,G5,GC (by omega)];exact this
end Go.Am
namespace Go.Proofs.YtmilpkdhbdgjfaaGreatDoor
open Go.Am
def YV(a:Wb)(v:Wi):List BT:=(a.frs.set (a.frs.length-2) {a.frs.getD (a.frs.length-2) default with regs:=(a.frs.getD (a.frs.length-2) default).regs.set (zJ a).into.toNat v}).take (a.frs.length-1)
def Zd(a:Wb)(v:Wi):Wb×Int:=
 if yo a=false then(zM,160)else if okE v=false then(zM,2)else if 1<a.frs.length then({a with frs:=YV a v},0)else({a with frs:=[],state:=2,exit:=v.n},0)
theorem zI5(h:WG)(ca:List Value)(a:Wb){b:Nat}(ra:FM b h ca a)(hm:h.mark<=h.n)(v:Wi)(hinto:1<a.frs.length->0<=(zJ a).into/\(zJ a).into<((a.frs.getD (a.frs.length-2) default).regs.length:Int)):
  WC Tryz.prog tb 15 [.agg ca.toArray,.agg #[.int .u8 v.kind,I v.n,I v.block,I v.pos]] h fun w h'=>(∃ cs,w=.tuple #[.agg cs.toArray,I (Zd a v).2]/\FM h.n h' cs (Zd a v).1)/\WL h h':=by
 have rm0:=ra.rm;have om0:=ra;have hfl:=ra.lf;obtain⟨am,af,ai,ae,rfl,⟨nb0,_⟩,hst⟩:=ra.ex;have kaf:=(hst h (fun _ _ _=>rfl) (QE _)).1;obtain⟨x1,x2,x3,rfl⟩:=zb kaf;clear hst;refine en ?_;refine VG ?_;intro p2 h1 e1 o2;replace o2:WI h h1 p2 [am,.slice x1 x2 x3,ai,I a.used,ae,I a.steps,I a.heaps,.int .u8 a.state,I a.trap,I a.exit]:=o2;refine go ?_;refine VG ?_;intro p3 h2 e2 o3;replace o3:WI h1 h2 p3 [.int .u8 v.kind,I v.n,I v.block,I v.pos]:=o3;refine go ?_;refine VJ ?_;intro p4 h3 e3 o4;have hp4:=o4.within;have e03:=e1.trans (e2.trans e3);have o2:=o2.ext (e2.trans e3);have o3:=o3.ext e3;refine go ?_;refine VA (zA9 h3 _ a (rm0.ext e03)) ?_;rintro _ h4 ⟨rfl,e4⟩;have o2:=o2.ext e4;have o3:=o3.ext e4;have o4:=o4.ext e4;have e04:=e03.trans e4;by_cases hr:yo a=true;case neg=>
  have hr:yo a=false:=by simpa using hr
  rw[show Zd a v=(zM,160)from QG hr,hr];refine go ?_;refine VF (cs:=[.slice none 0 0,.slice none 0 0,.slice none 0 0,I 0,.slice none 0 0,I 0,I 0,.int .u8 0,I 0,I 0]) o4 (e3.trans e4) ?_;intro h5 e5 o5 u5;refine gr ?_;have e05:=(e1.trans e2).trans e5;exact⟨⟨_,rfl,FM.zero e05.n⟩,e05⟩
 rw[hr];have hne:=Zt hr;refine go ?_;refine VA (zH0 h4 am nb0.sl v) ?_;rintro _ h5 ⟨rfl,e5⟩;have o2:=o2.ext e5;have o3:=o3.ext e5;have o4:=o4.ext e5;have e05:=e04.trans e5;refine go ?_;refine V8 ?_;intro h6 e6 n6 s6 g6;have o2:=o2.ext e6;have o3:=o3.ext e6;have o4:=o4.ext e6;have e06:=e05.trans e6;have sv6:BA h6 _ [v]:=⟨_,s6,fun i x hx=>by
  have hi:i=0:=by have:=(QN.1 hx).1;simp at this;omega
  subst hi;simp at hx;subst hx;rfl⟩
 refine go ?_;refine VA (zFw h6 _ [v] sv6 (by simp)) ?_;rintro _ h7 ⟨rfl,e7⟩;rw[show([v].all Bk)=Bk v from by simp];have o2:=o2.ext e7;have o3:=o3.ext e7;have o4:=o4.ext e7;have e07:=e06.trans e7;have e37:=((e4.trans e5).trans e6).trans e7;have o3s:=o3;have o4s:=o4;by_cases hv:okE v=true;case neg=>
  have hv:okE v=false:=by simpa using hv
  rw[show Zd a v=(zM,2)from by unfold Zd;rw[QC (by rw[hr];decide),QG hv]];rw[hv];rw[QC Bool.false_ne_true];cases Bk v with
  |false=>
   refine go ?_;refine VF (cs:=[.slice none 0 0,.slice none 0 0,.slice none 0 0,I 0,.slice none 0 0,I 0,I 0,.int .u8 0,I 0,I 0]) o4 (e3.trans e37) ?_;intro h8 e8 o8 u8;refine gr ?_;have e08:=(e1.trans e2).trans e8;exact⟨⟨_,rfl,FM.zero e08.n⟩,e08⟩
  |true=>
   refine go ?_;refine VF (cs:=[.slice none 0 0,.slice none 0 0,.slice none 0 0,I 0,.slice none 0 0,I 0,I 0,.int .u8 0,I 0,I 0]) o4 (e3.trans e37) ?_;intro h8 e8 o8 u8;refine gr ?_;have e08:=(e1.trans e2).trans e8;exact⟨⟨_,rfl,FM.zero e08.n⟩,e08⟩
 have hov:Bk v=true:=by unfold okE at hv;simp at hv;exact hv.1
 rw[hv,hov];rw[QG rfl];have hnl:¬(0:Int)=(a.frs.length:Int):=by omega
 have kaf7:=BE.ext kaf e07;refine go ?_;refine VA (zGj h7 _ a (om0.ext e07) (by rw[e07.mark];exact QO hm e07.n) hne) ?_;rintro _ h8 ⟨⟨gq,gf,nf,vm',vi',ve',xs',rfl,oq,nb',M',dq1,dq2,dq3⟩,e8⟩;have o3:=o3.ext e8;have o4:=o4.ext e8;have e08:=e07.trans e8;have e38:=e37.trans e8;obtain⟨m1,m2,m3,rfl⟩:=nb'.1.shape;obtain⟨i1,i2,i3,rfl⟩:∃ a n k,vi'=.slice a n k:=let⟨_,_,h2⟩:=M'.i;Wv.shape h2.sl;obtain⟨v1,v2,v3,rfl⟩:=nb'.2.shape;have hnf:nf=a.frs.length:=by
  rcases M'.f with⟨e,_⟩|⟨_,_,_,_,_,e,_⟩
  ·cases e
  ·cases e;exact M'.lx
 subst hnf;refine go ?_;refine VJ ?_;intro p9 h9 e9 o9;refine go ?_;refine VF (cs:=[zR (.slice (some ⟨gf,0,none⟩) a.frs.length 5) ((a.frs.length-1)*5),.pointer (some ⟨gq,0,none⟩)]) o9 e9 ?_;intro h10 e10 o9' u9;have hp9:=o9.since';replace o9:=o9';clear o9' u9;have o3:=o3.ext e10;have o4:=o4.ext e10;have e010:=e08.trans e10;have e310:=e38.trans e10;have M10:=M'.ext e10;have oq10:WI h7 h10 (.pointer (some ⟨gq,0,none⟩)) [.slice m1 m2 m3,.slice (some ⟨gf,0,none⟩) a.frs.length 5,.slice i1 i2 i3,I a.used,.slice v1 v2 v3,I a.steps,I a.heaps,.int .u8 a.state,I a.trap,I a.exit]:=oq.ext e10;obtain⟨cs,⟨vr,rfl,kr,hlr⟩,pc,hs⟩:=zd M10.fr (i:=a.frs.length-1) (by omega);have pc10:=(pc _ (WL.refl _)).1;have hd9:Wp (.pointer (some ⟨gq,0,none⟩)) p9:=(VI (h:=h8) hp9 oq.within).symm;have hm10:h10.mark<=h7.n:=by rw[e010.mark];exact QO hm e07.n
 have sm10:W7 h10 (.slice m1 m2 m3) []:=nb'.1.sl;have hti:(a.frs.getD (a.frs.length-1) default).into=(zJ a).into:=rfl;refine go ?_;refine VC 0 rfl rfl ?_;have o9Y:WI h8 (inC (zB 0 h10)) p9 [zR (.slice (some ⟨gf,0,none⟩) a.frs.length 5) ((a.frs.length-1)*5),.pointer (some ⟨gq,0,none⟩)]:=o9;have oqY:WI h7 (inC (zB 0 h10)) (.pointer (some ⟨gq,0,none⟩)) [.slice m1 m2 m3,.slice (some ⟨gf,0,none⟩) a.frs.length 5,.slice i1 i2 i3,I a.used,.slice v1 v2 v3,I a.steps,I a.heaps,.int .u8 a.state,I a.trap,I a.exit]:=oq10;refine Wg ?_;refine VA (zLm (inC (zB 0 h10)) (.slice m1 m2 m3) sm10 (QE _) a.frs.length (by omega)) ?_;rintro _ X ⟨⟨w,rfl,sw⟩,eX⟩;obtain⟨w1,w2,w3,rfl⟩:=zb sw;have nbw:=Bp.of sw;refine nE eX ?_;have e10X:WL h10 (zx h10 X):=(zO 0 h10).trans (yT (h:=h10) eX);have oqX:WI h7 X (.pointer (some ⟨gq,0,none⟩)) [.slice m1 m2 m3,.slice (some ⟨gf,0,none⟩) a.frs.length 5,.slice i1 i2 i3,I a.used,.slice v1 v2 v3,I a.steps,I a.heaps,.int .u8 a.state,I a.trap,I a.exit]:=WI.ext (h':=X) oqY eX;have oqX':WI h7 (inC X) (.pointer (some ⟨gq,0,none⟩)) [.slice m1 m2 m3,.slice (some ⟨gf,0,none⟩) a.frs.length 5,.slice i1 i2 i3,I a.used,.slice v1 v2 v3,I a.steps,I a.heaps,.int .u8 a.state,I a.trap,I a.exit]:=oqX;refine Wg ?_;refine XA (hB:=h7) (j:=0) (cs:=[.slice w1 w2 w3]) (hl:=by simp) oqX hm10 ?_;intro H nH kH oH wH mH wrH;have oH:WI h7 H (.pointer (some ⟨gq,0,none⟩)) [.slice w1 w2 w3,.slice (some ⟨gf,0,none⟩) a.frs.length 5,.slice i1 i2 i3,I a.used,.slice v1 v2 v3,I a.steps,I a.heaps,.int .u8 a.state,I a.trap,I a.exit]:=oH;have hgq7:=oq10.since' gq rfl;have kH10:∀ k,k<h10.n->k≠gq->H.get k=h10.get k:=fun k hk hne=>(kH k (fun e=>hne (by cases e;rfl))).trans (e10X.get k hk);have hn10:h10.n<=H.n:=by rw[nH];exact e10X.n
 have e7H:WL h7 H:=⟨by have:=(e8.trans e10).n;omega,fun k hk=>(kH10 k (by have:=(e8.trans e10).n;omega) (by omega)).trans ((e8.trans e10).get k hk),fun w=>wH (e10X.wf ((e8.trans e10).wf w)),mH.trans (e8.trans e10).mark,fun hmk=>wrH.trans ((e8.trans e10).wr hmk)⟩;have MH:OM h7.n H (.slice (some ⟨gf,0,none⟩) a.frs.length 5) (.slice i1 i2 i3) xs' a:=⟨Zw M10.f (fun _ _ _ _ r=>r) (fun g hg=>kH10 g (M10.f.within g hg) (fun e=>by cases hg;exact dq1 e.symm)) hn10,M10.lx,M10.rel,fun i hi=>Zw (M10.rg i hi) (fun _ _ _ _ r=>r) (fun g hg=>kH10 g ((M10.rg i hi).within g hg) (fun e=>dq3 i hi gq rfl (by rw[<-e];exact hg))) hn10,M10.off,M10.offF,
  let⟨hb,hb1,oi⟩:=M10.i;⟨hb,hb1,zBL oi (fun g hg=>kH10 g (oi.within g hg) (fun e=>dq2 gq rfl (by rw[<-e];exact hg))) hn10⟩,M10.offI,QO M10.bn hn10,M10.nm,M10.lf,M10.li,M10.lr⟩
 have o9H:WI h8 H p9 [zR (.slice (some ⟨gf,0,none⟩) a.frs.length 5) ((a.frs.length-1)*5),.pointer (some ⟨gq,0,none⟩)]:=by
  obtain⟨g,g1,g2,rfl,g3⟩:=o9;exact⟨g,g1,by omega,rfl,(kH10 g g2 (fun e=>hd9 gq rfl (by rw[e];rfl))).trans g3⟩
 have hm0H:H.mark<=h7.n:=by rw[mH];exact hm10
 have hd9':=hd9;clear kH oqX oqX' oqY o9Y e10X kH10 eX;refine go ?_;refine VC 0 rfl rfl ?_;have o9Y:WI h8 (inC (zB 0 H)) p9 [zR (.slice (some ⟨gf,0,none⟩) a.frs.length 5) ((a.frs.length-1)*5),.pointer (some ⟨gq,0,none⟩)]:=o9H;have oqY:WI h7 (inC (zB 0 H)) (.pointer (some ⟨gq,0,none⟩)) [.slice w1 w2 w3,.slice (some ⟨gf,0,none⟩) a.frs.length 5,.slice i1 i2 i3,I a.used,.slice v1 v2 v3,I a.steps,I a.heaps,.int .u8 a.state,I a.trap,I a.exit]:=oH;have oqA:WI h7 (zB 0 H) (.pointer (some ⟨gq,0,none⟩)) [.slice w1 w2 w3,.slice (some ⟨gf,0,none⟩) a.frs.length 5,.slice i1 i2 i3,I a.used,.slice v1 v2 v3,I a.steps,I a.heaps,.int .u8 a.state,I a.trap,I a.exit]:=oH;have hsub:((a.frs.length:Int)-1)=((a.frs.length-1:Nat):Int):=by omega
 refine Wg ?_;rw[hsub];refine Vl (i:=a.frs.length-1) (r:= .slice (some ⟨gf,0,none⟩) (a.frs.length-1) 5) (zIe (Nat.sub_le _ _)) ?_;refine nQ ?_;refine Wg ?_;refine XA (hB:=h7) (j:=1) (cs:=[.slice (some ⟨gf,0,none⟩) (a.frs.length-1) 5]) (hl:=by simp) oqA hm0H ?_;intro J nJ kJ oJ wJ mJ wrJ;have oJ:WI h7 J (.pointer (some ⟨gq,0,none⟩)) [.slice w1 w2 w3,.slice (some ⟨gf,0,none⟩) (a.frs.length-1) 5,.slice i1 i2 i3,I a.used,.slice v1 v2 v3,I a.steps,I a.heaps,.int .u8 a.state,I a.trap,I a.exit]:=oJ;have kJH:∀ k,k≠gq->J.get k=H.get k:=fun k hne=>kJ k (fun e=>hne (by cases e;rfl));have hnJ:H.n<=J.n:=by rw[nJ];exact QE _
 have e7J:WL h7 J:=⟨QO e7H.n hnJ,fun k hk=>(kJH k (by omega)).trans (e7H.get k hk),fun w=>wJ (e7H.wf w),mJ.trans e7H.mark,fun hmk=>wrJ.trans (e7H.wr hmk)⟩;have MJ:OM h7.n J (.slice (some ⟨gf,0,none⟩) a.frs.length 5) (.slice i1 i2 i3) xs' a:=⟨Zw MH.f (fun _ _ _ _ r=>r) (fun g hg=>kJH g (fun e=>by cases hg;exact dq1 e.symm)) hnJ,MH.lx,MH.rel,fun i hi=>Zw (MH.rg i hi) (fun _ _ _ _ r=>r) (fun g hg=>kJH g (fun e=>dq3 i hi gq rfl (by rw[<-e];exact hg))) hnJ,MH.off,MH.offF,
  let⟨hb,hb1,oi⟩:=MH.i;⟨hb,hb1,zBL oi (fun g hg=>kJH g (fun e=>dq2 gq rfl (by rw[<-e];exact hg))) hnJ⟩,MH.offI,QO MH.bn hnJ,MH.nm,MH.lf,MH.li,MH.lr⟩
 have o9J:WI h8 J p9 [zR (.slice (some ⟨gf,0,none⟩) a.frs.length 5) ((a.frs.length-1)*5),.pointer (some ⟨gq,0,none⟩)]:=by
  obtain⟨g,g1,g2,rfl,g3⟩:=o9H;exact⟨g,g1,by omega,rfl,(kJH g (fun e=>hd9' gq rfl (by rw[e];rfl))).trans g3⟩
 have o3J:=o3s.ext e7J;have o4J:=o4s.ext e7J;have e3J:WL h3 J:=e37.trans e7J;have hxl:=MJ.lx;have hfin:∀ {K:WG} {a':Wb} {xs2:List Br},OM h7.n K (.slice (some ⟨gf,0,none⟩) a.frs.length 5) (.slice i1 i2 i3) xs2 a'->a'.frs.length=a.frs.length->FM h.n K (mC (.slice w1 w2 w3) (.slice (some ⟨gf,0,none⟩) (a.frs.length-1) 5) (.slice i1 i2 i3) (.slice v1 v2 v3) {a' with frs:=a'.frs.take (a.frs.length-1)}) {a' with frs:=a'.frs.take (a.frs.length-1)}:=fun {K a' xs2} o hl=>
  ⟨⟨_,_,_,_,rfl,⟨nbw,nb'.2⟩,fun h' q1 q2=>by
    have o':=(o.base e07.n).upd q1 q2;exact⟨zFB o'.fr (by omega),let⟨_,_,h2⟩:=o'.i;h2.sl⟩⟩,QO e07.n o.bn,o.nm,by have:=o.lf;simp;omega,o.li,fun i hi=>by
   have hi2:i<a.frs.length-1/\i<a'.frs.length:=by simp at hi;omega
   have:=o.lr i hi2.2;simp only[QL]at this |-;rw[List.getElem?_take_of_lt hi2.1];exact this⟩
 by_cases hone:1<a.frs.length
 ·have hin:=hinto hone;rw[show Zd a v=({a with frs:=YV a v},0)from by unfold Zd;rw[QC (by rw[hr];decide),QC (by rw[hv];decide),QG hone]];have fpre:Wy 5 B7 J (.slice (some ⟨gf,0,none⟩) (a.frs.length-1) 5) (xs'.take (a.frs.length-1)):=zFB MJ.f.sl (by omega);have hpl:(xs'.take (a.frs.length-1)).length=a.frs.length-1:=by rw[Qq];omega
  have hx2:(xs'.take (a.frs.length-1)).getD (a.frs.length-2) default=xs'.getD (a.frs.length-2) default:=by
   simp only[QL];rw[List.getElem?_take_of_lt (by omega)]
  obtain⟨cs2,hcs2,pc2,hs2⟩:=zd fpre (i:=a.frs.length-2) (by omega);rw[hx2]at hcs2;obtain⟨rfl,_⟩:=hcs2;have ow:=MJ.rg (a.frs.length-2) (by omega);have dqi:=dq3 (a.frs.length-2) (by omega);have hlr2:=MJ.lr (a.frs.length-2) (by omega);have hset:=fun(h':WG) (o':WZ 4 W5 h7.n h' (xs'.getD (a.frs.length-2) default).v ((a.frs.getD (a.frs.length-2) default).regs.set (zJ a).into.toNat v)) (u:UpB (xs'.getD (a.frs.length-2) default).v J h')=>MJ.setR (i:=a.frs.length-2) (l:=(a.frs.getD (a.frs.length-2) default).regs.set (zJ a).into.toNat v) (by omega) (by rw[Q7];exact hlr2) o' u;replace hset:=Wt.mk hset;have hw9:zDz h8 (xs'.getD (a.frs.length-2) default).v:=(M'.rg (a.frs.length-2) (by omega)).within;obtain⟨z1,z2,z3,hz⟩:=zb ow.sl;rw[hz]at pc2 dqi hset ow hw9;have hd9r:Wp (.slice z1 z2 z3) p9:=(VI (h:=h8) hp9 hw9).symm;generalize hRL:(a.frs.getD (a.frs.length-2) default).regs=RL at *;refine go ?_;refine VC 0 rfl rfl ?_;have o9Y:WI h8 (inC (zB 0 J)) p9 [zR (.slice (some ⟨gf,0,none⟩) a.frs.length 5) ((a.frs.length-1)*5),.pointer (some ⟨gq,0,none⟩)]:=o9J;have o3Y:WI h1 (inC (zB 0 J)) p3 [.int .u8 v.kind,I v.n,I v.block,I v.pos]:=o3J;have oqY:WI h7 (inC (zB 0 J)) (.pointer (some ⟨gq,0,none⟩)) [.slice w1 w2 w3,.slice (some ⟨gf,0,none⟩) (a.frs.length-1) 5,.slice i1 i2 i3,I a.used,.slice v1 v2 v3,I a.steps,I a.heaps,.int .u8 a.state,I a.trap,I a.exit]:=oJ;have fpY:Wy 5 B7 (inC (zB 0 J)) (.slice (some ⟨gf,0,none⟩) (a.frs.length-1) 5) (xs'.take (a.frs.length-1)):=fpre;have pcY:Wl (inC (zB 0 J)) (.slice (some ⟨gf,0,none⟩) (a.frs.length-1) 5) ((a.frs.length-2)*5) _:=(pc2 _ (WL.refl _)).2;have kY:BA (inC (zB 0 J)) (.slice z1 z2 z3) RL:=ow.sl;have owY:WZ 4 W5 h7.n (zB 0 J) (.slice z1 z2 z3) RL:=ow;have hsub2:((a.frs.length:Int)-2).toNat=a.frs.length-2:=by omega
  rw[<-hsub2]at pcY;have hti:(zJ a).into=(a.frs.getD (a.frs.length-1) default).into:=rfl;refine Wg ?_;refine V7 (hB:=h7) (hS:=J) (i:=(a.frs.getD (a.frs.length-1) default).into.toNat) (off:=0) (cs:=[.int .u8 v.kind,I v.n,I v.block,I v.pos]) (ho:=by simp) v owY e7J (by rw[e7J.mark,e07.mark];exact QO hm e07.n) rfl (QE _) (by omega) (fun old hx hr ho=> ?_) ?_ (hx:=by show WR _ _ (zR _ ((a.frs.getD (a.frs.length-1) default).into.toNat*4));exact zY)
  ·unfold W5 at hr |-;subst hr;rfl
  intro L e11 o11 n11 k11;have u11:UpB (.slice z1 z2 z3) J L:=zDa (by omega) k11;have ML:=hset.out L o11 u11;have o9L:=o9J.upB u11 hd9r;have oqL:WI h7 L (.pointer (some ⟨gq,0,none⟩)) [.slice w1 w2 w3,.slice (some ⟨gf,0,none⟩) (a.frs.length-1) 5,.slice i1 i2 i3,I a.used,.slice v1 v2 v3,I a.steps,I a.heaps,.int .u8 a.state,I a.trap,I a.exit]:=oJ.upB u11 dqi.symm;refine go ?_;refine VF (cs:=[.slice w1 w2 w3,.slice (some ⟨gf,0,none⟩) (a.frs.length-1) 5,.slice i1 i2 i3,I a.used,.slice v1 v2 v3,I a.steps,I a.heaps,.int .u8 a.state,I a.trap,I a.exit]) (o4s.ext e11) ((e3.trans e37).trans e11) ?_;intro h12 e12 o12 u12;refine go ?_;refine rt ?_ (VL WN o12 rfl (W0.cons WN W0.nil));have M12:=OM.upd ML (fun k q1 q2=>u12.2 k q2 fun e=>by
   have:=hp4 k (by rw[e];rfl);have:=e37.n;omega) u12.1
  have:=hfin M12 (by simp);refine⟨⟨_,rfl,?_⟩,(e1.trans e2).trans e12⟩;unfold YV;rw[hRL];exact this
 ·have hl1:a.frs.length=1:=by omega
  rw[show Zd a v=({a with frs:=[],state:=2,exit:=v.n},0)from by unfold Zd;rw[QC (by rw[hr];decide),QC (by rw[hv];decide),QC hone]];have hqJ:J.get gq=some (.row [.slice w1 w2 w3,.slice (some ⟨gf,0,none⟩) (a.frs.length-1) 5,.slice i1 i2 i3,I a.used,.slice v1 v2 v3,I a.steps,I a.heaps,.int .u8 a.state,I a.trap,I a.exit] true 0):=by
   obtain⟨q,_,_,q3,q4⟩:=oJ;cases q3;exact q4
  obtain⟨g9,hg9a,hg9b,rfl,hg9c⟩:=id o9J;obtain⟨g3,hg3a,hg3b,rfl,hg3c⟩:=id o3J;have b9:¬g9=gq:=fun e=>hd9 gq rfl (by rw[e];rfl);have b3:¬g3=gq:=fun e=>by
   have:=o3s.within g3 rfl;omega
  have hgqJ:=oJ.within gq rfl;refine go ?_;refine VY (fun k=>k=gq) 0 rfl rfl ?_;have o9Y:WI h8 (inC (zB 0 J)) (.pointer (some ⟨g9,0,none⟩)) [zR (.slice (some ⟨gf,0,none⟩) a.frs.length 5) ((a.frs.length-1)*5),.pointer (some ⟨gq,0,none⟩)]:=o9J;have o3Y:WI h1 (inC (zB 0 J)) (.pointer (some ⟨g3,0,none⟩)) [.int .u8 v.kind,I v.n,I v.block,I v.pos]:=o3J;have oqY:WI h7 (inC (zB 0 J)) (.pointer (some ⟨gq,0,none⟩)) [.slice w1 w2 w3,.slice (some ⟨gf,0,none⟩) (a.frs.length-1) 5,.slice i1 i2 i3,I a.used,.slice v1 v2 v3,I a.steps,I a.heaps,.int .u8 a.state,I a.trap,I a.exit]:=oJ;refine goV ?_;refine UE (X:=zB 0 J) (q:=gq) (off:=7) (cs:=[.int .u8 2]) hqJ (by show J.mark<=gq;rw[e7J.mark];have:=e07.mark;have:=e07.n;omega) (.inr rfl) ?_ (by simp) (hx:=by show WR _ _ (zu (.pointer (some ⟨gq,0,none⟩)) 7);exact zY);intro L nL kL gL wL;have oqZ:WI h7 (inC L) (.pointer (some ⟨gq,0,none⟩)) [.slice w1 w2 w3,.slice (some ⟨gf,0,none⟩) (a.frs.length-1) 5,.slice i1 i2 i3,I a.used,.slice v1 v2 v3,I a.steps,I a.heaps,.int .u8 2,I a.trap,I a.exit]:=⟨gq,hgq7,by show gq<L.n;rw[nL];exact hgqJ,rfl,gL⟩;refine goV ?_;refine XH (X:=L) (q:=gq) (off:=9) (cs:=[I v.n]) gL (by show J.mark<=gq;rw[e7J.mark];have:=e07.mark;have:=e07.n;omega) (.inl rfl) ?_ (by simp[zL]) (hx:=by show WR _ _ (zu (.pointer (some ⟨gq,0,none⟩)) 9);exact zY);intro N nN kN gN wN mN wrN;have kNJ:∀ k,k≠gq->N.get k=J.get k:=fun k hne=>(kN k hne).trans (kL k hne);have hnN:J.n<=N.n:=by rw[nN,nL];exact QE _
  have e7N:WL h7 N:=⟨QO e7J.n hnN,fun k hk=>(kNJ k (by omega)).trans (e7J.get k hk),fun w=>wN (wL (e7J.wf w)),mN.trans e7J.mark,fun hmk=>wrN.trans (e7J.wr hmk)⟩;have MN:OM h7.n N (.slice (some ⟨gf,0,none⟩) a.frs.length 5) (.slice i1 i2 i3) xs' {a with state:=2,exit:=v.n}:=⟨Zw MJ.f (fun _ _ _ _ r=>r) (fun g hg=>kNJ g (fun e=>by cases hg;exact dq1 e.symm)) hnN,MJ.lx,MJ.rel,fun i hi=>Zw (MJ.rg i hi) (fun _ _ _ _ r=>r) (fun g hg=>kNJ g (fun e=>dq3 i hi gq rfl (by rw[<-e];exact hg))) hnN,MJ.off,MJ.offF,
   let⟨hb,hb1,oi⟩:=MJ.i;⟨hb,hb1,zBL oi (fun g hg=>kNJ g (fun e=>dq2 gq rfl (by rw[<-e];exact hg))) hnN⟩,MJ.offI,QO MJ.bn hnN,MJ.nm,MJ.lf,MJ.li,MJ.lr⟩
  have o9N:WI h8 N (.pointer (some ⟨g9,0,none⟩)) [zR (.slice (some ⟨gf,0,none⟩) a.frs.length 5) ((a.frs.length-1)*5),.pointer (some ⟨gq,0,none⟩)]:=⟨g9,hg9a,QK hg9b hnN,rfl,(kNJ g9 b9).trans hg9c⟩;have oqN:WI h7 N (.pointer (some ⟨gq,0,none⟩)) [.slice w1 w2 w3,.slice (some ⟨gf,0,none⟩) (a.frs.length-1) 5,.slice i1 i2 i3,I a.used,.slice v1 v2 v3,I a.steps,I a.heaps,.int .u8 2,I a.trap,I v.n]:=⟨gq,hgq7,by rw[nN,nL];exact hgqJ,rfl,gN⟩;refine go ?_;refine VF (cs:=[.slice w1 w2 w3,.slice (some ⟨gf,0,none⟩) (a.frs.length-1) 5,.slice i1 i2 i3,I a.used,.slice v1 v2 v3,I a.steps,I a.heaps,.int .u8 2,I a.trap,I v.n]) (o4s.ext e7N) ((e3.trans e37).trans e7N) ?_;intro h12 e12 o12 u12;refine go ?_;refine rt ?_ (VL WN o12 rfl (W0.cons WN W0.nil));have M12:=OM.upd MN (fun k q1 q2=>u12.2 k q2 fun e=>by
   have:=hp4 k (by rw[e];rfl);have:=e37.n;omega) u12.1
  have hf:=hfin M12 rfl;refine⟨⟨_,rfl,?_⟩,(e1.trans e2).trans e12⟩;rw[show({a with state:=2,exit:=v.n}:Wb).frs.take (a.frs.length-1)=[]from by rw[hl1];rfl]at hf;exact hf
end Go.Proofs.YtmilpkdhbdgjfaaGreatDoor
set_option maxRecDepth 100000
namespace Go.Proofs.YtmilpkdhbdgjfaaGreatDoor
open Go.Am
theorem zFC{α:Type}{c i:Nat}{R:WG->List Value->α->Prop}{h:WG}{v:Value}{l:List α}(s:Wy c R h v l)(hl:0<l.length)(hi:i<=l.length):∃ r,yW c v none (some i) none=some r/\Wy c R h r (l.take i):=by
 obtain⟨cells,⟨h1,⟨h2,_⟩|⟨g,off,row,rfl,h3,h4,h5⟩⟩,hR⟩:=s
 ·omega
 have hmul:i*c<=l.length*c:=Qr _ hi;have hlen:(l.take i).length=i:=by rw[Qq];omega
 refine⟨.slice (some ⟨g,off+0*c,none⟩) (i-0) c,?_,cells.take (i*c),⟨by rw[Qq,hlen];omega,.inr ⟨g,off,row,by rw[hlen];simp,h3,?_,h5⟩⟩,fun j a ha=> ?_⟩
 ·have b1:Nat.ble 0 i=true:=QF (QU _);have b2:Nat.ble i l.length=true:=QF hi;simp only[yW,Gd,Q3,b1,b2,Qe,Qm,cond_true,GP]
 ·rw[hlen];obtain⟨c1,c2⟩:=zDp h4;rw[yu (by omega),c2,G5,GC hmul]
 ·have hj:j<i:=by have:=(QN.1 ha).1;omega
  have hja:l[j]?=some a:=by rw[Q4,QG hj]at ha;exact ha
  have:=hR j a hja;have h6:j*c+c<=i*c:=by rw[<-GW];exact Qr _ hj
  rw[List.drop_take,G5,GC (by omega)];exact this
theorem zLe{α:Type}{c:Nat}{R:WG->List Value->α->Prop}{h:WG}{v:Value}(s:Wy c R h v ([]:List α)):∃ r,yW c v none (some 0) none=some r/\Wy c R h r ([]:List α):=by
 rcases Bp.of s with rfl|⟨⟨g,off,sp⟩,k,rfl⟩
 ·exact⟨_,rfl,Bp.sl (.inl rfl)⟩
 ·cases sp with
  |none=>
   cases hk:Nat.beq k c with
   |true=>exact⟨.slice (some ⟨g,off+0*c,none⟩) 0 c,by simp[yW,hk,show Nat.ble 0 0=true from rfl],Bp.sl (.inr ⟨_,_,rfl⟩)⟩
   |false=>exact⟨.slice (some ⟨g,off,none⟩) 0 k,by simp[yW,hk],Bp.sl (.inr ⟨_,_,rfl⟩)⟩
  |some q=>exact⟨.slice (some ⟨g,off,some q⟩) 0 k,by simp[yW],Bp.sl (.inr ⟨_,_,rfl⟩)⟩
def YQ(x:Ws):Bool:=decide (x.op=22)
def zBc(l:List Ws):List Ws:=l.takeWhile YQ
theorem zJv:∀ {l:List Ws} {k:Nat},k<=l.length->(∀ j,j<k->YQ (l.getD j default)=true)->(k<l.length->YQ (l.getD k default)=false)->l.take k=zBc l
 |[],k,hk,_,_=>by simp at hk;subst hk;rfl
 |x::l,0,_,_,h2=>by
  have:YQ x=false:=h2 (by simp);show[]=(x::l).takeWhile YQ;rw[List.takeWhile_cons,this];rfl
 |x::l,k+1,hk,h1,h2=>by
  have hx:YQ x=true:=h1 0 (by omega);have ih:=zJv (l:=l) (k:=k) (by simpa using hk) (fun j hj=>h1 (j+1) (by omega)) (fun hl=>h2 (by simpa using hl));show x::l.take k=(x::l).takeWhile YQ;rw[List.takeWhile_cons,hx,QG rfl,ih];rfl
theorem zKS(h:WG)(v:Value)(l:List Int)(n:Int)(s:Wd h v l)(hl:(l.length:Int)<=9223372036854775807):
  WC Tryz.prog tb 40 [v,I n] h fun r h'=>(∃ k:Int,r=I k/\(k= -1/\n∉l\/(0<=k/\k<(l.length:Int))/\l.getD k.toNat 0=n/\∀ j,j<k.toNat->l.getD j 0≠n))/\h=h':=by
 obtain⟨v1,v2,v3,rfl⟩:=Wv.shape s;refine en ?_;refine VE (fun i=>l.length-i) (fun i t h1=>h=h1/\zC t 8=I i/\i<=l.length/\∀ j,j<i->l.getD j 0≠n) 0 ?_ ?_
 ·exact⟨rfl,WN,QU _,fun j hj=>absurd hj (Ql _)⟩
 rintro i t _ hsame ⟨rfl,s8,hi,hm⟩;refine go ?_;refine VD (fun hb=> ?_) (fun hb=> ?_)<;>simp only[DB]at hb
 ·have hi':i<l.length:=by omega
  refine go ?_;refine VD (fun hc=> ?_) (fun hc=> ?_)<;>simp only[DB]at hc
  ·refine gr ?_;exact⟨⟨i,rfl,.inr ⟨⟨by omega,by omega⟩,by first|exact hc|exact hc.symm,fun j hj=>hm j (by omega)⟩⟩,rfl⟩
  ·refine go ?_;refine zA (i+1) (by omega) ⟨rfl,BG,by omega,fun j hj=> ?_⟩;by_cases e:j=i
   ·subst e;first|exact hc|exact fun q=>hc q.symm
   ·exact hm j (by omega)
 ·refine gr ?_;refine⟨⟨-1,rfl,.inl ⟨rfl,fun hn=> ?_⟩⟩,rfl⟩;obtain⟨j,hj,e⟩:=List.getElem_of_mem hn;exact hm j (by omega) (by simp[List.getD,QB hj,e])
theorem zOe(h:WG)(cs:List Value)(x:Ws)(r:BX h cs x):WC Tryz.prog tb 80 [.agg cs.toArray] h fun q h'=>q=.bool (!YQ x)/\WL h h':=by
 obtain⟨va,vf,rfl,_⟩:=r;refine en ?_;refine VG ?_;intro p h1 e1 o1;replace o1:WI h h1 p [.int .u8 x.op,I x.ty,I x.a,I x.b,I x.n,va,vf]:=o1;refine gr ?_;exact⟨rfl,e1⟩
theorem zMT(h:WG)(v:Value)(l:List Ws)(s:BK h v l)(hl:(l.length:Int)<=9223372036854775807):
  WC Tryz.prog tb 79 [v,.func (.func 80) #[] #[]] h fun r h'=>(∃ n:Int,r=I n/\(n= -1/\(∀ j,j<l.length->YQ (l.getD j default)=true)\/(0<=n/\n<(l.length:Int))/\YQ (l.getD n.toNat default)=false/\∀ j,j<n.toNat->YQ (l.getD j default)=true))/\WL h h':=by
 refine en ?_;refine VE (fun i=>l.length-i) (fun i t h1=>WL h h1/\zC t 8=I i/\i<=l.length/\∀ j,j<i->YQ (l.getD j default)=true) 0 ?_ ?_
 ·exact⟨WL.refl h,WN,QU _,fun j hj=>absurd hj (Ql _)⟩
 rintro i t h1 hsame ⟨e1,s8,hi,hm⟩;have s1:=BK.ext s e1;refine go ?_;refine VD (fun hb=> ?_) (fun hb=> ?_)<;>simp only[DB]at hb
 ·have hi':i<l.length:=by omega
  obtain⟨cs,hcs,pc,hs⟩:=yr s1 hi';have hcs0:=hcs;obtain⟨va,vf,rfl,hR⟩:=hcs;refine go ?_;refine VS (WV.func (zOe h1 _ _ hcs0)) ?_;rintro _ h2 ⟨rfl,e2⟩;cases hp:YQ (l.getD i default)with
  |false=>
   refine gr ?_;exact⟨⟨i,rfl,.inr ⟨⟨by omega,by omega⟩,hp,fun j hj=>hm j (by omega)⟩⟩,e1.trans e2⟩
  |true=>
   refine go ?_;refine zA (i+1) (by omega) ⟨e1.trans e2,BG,by omega,fun j hj=> ?_⟩;by_cases e:j=i
   ·subst e;exact hp
   ·exact hm j (by omega)
 ·refine gr ?_;exact⟨⟨-1,rfl,.inl ⟨rfl,fun j hj=>hm j (by omega)⟩⟩,e1⟩
theorem zN8(h:WG)(vi:Value)(B:Wm)(s:BK h vi B.ins)(hl:B.ins.length<=1000):
  WC Tryz.prog tb 39 [.agg #[vi,.int .u8 B.fin.kind,I B.fin.a,I B.fin.to,I B.fin.els]] h fun r h'=>(∀ h0,BK h0 vi B.ins->BK h0 r (zBc B.ins))/\WL h h':=by
 obtain⟨v1,v2,v3,rfl⟩:=zQ s;refine en ?_;refine VG ?_;intro p h1 e1 o1;replace o1:WI h h1 p [.slice v1 v2 v3,.int .u8 B.fin.kind,I B.fin.a,I B.fin.to,I B.fin.els]:=o1;have s1:=BK.ext s e1;refine go ?_;refine VA (zMT h1 _ B.ins s1 (by omega)) ?_;rintro _ h2 ⟨⟨n,rfl,hn⟩,e2⟩;have o2:=o1.ext e2;have s2:=BK.ext s1 e2;have e02:=e1.trans e2;have key:∀ k:Nat,k<=B.ins.length->(∀ j,j<k->YQ (B.ins.getD j default)=true)->(k<B.ins.length->YQ (B.ins.getD k default)=false)->∃ r,yW 7 (.slice v1 v2 v3) none (some k) none=some r/\∀ h0,BK h0 (.slice v1 v2 v3) B.ins->BK h0 r (zBc B.ins):=fun k h1 h2' h3=>by
  rw[<-zJv h1 h2' h3];have one:∀ h0,BK h0 (.slice v1 v2 v3) B.ins->∃ r,yW 7 (.slice v1 v2 v3) none (some k) none=some r/\BK h0 r (B.ins.take k):=fun h0 s0=>by
   by_cases hpos:0<B.ins.length
   ·exact zFC s0 hpos h1
   ·have hz:B.ins=[]:=GH (by omega);rw[hz]at h1 s0 |-;have h1:k=0:=by simpa using h1
    subst h1;exact zLe s0
  obtain⟨r,hr,_⟩:=one h2 s2;refine⟨r,hr,fun h0 s0=> ?_⟩;obtain⟨r',hr',sr⟩:=one h0 s0;rw[hr]at hr';cases hr';exact sr
 rcases hn with⟨rfl,hall⟩|⟨hn,hnp,hall⟩
 ·obtain⟨r,hr,sr⟩:=key B.ins.length (QE _) hall (fun q=>absurd q (Nat.lt_irrefl _));refine go ?_;refine Vl hr ?_;refine gr ?_;exact⟨sr,e02⟩
 ·obtain⟨k,rfl⟩:∃ k:Nat,n=k:=⟨n.toNat,by omega⟩;rw[Q2]at hnp hall;obtain⟨r,hr,sr⟩:=key k (by omega) hall (fun _=>hnp);refine go ?_;refine Vl hr ?_;refine gr ?_;exact⟨sr,e02⟩
end Go.Proofs.YtmilpkdhbdgjfaaGreatDoor
