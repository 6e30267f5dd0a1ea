/- Walks of functions, plain laws; proves no statement. -/
import Derived.Test.YtmejfcakhpihlaaGreatDoorJn
import Derived.Test.YtmejfcakhpihlaaGreatDoorAmM
set_option linter.unusedVariables false
set_option linter.unusedSimpArgs false
set_option maxHeartbeats 2000000
namespace Go.Proofs.YtmejfcakhpihlaaGreatDoor
noncomputable section
open Go.Am
section
variable {T:List U5}{F:List WP}
theorem Yr{k t:Int}(h:Ws T k t=true)(hk:k≠1):zG3 T t:=by
 refine⟨zGg h,?_⟩;have:=zR9 h;unfold W2;rw[this];simp[hk]
theorem zGx{t:Int}(h:BK T t≠ -1):Ws T 2 t=true:=by
 unfold BK at h;split at h
 ·assumption
 ·exact absurd rfl h
theorem zK0{t:Int}(h:zCx T t=true)(hp:W2 T t=false):zG3 T t:=by
 refine⟨fun e=> ?_,hp⟩;rw[e]at h;unfold zCx Ws at h;simp at h
theorem zRz(hs:zc T F=0){f:Nat}(hf:f<F.length){b:Nat}(hb:b<(zL F f).length){i:Nat}(hi:i<((zL F f).getD b default).ins.length)(hm:ZP (((zL F f).getD b default).ins.getD i default)=true):
  ∃ q,YL T f (((z8 T F f).parts.length:Int)+zI ((zL F f).take b)+i) (zn T F) 0 []=q/\0<=q.1/\1<=q.2.length/\q.1+q.2.length<=(yZ T F).sum:=by
 obtain⟨s,hsm,h1,h2⟩:=zEa (T:=T) (G:=F) (n:=0) (f:=f) (b:=b) (i:=i) hf hb hi hm;obtain⟨j,j1,j2,j3,j4⟩:=zFw (T:=T) (f:=f) (r:=((z8 T F f).parts.length:Int)+zI ((zL F f).take b)+i) (S:=zn T F) 0 [] ⟨s,hsm,by rw[h1];omega,h2⟩;refine⟨_,j4,?_⟩;have hty:=zAd hs _ (zJ j1);have hlow:=zC4 (yX (zk hs).1).1;have hpos:=zQh (T:=T) (((zn T F).getD j default).ty.toNat+1) ((zn T F).getD j default).ty.toNat (Q7 _) fun k hk=>(hlow k (by omega)).1;have hn:∀ x∈yZ T F,0<=x:=fun x hx=>by
  unfold yZ at hx;obtain⟨s,_,rfl⟩:=Qt.1 hx;omega
 have hl:j<(yZ T F).length:=by unfold yZ;simpa using j1
 have e1:((zn T F).take j).map (fun s=>((yN T s.ty.toNat).length:Int))=(yZ T F).take j:=by unfold yZ;rw[List.map_take]
 have e2:(yZ T F).getD j 0=((yN T ((zn T F).getD j default).ty.toNat).length:Int):=by
  unfold yZ;rw[zAl j1]
 have h0:=zBP hn (QT j);have h3:=zBJ (l:=yZ T F) hl;have h4:=zBP hn (i:=j+1) (j:=(yZ T F).length) (by omega);rw[Q5]at h4;rw[GE]at h0;simp only[Gz,List.sum_nil]at *;rw[e1];refine⟨by omega,hpos,?_⟩;rw[<-e2];omega
theorem zTn(hs:zc T F=0){f:Nat}(hf:f<F.length){b:Nat}(hb:b<(zL F f).length){i:Nat}(hi:i<((zL F f).getD b default).ins.length):
  ∀ x∈Z0 T F f (YC T F f) (((z8 T F f).parts.length:Int)+zI ((zL F f).take b)+i) (((zL F f).getD b default).ins.getD i default),ConOk T F x:=by
 obtain⟨hp,hw⟩:=zk hs;have hfi:(0:Int)<=f/\(f:Int)<(F.length:Int):=by omega
 have Z:=Bo hp hfi;have W:=(hw f (by omega) (by omega)).2.2 b (by omega) (by omega);have I0:=zNR hs hf hb hi;have h1:=W.1 i (by rw[QU];exact hi);have hfind:=zRz hs hf hb hi;have hBm:(zL F f).getD b default∈zL F f:=zJ hb;have hU:=(Z.U _ hBm).ins _ (zJ hi);obtain⟨n1,n2,n3,n4⟩:=zO5 hs;have hkB:=zFs (zL F f) b i hb hi;have h0:=zA4 ((zL F f).take b);have hreg:∀ q,0<=q->q<((Wu T F f).length:Int)->0<=WZ T F f q/\WZ T F f q<zl T F:=fun q a c=>by have:=zHQ hs hfi ⟨a,c⟩;exact⟨this.1,this.2.1⟩
 have hrl:((z8 T F f).parts.length:Int)+zI ((zL F f).take b)+i<((Wu T F f).length:Int):=by
  rw[Z.reg];unfold zCd;have h2:=zHW (zL F f) (b+1);rw[Zo hb]at h2;have:zI ((zL F f).take b++[(zL F f).getD b default])=zI ((zL F f).take b)+(((zL F f).getD b default).ins.length:Int):=by unfold zI;simp
  omega
 have hkr:(Wu T F f).getD (((z8 T F f).parts.length:Int)+zI ((zL F f).take b)+i).toNat 0=Zu (((zL F f).getD b default).ins.getD i default):=by
  rw[<-hkB];unfold Wu zAz;rw[zAn (by omega)];congr 1;omega
 unfold YI zEh at h1;rw[QU]at h1;obtain⟨g1,g2,-,-⟩:=h1;have hraw:= @zPw T F f;generalize hrr:((z8 T F f).parts.length:Int)+zI ((zL F f).take b)+i=r at *;have hr0:0<=r:=by omega
 clear hrr hkB;generalize((zL F f).getD b default).ins.getD i default=x at *;have hus:∀ q∈zi x,(0<=q/\q<((Wu T F f).length:Int))/\(Wu T F f).getD q.toNat 0≠ -1/\(YC T F f).getD q.toNat 0=(Wu T F f).getD q.toNat 0:=fun q hq=>by
  have h2:(Wu T F f).getD q.toNat 0≠ -1:=fun e=>g1 (Qt.2 ⟨q,hq,e⟩);exact⟨hU.uses q hq,h2,(hraw h2).1⟩
 have hgood:∀ q∈zi x,zG3 T ((Wu T F f).getD q.toNat 0)->zPz T F (WZ T F f q):=fun q hq hn=> .inl ⟨f,q,⟨hfi,(hus q hq).1,hn⟩,rfl⟩;have hres:zG3 T (Zu x)->zPz T F (WZ T F f r):=fun hn=> .inl ⟨f,r,⟨hfi,⟨hr0,hrl⟩,by rw[hkr];exact hn⟩,rfl⟩;have hat:∀ q∈zi x,zKg T F (WZ T F f q):=fun q hq=>⟨f,q,⟨hfi,(hus q hq).1⟩,rfl⟩;have hrat:zKg T F (WZ T F f r):=⟨f,r,⟨hfi,hr0,hrl⟩,rfl⟩;have hki:x.op=2\/x.op=3\/x.op=11\/x.op=12\/x.op=14\/x.op=15\/x.op=16\/x.op=18\/x.op=19\/x.op=22->Zu x=x.ty:=fun h=>by
  unfold Zu;rw[QI];rcases h with e|e|e|e|e|e|e|e|e|e<;>rw[e]<;>decide
 obtain⟨u14,u15,u16,u17,u19,v17,w18,w19,w22,z14,z14',z18,z18',z19,z22,z22'⟩:=zSm;have v15:(zW 15).2.1=true:=by decide
 have hpc:∀ m,YS T (-1) m= -1:=fun m=>by unfold YS;rw[QI rfl]
 intro c hc;unfold Z0 at hc;unfold zAs at g2;split at hc
 ·rename_i ho;rw[QW]at hc;subst hc;refine⟨(by simp only;decide),fun _=>hres ?_,fun e=>(by cases e),.inl ⟨rfl,rfl⟩,?_,.inr rfl,fun a h=>by cases h⟩
  ·rw[hki (by omega)];rcases ho with e|e
   ·simp only[e,Q2,GB]at g2;rcases g2 with g2|g2
    ·exact Yr g2 (by decide)
    ·exact Yr g2 (by decide)
   ·simp[e]at g2;have:=I0.n3 e;rw[g2];exact Yr (zV4 hp _ (zJ (l:=F) (i:=x.n.toNat) (by omega))).2 (by decide)
  ·unfold zKT;show 0<=(if x.op=3 then x.n+1 else 0)/\((1:Int)=1->(if x.op=3 then x.n+1 else 0)<_);split
   ·rename_i e;have:=I0.n3 e;omega
   ·omega
 rename_i ho2;split at hc
 ·rename_i ho;obtain⟨q,hq,q0,q1,q2⟩:=hfind (by unfold ZP;rcases ho with e|e<;>simp[e]);rw[hq]at hc;unfold zGJ at hc;rcases GL.1 hc with rfl|hc
  ·refine⟨(by simp only;decide),fun _=>hres ?_,fun e=>(by cases e),.inl ⟨rfl,rfl⟩,?_,.inr rfl,fun a h=>by cases h⟩
   ·rw[hki (by omega)];rw[QC (by omega),QC (by omega),QC (by omega),QI ho]at g2;exact Yr g2 (by decide)
   ·unfold zKT;exact⟨by show 0<=1+(F.length:Int)+q.1;omega,fun _=>by show 1+(F.length:Int)+q.1<_;omega⟩
  ·unfold zKj at hc;obtain⟨j,hj,hc⟩:=List.mem_flatMap.1 hc;rw[GJ]at hj;split at hc
   ·cases hc
   rw[QW]at hc;subst hc;exact⟨(by simp only;decide),fun _=> .inr ⟨by show _<=zl T F+(F.length:Int)+q.1+j;omega,by show zl T F+(F.length:Int)+q.1+j<_;omega⟩,fun e=>(by cases e),.inl ⟨rfl,rfl⟩,⟨(by simp only;decide),fun _=>by unfold zKT;show(0:Int)<_;omega⟩,.inr rfl,fun a h=>by cases h⟩
 rename_i ho11;split at hc
 ·rename_i ho;rw[QW]at hc;subst hc;have ha:x.a∈zi x:=by
   unfold zi;have:(zW x.op).1=true:=by rcases ho with e|e<;>rw[e]<;>assumption
   rw[QI this];simp
  have hu:(zi x).map (fun r=>(Wu T F f).getD r.toNat 0)=(Wu T F f).getD x.a.toNat 0::((zi x).map (fun r=>(Wu T F f).getD r.toNat 0)).drop 1:=by
   unfold zi;have:(zW x.op).1=true:=by rcases ho with e|e<;>rw[e]<;>assumption
   rw[QI this];simp
  have hg:∃ m,zEW T ((Wu T F f).getD x.a.toNat 0) x.ty m=true:=by
   rw[QC (by omega),QC (by omega),QC (by omega),QC (by omega),QC (by omega),QI (by omega)]at g2;unfold zGc Zh at g2;rw[hu]at g2;rcases ho with e|e
   ·simp only[e,Q2,List.getD_cons_zero,QF]at g2;exact⟨_,g2.2⟩
   ·simp only[e,Q2,show ¬((15:Int)=14) by decide,Gi,List.getD_cons_zero,QF]at g2;exact⟨_,g2.2⟩
  obtain⟨m,hg⟩:=hg;unfold zEW at hg;simp only[QF,QV]at hg;refine⟨(by simp only;decide),fun _=>hres ?_,fun e=>(by cases e),.inr (hgood _ ha ?_),?_,.inr rfl,fun a h=>by cases h⟩
  ·rw[hki (by omega)];exact Yr (zGx (by rw[hg.2];exact hg.1)) (by decide)
  ·refine Yr (zGx fun e=>hg.1 ?_) (by decide);rw[e,hpc]
  ·refine⟨?_,fun e=>by cases e⟩;show 0<=(if x.op=14 then _ else 0);split
   ·unfold stepL;generalize List.take _ _=l;induction l with
    |nil=>simp
    |cons p l ih=>rw[Qm,G9];omega
   ·omega
 rename_i ho14;split at hc
 ·rename_i ho;split at hc
  ·cases hc
  rename_i hpl;have hpl:W2 T x.ty=false:=by simpa using hpl
  rw[QW]at hc;subst hc;have hu:zi x=[x.a]:=by unfold zi;rw[ho];rfl
  have ha:x.a∈zi x:=by rw[hu];simp
  unfold zGc Zh at g2;rw[hu]at g2;simp[ho]at g2;refine⟨(by simp only;decide),fun _=>hres ?_,fun e=>(by cases e),.inr (hgood _ ha ?_),⟨(by simp only;decide),fun e=>by cases e⟩,.inr rfl,fun a h=>by cases h⟩
  ·rw[hki (by omega)];exact zK0 (by rw[g2.2];exact g2.1) hpl
  ·refine Yr (zGx fun e=> ?_) (by decide);have h2:=g2.1;simp only[QK]at e;rw[e]at h2;unfold zCx Ws at h2;simp at h2
 rename_i ho16;split at hc
 ·rename_i ho;have hu:zi x=[x.a,x.b]:=by unfold zi;rw[ho];rfl
  have ha:x.a∈zi x:=by rw[hu];simp
  have hb':x.b∈zi x:=by rw[hu];simp
  split at hc
  ·cases hc
  rename_i hpl;have hpl:W2 T ((Wu T F f).getD x.b.toNat 0)=false:=by rw[(hus _ hb').2.2]at hpl;simpa using hpl
  rw[QW]at hc;subst hc;unfold zGc Zh at g2;rw[hu]at g2;simp[ho]at g2;simp only[<-QK]at g2;refine⟨(by simp only;decide),fun _=>hgood _ ha ?_,fun e=>(by cases e),.inr (hgood _ hb' ⟨(hus _ hb').2.1,hpl⟩),⟨(by simp only;decide),fun e=>by cases e⟩,.inr rfl,fun a h=>by cases h⟩;refine Yr (zGx fun e=> ?_) (by decide);have h2:=g2.1;rw[e]at h2;unfold zCx Ws at h2;simp at h2
 rename_i ho17;split at hc
 ·rename_i ho;have hu:zi x=x.args:=by unfold zi;rw[ho,z18,z18',w18];simp
  have hn:=(I0.c18 ho).1;have Zn:=Bo hp (f:=x.n) hn;rw[hu]at g2;unfold zDL sigF at g2;simp[ho]at g2;simp only[<-QK]at g2;obtain⟨⟨g3,g4⟩,g5⟩:=g2;have hel:x.ty≠ -1:=by
   have:=Zn.el;unfold z8 PlT at this;rw[g5]at this;omega
  rcases Qi.1 hc with hc|hc
  ·unfold zFV at hc;obtain⟨j,hj,hc⟩:=List.mem_flatMap.1 hc;rw[GJ]at hj;split at hc
   ·cases hc
   rename_i hpl;have hpl:W2 T ((z8 T F x.n).parts.getD j 0)=false:=by simpa using hpl
   rw[QW]at hc;subst hc;have hgm:=Zn.par _ (zb hj);have hN:zG3 T ((z8 T F x.n).parts.getD j 0):=⟨by unfold PlT at hgm;omega,hpl⟩;have hj2:j<x.args.length:=by
    have:=congrArg List.length g4;unfold Zh at this;unfold z8 at hj;rw[Qp]at this;omega
   have ham:x.args.getD j 0∈zi x:=by rw[hu];exact zb hj2
   refine⟨(by simp only;decide),fun _=> .inl ⟨x.n,j,⟨hn,⟨by omega,?_⟩,?_⟩,rfl⟩,fun e=>(by cases e),.inr (hgood _ ham ?_),⟨(by simp only;decide),fun e=>by cases e⟩,.inr rfl,fun a h=>by cases h⟩
   ·have:(Wu T F x.n).length=(z8 T F x.n).parts.length+(yn (zL F x.n)).length:=by unfold Wu zAz;rw[QM]
    omega
   ·rw[QU];unfold Wu zAz;rw[zBY hj];exact hN
   ·have:(Wu T F f).getD (x.args.getD j 0).toNat 0=(z8 T F x.n).parts.getD j 0:=by
     unfold z8;rw[g4];unfold Zh;rw[zAl (a:=0) hj2]
    rw[this];exact hN
  ·split at hc
   ·cases hc
   rename_i hpl;have hpl:W2 T x.ty=false:=by simpa using hpl
   rw[QW]at hc;subst hc;exact⟨(by simp only;decide),fun _=>hres (by rw[hki (by omega)];exact⟨hel,hpl⟩),fun e=>(by cases e),.inr (.inr ⟨by show _<=zl T F+x.n;omega,by show zl T F+x.n<_;omega⟩),⟨(by simp only;decide),fun e=>by cases e⟩,.inr rfl,fun a h=>by cases h⟩
 rename_i ho18;split at hc
 ·rename_i ho;rw[QW]at hc;subst hc;have hu:zi x=x.a::x.args:=by unfold zi;rw[ho,u19,z19,w19];simp
  have ha:x.a∈zi x:=by rw[hu];simp
  unfold zDL Zh at g2;rw[hu]at g2;simp[ho]at g2;simp only[<-QK]at g2;refine⟨(by simp only;decide),fun e=>absurd rfl e,fun _=>hrat,.inr (hgood _ ha (Yr g2.1.1 (by decide))),⟨(by simp only;decide),fun e=>by cases e⟩,.inl rfl,fun a h=> ?_⟩;obtain⟨q,hq,rfl⟩:=Qt.1 h;exact hat q (by rw[hu];exact Qh _ hq)
 rename_i ho19;split at hc
 ·rename_i ho;split at hc
  ·cases hc
  rename_i hpl;have hpl:W2 T x.ty=false:=by simpa using hpl
  have hu:zi x=x.args:=by unfold zi;rw[ho,z22,z22',w22];simp
  unfold Zh at g2;rw[hu]at g2;simp[ho]at g2;simp only[<-QK]at g2;have hN:=zK0 g2.1 hpl;unfold zNO at hc;obtain⟨j,hj,hc⟩:=List.mem_flatMap.1 hc;rw[GJ]at hj;rw[QW]at hc;subst hc;have ham:x.args.getD j 0∈x.args:=zb hj;exact⟨(by simp only;decide),fun _=>hres (by rw[hki (by omega)];exact hN),fun e=>(by cases e),.inr (hgood _ (by rw[hu];exact ham) (by rw[g2.2 _ ham];exact hN)),⟨(by simp only;decide),fun e=>by cases e⟩,.inr rfl,fun a h=>by cases h⟩
 ·cases hc
theorem zQZ(hs:zc T F=0){f:Nat}(hf:f<F.length){b:Nat}(hb:b<(zL F f).length):∀ x∈zIs T F f ((zL F f).getD b default),ConOk T F x:=by
 obtain⟨hp,hw⟩:=zk hs;have hfi:(0:Int)<=f/\(f:Int)<(F.length:Int):=by omega
 have Z:=Bo hp hfi;have W:=((hw f (by omega) (by omega)).2.2 b (by omega) (by omega)).2;have hU:=(Z.U _ (zJ hb)).ends;obtain⟨n1,n2,n3,n4⟩:=zO5 hs;unfold Ym zGl at W;rw[QU]at W;generalize(zL F f).getD b default=B at *;intro c hc;unfold zIs at hc;split at hc
 ·rename_i hk;split at hc
  ·cases hc
  rename_i hpl;have hpl:W2 T (z8 T F f).elem=false:=by simpa using hpl
  rw[QW]at hc;subst hc;have hu:yj B.fin=[B.fin.a]:=by unfold yj;rw[QI (.inr hk)]
  have h3:=W.2.2.2 hk;have hel:=Z.el;have hq:=hU B.fin.a (by rw[hu];simp);rw[hu]at h3;refine⟨(by simp only;decide),fun _=> .inr ⟨by show _<=zl T F+(f:Int);omega,by show zl T F+(f:Int)<_;omega⟩,fun e=>(by cases e),.inr (.inl ⟨f,B.fin.a,⟨hfi,hq,?_⟩,rfl⟩),⟨(by simp only;decide),fun e=>by cases e⟩,.inr rfl,fun a h=>by cases h⟩;have:(Wu T F f).getD B.fin.a.toNat 0=(z8 T F f).elem:=h3;rw[this];exact⟨by unfold PlT at hel;omega,hpl⟩
 ·cases hc
theorem zUV(hs:zc T F=0):∀ x∈zBH T F,ConOk T F x:=fun x hx=>by
 unfold zBH at hx;rw[QI hs]at hx;unfold zAi consB zFo at hx;simp only[List.mem_flatMap,GJ,Qi]at hx;obtain⟨f,hf,b,hb,⟨i,hi,hx⟩|hx⟩:=hx
 ·exact zTn hs hf hb hi x hx
 ·exact zQZ hs hf hb x hx
end
section
variable {T:List U5}{F:List WP}
theorem zRf(hs:zc T F=0){f q g r:Int}(hf:0<=f/\f<(F.length:Int))(hq:0<=q/\q<((Wu T F f).length:Int))(hg:0<=g/\g<(F.length:Int))(hr:0<=r/\r<((Wu T F g).length:Int))(h:WZ T F f q=WZ T F g r):f=g/\q=r:=by
 obtain⟨hb,hl,h1,h8⟩:=zC1 hs;have hp:∀ x∈zX T F,0<=x:=fun x hx=>(hb x hx).1;have a1:=(zHQ hs hf hq).2.2;have a2:=(zHQ hs hg hr).2.2;have b1:=zBJ (l:=zX T F) (i:=f.toNat) (by omega);have b2:=zBJ (l:=zX T F) (i:=g.toNat) (by omega);unfold WZ at h;rcases Int.lt_trichotomy f g with h2|h2|h2
 ·have:=zBP hp (i:=f.toNat+1) (j:=g.toNat) (by omega);omega
 ·subst h2;omega
 ·have:=zBP hp (i:=g.toNat+1) (j:=f.toNat) (by omega);omega
theorem zU8(hs:zc T F=0){f r v:Int}(hf:0<=f/\f<(F.length:Int))(hr:0<=r/\r<((Wu T F f).length:Int))(hn:¬zG3 T ((Wu T F f).getD r.toNat 0))(h:zPz T F v):v≠WZ T F f r:=fun e=>by
 rcases h with⟨g,q,⟨hg,hq,hk⟩,rfl⟩|⟨h,_⟩
 ·obtain⟨rfl,rfl⟩:=zRf hs hg hq hf hr e;exact hn hk
 ·have:=(zHQ hs hf hr).2.1;omega
end
set_option maxRecDepth 100000
def zVE:U3:=(oV (oR [oX 4 0,oZ 8]) (oV (oR [⟨some 17,none,(.call (.func 15) [])⟩,oM 9 17]) (oV (oV (oR [oA 2 18 4,⟨some 19,none,(.call (.func 8) [(.tmp 18),(.const (.int .i64 100))])⟩,oM 20 19,oH 20 (oM 21 9),oH 20 (oW 22 21),oO 23 20 22]) (oJ 23 (oV (oR [oM 24 9,oM 8 24]) .ret) .skip)) (oV (oR [oA 2 26 4,o1 27 10 26,oM 25 27,oE 28 25 0,oE 29 25 1,oM 10 28,oM 11 29]) (oV (oR [oA 2 31 4,oM 32 2,oM 33 3,o3 34 20 31 32 33,oM 30 34,oE 35 30 0,oE 36 30 1,oM 12 35,oM 13 36]) (oV (oV (oR [oM 37 11,oC .neq 38 37 0,oM 39 38,oH 39 (oM 40 13),oH 39 (oC .neq 41 40 0),oO 42 39 41,oM 43 42,oH 43 (oM 44 1),oH 43 (oC .lss 45 44 0),oO 46 43 45,oM 47 46,oH 47 (oM 48 1),oH 47 (oM 49 10),oH 47 (oQ 50 49),oH 47 (oB .geq 51 48 50),oO 52 47 51]) (oJ 52 (oV (oR [oM 53 9,oM 8 53]) .ret) .skip)) (oV (oR [oA 2 55 4,oM 56 2,oM 57 3,o3 58 21 55 56 57,oM 54 58,oE 59 54 0,oE 60 54 1,oM 14 59,oM 15 60]) (oV (oV (oR [oM 61 15,oC .eql 62 61 0,oM 63 62,oG 63 (oM 64 14),oG 63 (oC .lss 65 64 0),oG 63 (oM 66 65),oH 66 (oM 67 14),oH 66 (oF 0 68 4),oH 66 (oL 69 68),oH 66 (oQ 70 69),oH 66 (oB .geq 71 67 70),oG 63 (oO 72 66 71),oG 63 (oM 73 72),oH 73 (oF 0 74 4),oH 73 (oL 75 74),oH 73 (oM 76 14),oH 73 (oI 4 77 75 76),oH 73 (oF 0 78 77),oH 73 (oL 79 78),oH 73 (oD .neq 80 79 1),oG 63 (oO 81 73 80),oP 82 63 81]) (oJ 82 (oV (oR [oM 83 9,oM 84 83,oG 84 (oM 85 14),oG 84 (oC .geq 86 85 0),oP 87 84 86,oM 88 87,oG 88 (oM 89 14),oG 88 (oF 0 90 4),oG 88 (oL 91 90),oG 88 (oQ 92 91),oG 88 (oB .lss 93 89 92),oP 94 88 93,oM 8 94]) .ret) .skip)) (oV (oR [oM 95 10,oM 96 1,oI 5 97 95 96,oA 5 98 97,⟨some 16,none,(.alloc [(.int .u8 0),(.int .i64 0),(.int .i64 0),(.int .i64 0),(.slice none 0 0)])⟩,oS 5 16 98]) (oV (oV (oR [oF 0 99 16,oL 100 99,oD .eql 101 100 6]) (oJ 101 (oV (oR [oM 102 9,oM 103 102,oG 103 (oF 2 104 16),oG 103 (oL 105 104),oG 103 (oM 106 12),oG 103 (oB .neq 107 105 106),oP 108 103 107,oM 8 108]) .ret) .skip)) (oV (oR [oM 109 9,oM 110 109,oG 110 (oF 1 111 16),oG 110 (oL 112 111),oG 110 (oM 113 12),oG 110 (oB .neq 114 112 113),oP 115 110 114,oM 116 115,oG 116 (oF 0 117 16),oG 116 (oL 118 117),oG 116 (oD .eql 119 118 1),oG 116 (oM 120 119),oH 120 (oF 2 121 16),oH 120 (oL 122 121),oH 120 (oM 123 12),oH 120 (oB .neq 124 122 123),oG 116 (oO 125 120 124),oP 126 116 125,oM 8 126]) .ret)))))))))))
theorem zGm(h:U2)(vt vf:Value)(T:List U5)(F:List WP)(at' f r:Int)(tt:Be h)(hm:h.mark<=h.n)(st:Wv h vt T)(sf:Wr h vf F)(hT:(T.length:Int)<=1152921504606846976)(hF:(F.length:Int)<=1152921504606846976):
  WC Tryz.prog tb 7 [.agg #[vt,vf],I at',I f,I r] h fun r h'=>r=.bool true:=by
 refine en 127 [(8,none)] zVE ?_;refine VH ?_;intro p h1 e1 o1;refine go ?_;refine VA (zOF h1 (tt.ext e1).1) ?_;rintro _ _ ⟨rfl,rfl⟩;refine go ?_;refine VA (zMc h1 vt vf T F 100 (by omega) (st.ext e1) (Wr.ext sf e1) (by omega) (by omega)) ?_;rintro rr h2 ⟨hr,e2⟩;replace o1:U6 h h1 p [vt,vf]:=o1;have o2:=o1.ext e2;rcases hr with rfl|⟨rfl,sm,si⟩
 ·refine gr ?_;rfl
 have E:Env h2 vt vf T F:=⟨(tt.ext e1).ext e2,yO e2 (yO e1 hm),sm,(st.ext e1).ext e2,Wr.ext (Wr.ext sf e1) e2⟩;clear st sf tt hm e1 e2;refine go ?_;refine VA (zTf E) ?_;rintro _ h3 ⟨⟨vL,rfl,oL,hLl⟩,e3⟩;obtain⟨l1,l2,l3,rfl⟩:=zF oL.sl;have o3:=o2.ext e3;have E3:=E.ext e3;refine go ?_;refine VA (zQn E3 f r) ?_;rintro _ h4 ⟨rfl,e4⟩;have o4:=o3.ext e4;have E4:=E3.ext e4;have sL4:=SlO.ext oL.sl e4;by_cases hs:zc T F=0;case neg=>
  refine gr ?_;rfl
 by_cases hg:zOE T F f r=0;case neg=>
  rw[hs];refine gr ?_;rfl
 obtain⟨_,hi,hv⟩:=zQ7 hg;rw[hs,hg];by_cases h0:at'<0
 ·refine gr ?_;rfl
 by_cases h5:((zBH T F).length:Int)<=at'
 ·refine gr ?_;rfl
 have hlt:at'.toNat<(zBH T F).length:=by omega
 have C:=zUV hs _ (zJ hlt);have hf:=hi.1;have hr:0<=r/\r<((Wu T F f).length:Int):=by
  have Z:=Bo (zk hs).1 hf;have h2:=hi.2;have:f.toNat<F.length:=by omega
  rw[Z.reg];unfold zX at h2;unfold zCd z8 zL;simpa [List.getD,QB this]using h2
 have hne:= @zU8 T F hs f r;have hkk:zIN T F f r=if(Wu T F f).getD r.toNat 0= -1 then(0,6)else((Wu T F f).getD r.toNat 0,0):=by
  have hp:=(zk hs).1;have Z:=Bo hp hf;have hrg:zCd ((z8 T F f).parts.length:Int) (zL F f)=(Wu T F f).length:=Z.reg.symm;have hpl:(Z1 T F f r).2.2=0:=by
   rw[zFh hp,QC (by rw[hrg];omega)];split<;>rfl
  unfold zIN;rw[QC (fun e=>e hs),QC (fun e=>e hpl)]
 have hin:BI T ((Wu T F f).getD r.toNat 0):=(Bo (zk hs).1 hf).ks _ (zb (by omega));refine go ?_;refine VA (zOu h4 vt vf T F f r E4) ?_;rintro _ h5' ⟨rfl,e5⟩;rw[hkk];have E5:=E4.ext e5;have o5:=o4.ext e5;have sL5:=SlO.ext sL4 e5;have st5:=E5.st;obtain⟨t1,t2,t3,rfl⟩:=zF st5;obtain⟨cs,⟨va,rfl,sa,hla⟩,pc,hsl⟩:=yv (i:=at'.toNat) sL5 hlt;generalize(zBH T F).getD at'.toNat default=x at *;obtain⟨a1,a2,a3,rfl⟩:=Wb.shape sa;have fin:¬zG3 T ((Wu T F f).getD r.toNat 0)->(x.kind=6->x.frm≠zGZ T F f r)/\(x.kind≠6->x.to≠zGZ T F f r/\(x.kind=1\/x.frm≠zGZ T F f r)):=fun hn=>by
  have hv':zGZ T F f r=WZ T F f r:=hv;rw[hv'];refine⟨fun h6=> ?_,fun h6=>⟨hne hf hr hn (C.to h6),?_⟩⟩
  ·rcases C.frm with⟨e,_⟩|h
   ·omega
   ·exact hne hf hr hn h
  ·rcases C.frm with⟨e,_⟩|h
   ·exact .inl e
   ·exact .inr (hne hf hr hn h)
 unfold zG3 W2 at fin;generalize(Wu T F f).getD r.toNat 0=k at *;generalize zGZ T F f r=n at *;by_cases hk:k= -1
 ·have fin:=fin (fun q=>q.1 hk);rw[QI hk];dsimp only;refine go ?_;refine WO.al ?_;intro p6 h6 e6 o6;refine go ?_;refine VG (cs:=[.int .u8 x.kind,I x.to,I x.frm,I x.n,.slice a1 a2 a3]) o6 e6 ?_;intro h7 e7 o7 _;have hne1:=fin.1;by_cases h6':x.kind=6
  ·have q1:=fin.1 h6';refine gr ?_;first|rfl|(show Value.bool _=Value.bool true;simp[q1])
  ·have q1:=(fin.2 h6').1;have q2:=(fin.2 h6').2;by_cases h1':x.kind=1
   ·refine gr ?_;first|rfl|(show Value.bool _=Value.bool true;simp[q1])
   ·have q3:=q2.resolve_left h1';refine gr ?_;first|rfl|(show Value.bool _=Value.bool true;simp[q1,q3])
 ·rw[QC hk];have hk':=hin.resolve_left hk;dsimp only;obtain⟨csT,⟨vb,rfl,sb,hlb⟩,pcT,hsT⟩:=ZL (i:=k.toNat) st5 (by omega);by_cases hk1:(T.getD k.toNat default).kind=1
  ·have fin:=fin (fun q=>by have h9:=q.2;rw[Qe hk1]at h9;cases h9);refine go ?_;refine WO.al ?_;intro p6 h6 e6 o6;refine go ?_;refine VG (cs:=[.int .u8 x.kind,I x.to,I x.frm,I x.n,.slice a1 a2 a3]) o6 e6 ?_;intro h7 e7 o7 _;have hne1:=fin.1;by_cases h6':x.kind=6
   ·have q1:=fin.1 h6';refine gr ?_;first|rfl|(show Value.bool _=Value.bool true;simp[q1])
   ·have q1:=(fin.2 h6').1;have q2:=(fin.2 h6').2;by_cases h1':x.kind=1
    ·refine gr ?_;first|rfl|(show Value.bool _=Value.bool true;simp[q1])
    ·have q3:=q2.resolve_left h1';refine gr ?_;first|rfl|(show Value.bool _=Value.bool true;simp[q1,q3])
  ·refine gr ?_;show Value.bool (decide (k<(T.length:Int)))=_;rw[Qe (by omega)]
def laidL:List (Nat×List Value):=[(0,ZT)]
set_option maxRecDepth 1000000 in
theorem yE:(laidL.all fun x=>Nat.ble (x.1+1) Tryz.prog.globals.size&&yb x.2)=true:=by kernel_rfl
def tab0:Wi:=zKO Tryz.prog
theorem ok0:tab0.Ok Tryz.prog:=zJT _
def q0:TL:=(.cl (.int .i64 3) (.sl 5 1 (.sl 7 3 (.cl (.int .u8 11) (.cl (.int .i64 2) (.cl (.int .i64 0) (.cl (.int .i64 0) (.cl (.int .i64 0) (.cl (.slice none 0 0) (.cl (.slice none 0 0) (.cl (.int .u8 16) (.cl (.int .i64 1) (.cl (.int .i64 0) (.cl (.int .i64 0) (.cl (.int .i64 0) (.cl (.slice none 0 0) (.cl (.slice none 0 0) (.cl (.int .u8 1) (.cl (.int .i64 0) (.cl (.int .i64 0) (.cl (.int .i64 0) (.cl (.int .i64 1) (.cl (.slice none 0 0) (.cl (.slice none 0 0) .nil))))))))))))))))))))) (.cl (.int .u8 3) (.cl (.int .i64 2) (.cl (.int .i64 0) (.cl (.int .i64 0) .nil))))) .nil))
def q1:TL:=(.cl (.int .u8 1) (.cl (.int .i64 0) (.cl (.int .i64 0) (.cl (.slice none 0 0) (.cl (.int .u8 2) (.cl (.int .i64 0) (.cl (.int .i64 0) (.cl (.slice none 0 0) (.cl (.int .u8 2) (.cl (.int .i64 1) (.cl (.int .i64 0) (.cl (.slice none 0 0) (.cl (.int .u8 3) (.cl (.int .i64 0) (.cl (.int .i64 0) (.cl (.slice none 0 0) (.cl (.int .u8 3) (.cl (.int .i64 1) (.cl (.int .i64 0) (.sl 1 2 (.cl (.int .i64 1) (.cl (.int .i64 0) .nil)) (.cl (.int .u8 4) (.cl (.int .i64 0) (.cl (.int .i64 0) (.sl 1 2 (.cl (.int .i64 0) (.cl (.int .i64 1) .nil)) (.cl (.int .u8 2) (.cl (.int .i64 5) (.cl (.int .i64 0) (.cl (.slice none 0 0) .nil))))))))))))))))))))))))))))
def q2:TL:=(.sl 4 7 q1 (.sl 2 1 q0 .nil))
def zSu:TL×TL:=((.ag q2 (.ag q0 .nil)),(.cl (.bool true) .nil))
set_option maxRecDepth 1000000 in
theorem zVL:BY Tryz.prog tab0 700 74 laidL zSu=some (.bool true):=by kernel_rfl
def l74:List (TL×TL):=[zSu]
def tab1:Wi:=tab0.know 74 (Yk laidL l74)
theorem ok1:tab1.Ok Tryz.prog:=ok0.know Tryz.checked.mixed (n:=700) yE (List.forall_mem_cons.2 ⟨zVL,fun p hp=>by cases hp⟩)
def zOx:TL×TL:=((.sl 4 7 q1 (.cl (.int .i64 0) (.cl (.slice none 0 0) .nil))),(.cl (.int .i64 1) (.cl (.bool true) .nil)))
set_option maxRecDepth 1000000 in
theorem zUK:BY Tryz.prog tab1 700 109 laidL zOx=some (.bool true):=by kernel_rfl
def zOV:TL×TL:=((.sl 4 7 q1 (.cl (.int .i64 1) (.sl 1 1 (.cl (.int .i64 1) .nil) .nil))),(.cl (.int .i64 1) (.cl (.bool true) .nil)))
set_option maxRecDepth 1000000 in
theorem zTj:BY Tryz.prog tab1 700 109 laidL zOV=some (.bool true):=by kernel_rfl
def zPx:TL×TL:=((.sl 4 7 q1 (.cl (.int .i64 2) (.sl 1 2 (.cl (.int .i64 1) (.cl (.int .i64 1) .nil)) .nil))),(.cl (.int .i64 1) (.cl (.bool true) .nil)))
set_option maxRecDepth 1000000 in
theorem zTZ:BY Tryz.prog tab1 700 109 laidL zPx=some (.bool true):=by kernel_rfl
def zPP:TL×TL:=((.sl 4 7 q1 (.cl (.int .i64 3) (.sl 1 3 (.cl (.int .i64 1) (.cl (.int .i64 1) (.cl (.int .i64 1) .nil))) .nil))),(.cl (.int .i64 1) (.cl (.bool true) .nil)))
set_option maxRecDepth 1000000 in
theorem zTw:BY Tryz.prog tab1 700 109 laidL zPP=some (.bool true):=by kernel_rfl
def zNi:TL×TL:=((.sl 4 7 q1 (.cl (.int .i64 4) (.sl 1 4 (.cl (.int .i64 1) (.cl (.int .i64 1) (.cl (.int .i64 1) (.cl (.int .i64 1) .nil)))) .nil))),(.cl (.int .i64 1) (.cl (.bool true) .nil)))
set_option maxRecDepth 1000000 in
theorem zTU:BY Tryz.prog tab1 700 109 laidL zNi=some (.bool true):=by kernel_rfl
def zOa:TL×TL:=((.sl 4 7 q1 (.cl (.int .i64 5) (.sl 1 5 (.cl (.int .i64 1) (.cl (.int .i64 1) (.cl (.int .i64 1) (.cl (.int .i64 1) (.cl (.int .i64 1) .nil))))) .nil))),(.cl (.int .i64 2) (.cl (.bool true) .nil)))
set_option maxRecDepth 1000000 in
theorem zTG:BY Tryz.prog tab1 700 109 laidL zOa=some (.bool true):=by kernel_rfl
def zNH:TL×TL:=((.sl 4 7 q1 (.cl (.int .i64 6) (.sl 1 6 (.cl (.int .i64 1) (.cl (.int .i64 1) (.cl (.int .i64 1) (.cl (.int .i64 1) (.cl (.int .i64 1) (.cl (.int .i64 2) .nil)))))) .nil))),(.cl (.int .i64 1) (.cl (.bool true) .nil)))
set_option maxRecDepth 1000000 in
theorem zT9:BY Tryz.prog tab1 700 109 laidL zNH=some (.bool true):=by kernel_rfl
def zWB:List (TL×TL):=[zOx,zOV,zPx,zPP,zNi,zOa,zNH]
def tab2:Wi:=tab1.know 109 (Yk laidL zWB)
theorem ok2:tab2.Ok Tryz.prog:=ok1.know Tryz.checked.mixed (n:=700) yE (List.forall_mem_cons.2 ⟨zUK,List.forall_mem_cons.2 ⟨zTj,List.forall_mem_cons.2 ⟨zTZ,List.forall_mem_cons.2 ⟨zTw,List.forall_mem_cons.2 ⟨zTU,List.forall_mem_cons.2 ⟨zTG,List.forall_mem_cons.2 ⟨zT9,fun p hp=>by cases hp⟩⟩⟩⟩⟩⟩⟩)
def zSt:TL×TL:=((.sl 4 7 q1 .nil),(.cl (.int .i64 0) .nil))
set_option maxRecDepth 1000000 in
theorem zVM:BY Tryz.prog tab2 700 71 laidL zSt=some (.bool true):=by kernel_rfl
def l71:List (TL×TL):=[zSt]
def tab3:Wi:=tab2.know 71 (Yk laidL l71)
theorem ok3:tab3.Ok Tryz.prog:=ok2.know Tryz.checked.mixed (n:=700) yE (List.forall_mem_cons.2 ⟨zVM,fun p hp=>by cases hp⟩)
def zSy:TL×TL:=((.ag q2 .nil),(.cl (.int .i64 0) .nil))
set_option maxRecDepth 1000000 in
theorem zVB:BY Tryz.prog tab3 700 37 laidL zSy=some (.bool true):=by kernel_rfl
def l37:List (TL×TL):=[zSy]
def tab4:Wi:=tab3.know 37 (Yk laidL l37)
theorem ok4:tab4.Ok Tryz.prog:=ok3.know Tryz.checked.mixed (n:=700) yE (List.forall_mem_cons.2 ⟨zVB,fun p hp=>by cases hp⟩)
def zS8:TL×TL:=((.ag q2 (.cl (.int .i64 0) .nil)),(.cl (.int .i64 3) (.cl (.int .i64 0) .nil)))
set_option maxRecDepth 1000000 in
theorem zVC:BY Tryz.prog tab4 700 17 laidL zS8=some (.bool true):=by kernel_rfl
def l17:List (TL×TL):=[zS8]
def tab5:Wi:=tab4.know 17 (Yk laidL l17)
theorem ok5:tab5.Ok Tryz.prog:=ok4.know Tryz.checked.mixed (n:=700) yE (List.forall_mem_cons.2 ⟨zVC,fun p hp=>by cases hp⟩)
def zSz:TL×TL:=((.ag q2 (.cl (.int .i64 0) .nil)),(.sl 1 1 (.cl (.int .i64 0) .nil) (.cl (.int .i64 0) .nil)))
set_option maxRecDepth 1000000 in
theorem zVa:BY Tryz.prog tab5 700 75 laidL zSz=some (.bool true):=by kernel_rfl
def l75:List (TL×TL):=[zSz]
def tab6:Wi:=tab5.know 75 (Yk laidL l75)
theorem ok6:tab6.Ok Tryz.prog:=ok5.know Tryz.checked.mixed (n:=700) yE (List.forall_mem_cons.2 ⟨zVa,fun p hp=>by cases hp⟩)
def zNC:TL×TL:=((.ag q2 (.cl (.int .i64 0) (.cl (.int .i64 0) .nil))),(.cl (.slice none 0 0) (.cl (.int .i64 0) .nil)))
set_option maxRecDepth 1000000 in
theorem zTl:BY Tryz.prog tab6 700 123 laidL zNC=some (.bool true):=by kernel_rfl
def zV5:List (TL×TL):=[zNC]
def tab7:Wi:=tab6.know 123 (Yk laidL zV5)
theorem ok7:tab7.Ok Tryz.prog:=ok6.know Tryz.checked.mixed (n:=700) yE (List.forall_mem_cons.2 ⟨zTl,fun p hp=>by cases hp⟩)
def zOo:TL×TL:=((.ag q2 (.cl (.int .i64 0) .nil)),(.sl 1 1 (.cl (.int .i64 0) .nil) (.cl (.int .i64 0) .nil)))
set_option maxRecDepth 1000000 in
theorem zT1:BY Tryz.prog tab7 700 222 laidL zOo=some (.bool true):=by kernel_rfl
def zV9:List (TL×TL):=[zOo]
def tab8:Wi:=tab7.know 222 (Yk laidL zV9)
theorem ok8:tab8.Ok Tryz.prog:=ok7.know Tryz.checked.mixed (n:=700) yE (List.forall_mem_cons.2 ⟨zT1,fun p hp=>by cases hp⟩)
def zS5:TL×TL:=((.ag q2 (.cl (.int .i64 0) .nil)),(.sl 1 1 (.cl (.int .i64 (-1)) .nil) (.cl (.int .i64 0) .nil)))
set_option maxRecDepth 1000000 in
theorem zVJ:BY Tryz.prog tab8 700 82 laidL zS5=some (.bool true):=by kernel_rfl
def l82:List (TL×TL):=[zS5]
def tab9:Wi:=tab8.know 82 (Yk laidL l82)
theorem ok9:tab9.Ok Tryz.prog:=ok8.know Tryz.checked.mixed (n:=700) yE (List.forall_mem_cons.2 ⟨zVJ,fun p hp=>by cases hp⟩)
def zSw:TL×TL:=((.ag q2 (.cl (.int .i64 0) .nil)),(.cl (.nilIface) .nil))
set_option maxRecDepth 1000000 in
theorem zVN:BY Tryz.prog tab9 700 38 laidL zSw=some (.bool true):=by kernel_rfl
def l38:List (TL×TL):=[zSw]
def tab10:Wi:=tab9.know 38 (Yk laidL l38)
theorem ok10:tab10.Ok Tryz.prog:=ok9.know Tryz.checked.mixed (n:=700) yE (List.forall_mem_cons.2 ⟨zVN,fun p hp=>by cases hp⟩)
def zSs:TL×TL:=((.ag q2 .nil),(.cl (.int .i64 0) .nil))
set_option maxRecDepth 1000000 in
theorem zVR:BY Tryz.prog tab10 700 16 laidL zSs=some (.bool true):=by kernel_rfl
def l16:List (TL×TL):=[zSs]
def tab11:Wi:=tab10.know 16 (Yk laidL l16)
theorem ok11:tab11.Ok Tryz.prog:=ok10.know Tryz.checked.mixed (n:=700) yE (List.forall_mem_cons.2 ⟨zVR,fun p hp=>by cases hp⟩)
def zS6:TL×TL:=((.ag q2 .nil),(.sl 3 1 (.cl (.int .i64 0) (.cl (.int .i64 0) (.cl (.int .i64 1) .nil))) (.cl (.int .i64 0) .nil)))
set_option maxRecDepth 1000000 in
theorem zVe:BY Tryz.prog tab11 700 25 laidL zS6=some (.bool true):=by kernel_rfl
def l25:List (TL×TL):=[zS6]
def tab12:Wi:=tab11.know 25 (Yk laidL l25)
theorem ok12:tab12.Ok Tryz.prog:=ok11.know Tryz.checked.mixed (n:=700) yE (List.forall_mem_cons.2 ⟨zVe,fun p hp=>by cases hp⟩)
def zNT:TL×TL:=((.sl 4 7 q1 (.cl (.int .i64 1) .nil)),(.sl 1 1 (.cl (.int .i64 1) .nil) (.cl (.int .i64 0) .nil)))
set_option maxRecDepth 1000000 in
theorem zTL:BY Tryz.prog tab12 700 131 laidL zNT=some (.bool true):=by kernel_rfl
def zWA:List (TL×TL):=[zNT]
def tab13:Wi:=tab12.know 131 (Yk laidL zWA)
theorem ok13:tab13.Ok Tryz.prog:=ok12.know Tryz.checked.mixed (n:=700) yE (List.forall_mem_cons.2 ⟨zTL,fun p hp=>by cases hp⟩)
def zTA:TL×TL:=((.sl 4 7 q1 (.cl (.int .i64 1) .nil)),(.sl 1 1 (.cl (.int .i64 1) .nil) (.cl (.int .i64 0) .nil)))
set_option maxRecDepth 1000000 in
theorem zVq:BY Tryz.prog tab13 700 80 laidL zTA=some (.bool true):=by kernel_rfl
def l80:List (TL×TL):=[zTA]
def tab14:Wi:=tab13.know 80 (Yk laidL l80)
theorem ok14:tab14.Ok Tryz.prog:=ok13.know Tryz.checked.mixed (n:=700) yE (List.forall_mem_cons.2 ⟨zVq,fun p hp=>by cases hp⟩)
def zS1:TL×TL:=((.cl (.string ⟨⟨[116,121,112,101,32,105,110,116,10,116,121,112,101,32,112,116,114,32,116,48,10,116,121,112,101,32,112,116,114,32,116,49,10,116,121,112,101,32,102,110,32,116,48,10,116,121,112,101,32,102,110,32,116,49,32,116,49,32,116,48,10,116,121,112,101,32,115,116,114,117,99,116,32,116,48,32,116,49,10,116,121,112,101,32,112,116,114,32,116,53,10,102,117,110,99,32,116,51,10,98,108,111,99,107,10,114,48,32,116,50,32,61,32,110,101,119,10,114,49,32,116,49,32,61,32,108,111,97,100,32,114,48,10,114,50,32,116,48,32,61,32,105,110,116,32,49,10,114,101,116,117,114,110,32,114,50,10]⟩⟩) .nil),(.sl 1 13 (.sl 1 2 (.cl (.string ⟨⟨[116,121,112,101]⟩⟩) (.cl (.string ⟨⟨[105,110,116]⟩⟩) .nil)) (.sl 1 3 (.cl (.string ⟨⟨[116,121,112,101]⟩⟩) (.cl (.string ⟨⟨[112,116,114]⟩⟩) (.cl (.string ⟨⟨[116,48]⟩⟩) .nil))) (.sl 1 3 (.cl (.string ⟨⟨[116,121,112,101]⟩⟩) (.cl (.string ⟨⟨[112,116,114]⟩⟩) (.cl (.string ⟨⟨[116,49]⟩⟩) .nil))) (.sl 1 3 (.cl (.string ⟨⟨[116,121,112,101]⟩⟩) (.cl (.string ⟨⟨[102,110]⟩⟩) (.cl (.string ⟨⟨[116,48]⟩⟩) .nil))) (.sl 1 5 (.cl (.string ⟨⟨[116,121,112,101]⟩⟩) (.cl (.string ⟨⟨[102,110]⟩⟩) (.cl (.string ⟨⟨[116,49]⟩⟩) (.cl (.string ⟨⟨[116,49]⟩⟩) (.cl (.string ⟨⟨[116,48]⟩⟩) .nil))))) (.sl 1 4 (.cl (.string ⟨⟨[116,121,112,101]⟩⟩) (.cl (.string ⟨⟨[115,116,114,117,99,116]⟩⟩) (.cl (.string ⟨⟨[116,48]⟩⟩) (.cl (.string ⟨⟨[116,49]⟩⟩) .nil)))) (.sl 1 3 (.cl (.string ⟨⟨[116,121,112,101]⟩⟩) (.cl (.string ⟨⟨[112,116,114]⟩⟩) (.cl (.string ⟨⟨[116,53]⟩⟩) .nil))) (.sl 1 2 (.cl (.string ⟨⟨[102,117,110,99]⟩⟩) (.cl (.string ⟨⟨[116,51]⟩⟩) .nil)) (.sl 1 1 (.cl (.string ⟨⟨[98,108,111,99,107]⟩⟩) .nil) (.sl 1 4 (.cl (.string ⟨⟨[114,48]⟩⟩) (.cl (.string ⟨⟨[116,50]⟩⟩) (.cl (.string ⟨⟨[61]⟩⟩) (.cl (.string ⟨⟨[110,101,119]⟩⟩) .nil)))) (.sl 1 5 (.cl (.string ⟨⟨[114,49]⟩⟩) (.cl (.string ⟨⟨[116,49]⟩⟩) (.cl (.string ⟨⟨[61]⟩⟩) (.cl (.string ⟨⟨[108,111,97,100]⟩⟩) (.cl (.string ⟨⟨[114,48]⟩⟩) .nil))))) (.sl 1 5 (.cl (.string ⟨⟨[114,50]⟩⟩) (.cl (.string ⟨⟨[116,48]⟩⟩) (.cl (.string ⟨⟨[61]⟩⟩) (.cl (.string ⟨⟨[105,110,116]⟩⟩) (.cl (.string ⟨⟨[49]⟩⟩) .nil))))) (.sl 1 2 (.cl (.string ⟨⟨[114,101,116,117,114,110]⟩⟩) (.cl (.string ⟨⟨[114,50]⟩⟩) .nil)) .nil))))))))))))) (.cl (.int .i64 0) .nil)))
set_option maxRecDepth 1000000 in
theorem zVD:BY Tryz.prog tab14 700 68 laidL zS1=some (.bool true):=by kernel_rfl
def l68:List (TL×TL):=[zS1]
def tab15:Wi:=tab14.know 68 (Yk laidL l68)
theorem ok15:tab15.Ok Tryz.prog:=ok14.know Tryz.checked.mixed (n:=700) yE (List.forall_mem_cons.2 ⟨zVD,fun p hp=>by cases hp⟩)
def zSx:TL×TL:=((.cl (.string ⟨⟨[116,121,112,101,32,105,110,116,10,116,121,112,101,32,112,116,114,32,116,48,10,116,121,112,101,32,112,116,114,32,116,49,10,116,121,112,101,32,102,110,32,116,48,10,116,121,112,101,32,102,110,32,116,49,32,116,49,32,116,48,10,116,121,112,101,32,115,116,114,117,99,116,32,116,48,32,116,49,10,116,121,112,101,32,112,116,114,32,116,53,10,102,117,110,99,32,116,51,10,98,108,111,99,107,10,114,48,32,116,50,32,61,32,110,101,119,10,114,49,32,116,49,32,61,32,108,111,97,100,32,114,48,10,114,50,32,116,48,32,61,32,105,110,116,32,49,10,114,101,116,117,114,110,32,114,50,10]⟩⟩) .nil),(.ag q2 (.cl (.int .i64 0) .nil)))
set_option maxRecDepth 1000000 in
theorem zVl:BY Tryz.prog tab15 700 36 laidL zSx=some (.bool true):=by kernel_rfl
def l36:List (TL×TL):=[zSx]
def tab16:Wi:=tab15.know 36 (Yk laidL l36)
theorem ok16:tab16.Ok Tryz.prog:=ok15.know Tryz.checked.mixed (n:=700) yE (List.forall_mem_cons.2 ⟨zVl,fun p hp=>by cases hp⟩)
def zSq:TL×TL:=((.ag q2 .nil),(.sl 5 3 (.cl (.int .u8 1) (.cl (.int .i64 0) (.cl (.int .i64 0) (.cl (.int .i64 2) (.cl (.slice none 0 0) (.cl (.int .u8 1) (.cl (.int .i64 4) (.cl (.int .i64 0) (.cl (.int .i64 0) (.cl (.slice none 0 0) (.cl (.int .u8 4) (.cl (.int .i64 1) (.cl (.int .i64 0) (.cl (.int .i64 0) (.cl (.slice none 0 0) .nil))))))))))))))) (.cl (.int .i64 0) .nil)))
set_option maxRecDepth 1000000 in
theorem zVG:BY Tryz.prog tab16 700 10 laidL zSq=some (.bool true):=by kernel_rfl
def l10:List (TL×TL):=[zSq]
def tab17:Wi:=tab16.know 10 (Yk laidL l10)
theorem zV7:tab17.Ok Tryz.prog:=ok16.know Tryz.checked.mixed (n:=700) yE (List.forall_mem_cons.2 ⟨zVG,fun p hp=>by cases hp⟩)
set_option maxRecDepth 1000000 in
theorem zLr:(zJH Tryz.prog tab17 700).call 15 [] (Z6 Tryz.prog.globals.size [(0,ZT)]) (fun v _=>some v)=some (.bool true):=by kernel_rfl
theorem zOP:((Wy Tryz.prog tab17 700).call 15 [] (Z6 Tryz.prog.globals.size [(0,ZT)])).map (·.1)=some (.bool true):=zOR zLr
set_option maxRecDepth 1000000 in
theorem tb_ok:tb.Ok Tryz.prog where
 code:=fun _ _ h=>h
 stub:=fun f s hs=>by
  have hs:(if f=15 then some (zBT [(0,ZT)] (.bool true))else none)=some s:=hs;split at hs
  ·rename_i e;subst e;cases hs;exact zIJ Tryz.checked.mixed zV7 rfl (fun x hx=>by
    have h1:=QX.1 yE x hx;rw[QF]at h1;exact⟨QN h1.1,h1.2⟩) zOP
  ·cases hs
 grow:=fun f s hs args h v h' hk=>by
  have hs:(if f=15 then some (zBT [(0,ZT)] (.bool true))else none)=some s:=hs;split at hs
  ·cases hs;exact zJn args h v h' hk
  ·cases hs
end
end Go.Proofs.YtmejfcakhpihlaaGreatDoor
