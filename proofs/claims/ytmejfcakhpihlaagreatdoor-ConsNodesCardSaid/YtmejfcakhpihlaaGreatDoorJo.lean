/- What functions of the program come to in the abstract machine, and plain laws about it; no statement of the seat is proved in this text. -/
import Derived.Test.YtmejfcakhpihlaaGreatDoorJn
import Derived.Test.YtmejfcakhpihlaaGreatDoorJb
import Derived.Test.YtmejfcakhpihlaaGreatDoorJa
import Derived.Test.YtmejfcakhpihlaaGreatDoorAmM
set_option linter.unusedVariables false
set_option linter.unusedSimpArgs false
set_option maxHeartbeats 2000000
namespace Go.Proofs.YtmejfcakhpihlaaGreatDoor
noncomputable section
open Go.Am
section
variable {T:List U3}{F:List WR}
theorem Yn {k t:Int}(h:Wp T k t=true)(hk:k≠1):zMc T t:=by
 refine⟨zGO h,?_⟩;have:=zRc h;unfold Wy;rw[this];simp[hk]
theorem zGR {t:Int}(h:BI T t≠ -1):Wp T 2 t=true:=by
 unfold BI at h;split at h
 ·assumption
 ·exact absurd rfl h
theorem zKE {t:Int}(h:zCj T t=true)(hp:Wy T t=false):zMc T t:=by
 refine⟨fun e=> ?_,hp⟩;rw[e]at h;unfold zCj Wp at h;simp at h
theorem zSR (hs:zd T F=0){f:Nat}(hf:f<F.length){b:Nat}(hb:b<(zM F f).length){i:Nat}(hi:i<((zM F f).getD b default).ins.length)(hm:ZN (((zM F f).getD b default).ins.getD i default)=true):
  ∃ q,YI T f (((yL T F f).parts.length:Int)+zJ ((zM F f).take b)+i) (zh T F) 0 []=q/\0<=q.1/\1<=q.2.length/\q.1+q.2.length<=(yJ T F).sum:=by
 obtain⟨s,hsm,h1,h2⟩:=zEW (T:=T) (G:=F) (n:=0) (f:=f) (b:=b) (i:=i) hf hb hi hm;obtain⟨j,j1,j2,j3,j4⟩:=zGI (T:=T) (f:=f) (r:=((yL T F f).parts.length:Int)+zJ ((zM F f).take b)+i) (S:=zh T F) 0 [] ⟨s,hsm,by rw[h1];omega,h2⟩;refine⟨_,j4,?_⟩;have hty:=zAh hs _ (zI j1);have hlow:=zC9 (yc (z8 hs).1).1;have hpos:=zQk (T:=T) (((zh T F).getD j default).ty.toNat+1) ((zh T F).getD j default).ty.toNat (Q7 _) fun k hk=>(hlow k (by omega)).1;have hn:∀ x∈yJ T F,0<=x:=fun x hx=>by
  unfold yJ at hx;obtain⟨s,_,rfl⟩:=Qt.1 hx;omega
 have hl:j<(yJ T F).length:=by unfold yJ;simpa using j1
 have e1:((zh T F).take j).map (fun s=>((yO T s.ty.toNat).length:Int))=(yJ T F).take j:=by unfold yJ;rw[List.map_take]
 have e2:(yJ T F).getD j 0=((yO T ((zh T F).getD j default).ty.toNat).length:Int):=by
  unfold yJ;rw[zAa j1]
 have h0:=zEw hn (QS j);have h3:=zD7 (l:=yJ T F) hl;have h4:=zEw hn (i:=j+1) (j:=(yJ T F).length) (by omega);rw[Qx]at h4;rw[GE]at h0;simp only[Gy,List.sum_nil]at *;rw[e1];refine⟨by omega,hpos,?_⟩;rw[<-e2];omega
theorem zUO (hs:zd T F=0){f:Nat}(hf:f<F.length){b:Nat}(hb:b<(zM F f).length){i:Nat}(hi:i<((zM F f).getD b default).ins.length):
  ∀ x∈Zw T F f (YB T F f) (((yL T F f).parts.length:Int)+zJ ((zM F f).take b)+i) (((zM F f).getD b default).ins.getD i default),ConOk T F x:=by
 obtain⟨hp,hw⟩:=z8 hs;have hfi:(0:Int)<=f/\(f:Int)<(F.length:Int):=by omega
 have Z:=zBe hp hfi;have W:=(hw f (by omega) (by omega)).2.2 b (by omega) (by omega);have I0:=zNa hs hf hb hi;have h1:=W.1 i (by rw[QU];exact hi);have hfind:=zSR hs hf hb hi;have hBm:(zM F f).getD b default∈zM F f:=zI hb;have hU:=(Z.U _ hBm).ins _ (zI hi);obtain⟨n1,n2,n3,n4⟩:=zEq hs;have hkB:=zFk (zM F f) b i hb hi;have h0:=zAp ((zM F f).take b);have hreg:∀ q,0<=q->q<((W0 T F f).length:Int)->0<=Wc T F f q/\Wc T F f q<zl T F:=fun q a c=>by have:=zIw hs hfi ⟨a,c⟩;exact⟨this.1,this.2.1⟩
 have hrl:((yL T F f).parts.length:Int)+zJ ((zM F f).take b)+i<((W0 T F f).length:Int):=by
  rw[Z.reg];unfold zIO;have h2:=zHQ (zM F f) (b+1);rw[Zk hb]at h2;have:zJ ((zM F f).take b++[(zM F f).getD b default])=zJ ((zM F f).take b)+(((zM F f).getD b default).ins.length:Int):=by unfold zJ;simp
  omega
 have hkr:(W0 T F f).getD (((yL T F f).parts.length:Int)+zJ ((zM F f).take b)+i).toNat 0=Zs (((zM F f).getD b default).ins.getD i default):=by
  rw[<-hkB];unfold W0 zAt;rw[zAj (by omega)];congr 1;omega
 unfold YE zE6 at h1;rw[QU]at h1;obtain⟨g1,g2,-,-⟩:=h1;have hraw:= @zPg T F f;generalize hrr:((yL T F f).parts.length:Int)+zJ ((zM F f).take b)+i=r at *;have hr0:0<=r:=by omega
 clear hrr hkB;generalize ((zM F f).getD b default).ins.getD i default=x at *;have hus:∀ q∈zi x,(0<=q/\q<((W0 T F f).length:Int))/\(W0 T F f).getD q.toNat 0≠ -1/\(YB T F f).getD q.toNat 0=(W0 T F f).getD q.toNat 0:=fun q hq=>by
  have h2:(W0 T F f).getD q.toNat 0≠ -1:=fun e=>g1 (Qt.2 ⟨q,hq,e⟩);exact⟨hU.uses q hq,h2,(hraw h2).1⟩
 have hgood:∀ q∈zi x,zMc T ((W0 T F f).getD q.toNat 0)->zOp T F (Wc T F f q):=fun q hq hn=> .inl ⟨f,q,⟨hfi,(hus q hq).1,hn⟩,rfl⟩;have hres:zMc T (Zs x)->zOp T F (Wc T F f r):=fun hn=> .inl ⟨f,r,⟨hfi,⟨hr0,hrl⟩,by rw[hkr];exact hn⟩,rfl⟩;have hat:∀ q∈zi x,zHq T F (Wc T F f q):=fun q hq=>⟨f,q,⟨hfi,(hus q hq).1⟩,rfl⟩;have hrat:zHq T F (Wc T F f r):=⟨f,r,⟨hfi,hr0,hrl⟩,rfl⟩;have hki:x.op=2\/x.op=3\/x.op=11\/x.op=12\/x.op=14\/x.op=15\/x.op=16\/x.op=18\/x.op=19\/x.op=22->Zs x=x.ty:=fun h=>by
  unfold Zs;rw[QJ];rcases h with e|e|e|e|e|e|e|e|e|e<;>rw[e]<;>decide
 obtain⟨u14,u15,u16,u17,u19,v17,w18,w19,w22,z14,z14',z18,z18',z19,z22,z22'⟩:=zSe;have v15:(zW 15).2.1=true:=by decide
 have hpc:∀ m,YR T (-1) m= -1:=fun m=>by unfold YR;rw[QJ rfl]
 intro c hc;unfold Zw at hc;unfold zAn at g2;split at hc
 ·rename_i ho;rw[QV]at hc;subst hc;refine⟨(by simp only;decide),fun _=>hres ?_,fun e=>(by cases e),.inl ⟨rfl,rfl⟩,?_,.inr rfl,fun a h=>by cases h⟩
  ·rw[hki (by omega)];rcases ho with e|e
   ·simp only[e,Q2,GD]at g2;rcases g2 with g2|g2
    ·exact Yn g2 (by decide)
    ·exact Yn g2 (by decide)
   ·simp[e]at g2;have:=I0.n3 e;rw[g2];exact Yn (zVo hp _ (zI (l:=F) (i:=x.n.toNat) (by omega))).2 (by decide)
  ·unfold zEn;show 0<=(if x.op=3 then x.n+1 else 0)/\((1:Int)=1->(if x.op=3 then x.n+1 else 0)<_);split
   ·rename_i e;have:=I0.n3 e;omega
   ·omega
 rename_i ho2;split at hc
 ·rename_i ho;obtain⟨q,hq,q0,q1,q2⟩:=hfind (by unfold ZN;rcases ho with e|e<;>simp[e]);rw[hq]at hc;unfold zFT at hc;rcases GK.1 hc with rfl|hc
  ·refine⟨(by simp only;decide),fun _=>hres ?_,fun e=>(by cases e),.inl ⟨rfl,rfl⟩,?_,.inr rfl,fun a h=>by cases h⟩
   ·rw[hki (by omega)];rw[QC (by omega),QC (by omega),QC (by omega),QJ ho]at g2;exact Yn g2 (by decide)
   ·unfold zEn;exact⟨by show 0<=1+(F.length:Int)+q.1;omega,fun _=>by show 1+(F.length:Int)+q.1<_;omega⟩
  ·unfold zKT at hc;obtain⟨j,hj,hc⟩:=List.mem_flatMap.1 hc;rw[GH]at hj;split at hc
   ·cases hc
   rw[QV]at hc;subst hc;exact⟨(by simp only;decide),fun _=> .inr ⟨by show _<=zl T F+(F.length:Int)+q.1+j;omega,by show zl T F+(F.length:Int)+q.1+j<_;omega⟩,fun e=>(by cases e),.inl ⟨rfl,rfl⟩,⟨(by simp only;decide),fun _=>by unfold zEn;show (0:Int)<_;omega⟩,.inr rfl,fun a h=>by cases h⟩
 rename_i ho11;split at hc
 ·rename_i ho;rw[QV]at hc;subst hc;have ha:x.a∈zi x:=by
   unfold zi;have:(zW x.op).1=true:=by rcases ho with e|e<;>rw[e]<;>assumption
   rw[QJ this];simp
  have hu:(zi x).map (fun r=>(W0 T F f).getD r.toNat 0)=(W0 T F f).getD x.a.toNat 0::((zi x).map (fun r=>(W0 T F f).getD r.toNat 0)).drop 1:=by
   unfold zi;have:(zW x.op).1=true:=by rcases ho with e|e<;>rw[e]<;>assumption
   rw[QJ this];simp
  have hg:∃ m,zE8 T ((W0 T F f).getD x.a.toNat 0) x.ty m=true:=by
   rw[QC (by omega),QC (by omega),QC (by omega),QC (by omega),QC (by omega),QJ (by omega)]at g2;unfold zHL Zg at g2;rw[hu]at g2;rcases ho with e|e
   ·simp only[e,Q2,List.getD_cons_zero,QF]at g2;exact⟨_,g2.2⟩
   ·simp only[e,Q2,show ¬((15:Int)=14) by decide,Gh,List.getD_cons_zero,QF]at g2;exact⟨_,g2.2⟩
  obtain⟨m,hg⟩:=hg;unfold zE8 at hg;simp only[QF,QW]at hg;refine⟨(by simp only;decide),fun _=>hres ?_,fun e=>(by cases e),.inr (hgood _ ha ?_),?_,.inr rfl,fun a h=>by cases h⟩
  ·rw[hki (by omega)];exact Yn (zGR (by rw[hg.2];exact hg.1)) (by decide)
  ·refine Yn (zGR fun e=>hg.1 ?_) (by decide);rw[e,hpc]
  ·refine⟨?_,fun e=>by cases e⟩;show 0<=(if x.op=14 then _ else 0);split
   ·unfold stepL;generalize List.take _ _=l;induction l with
    |nil=>simp
    |cons p l ih=>rw[Qm,G7];omega
   ·omega
 rename_i ho14;split at hc
 ·rename_i ho;split at hc
  ·cases hc
  rename_i hpl;have hpl:Wy T x.ty=false:=by simpa using hpl
  rw[QV]at hc;subst hc;have hu:zi x=[x.a]:=by unfold zi;rw[ho];rfl
  have ha:x.a∈zi x:=by rw[hu];simp
  unfold zHL Zg at g2;rw[hu]at g2;simp[ho]at g2;refine⟨(by simp only;decide),fun _=>hres ?_,fun e=>(by cases e),.inr (hgood _ ha ?_),⟨(by simp only;decide),fun e=>by cases e⟩,.inr rfl,fun a h=>by cases h⟩
  ·rw[hki (by omega)];exact zKE (by rw[g2.2];exact g2.1) hpl
  ·refine Yn (zGR fun e=> ?_) (by decide);have h2:=g2.1;simp only[QK]at e;rw[e]at h2;unfold zCj Wp at h2;simp at h2
 rename_i ho16;split at hc
 ·rename_i ho;have hu:zi x=[x.a,x.b]:=by unfold zi;rw[ho];rfl
  have ha:x.a∈zi x:=by rw[hu];simp
  have hb':x.b∈zi x:=by rw[hu];simp
  split at hc
  ·cases hc
  rename_i hpl;have hpl:Wy T ((W0 T F f).getD x.b.toNat 0)=false:=by rw[(hus _ hb').2.2]at hpl;simpa using hpl
  rw[QV]at hc;subst hc;unfold zHL Zg at g2;rw[hu]at g2;simp[ho]at g2;simp only[<-QK]at g2;refine⟨(by simp only;decide),fun _=>hgood _ ha ?_,fun e=>(by cases e),.inr (hgood _ hb' ⟨(hus _ hb').2.1,hpl⟩),⟨(by simp only;decide),fun e=>by cases e⟩,.inr rfl,fun a h=>by cases h⟩;refine Yn (zGR fun e=> ?_) (by decide);have h2:=g2.1;rw[e]at h2;unfold zCj Wp at h2;simp at h2
 rename_i ho17;split at hc
 ·rename_i ho;have hu:zi x=x.args:=by unfold zi;rw[ho,z18,z18',w18];simp
  have hn:=(I0.c18 ho).1;have Zn:=zBe hp (f:=x.n) hn;rw[hu]at g2;unfold zDH sigF at g2;simp[ho]at g2;simp only[<-QK]at g2;obtain⟨⟨g3,g4⟩,g5⟩:=g2;have hel:x.ty≠ -1:=by
   have:=Zn.el;unfold yL PlT at this;rw[g5]at this;omega
  rcases Qi.1 hc with hc|hc
  ·unfold zGA at hc;obtain⟨j,hj,hc⟩:=List.mem_flatMap.1 hc;rw[GH]at hj;split at hc
   ·cases hc
   rename_i hpl;have hpl:Wy T ((yL T F x.n).parts.getD j 0)=false:=by simpa using hpl
   rw[QV]at hc;subst hc;have hgm:=Zn.par _ (zc hj);have hN:zMc T ((yL T F x.n).parts.getD j 0):=⟨by unfold PlT at hgm;omega,hpl⟩;have hj2:j<x.args.length:=by
    have:=congrArg List.length g4;unfold Zg at this;unfold yL at hj;rw[Qp]at this;omega
   have ham:x.args.getD j 0∈zi x:=by rw[hu];exact zc hj2
   refine⟨(by simp only;decide),fun _=> .inl ⟨x.n,j,⟨hn,⟨by omega,?_⟩,?_⟩,rfl⟩,fun e=>(by cases e),.inr (hgood _ ham ?_),⟨(by simp only;decide),fun e=>by cases e⟩,.inr rfl,fun a h=>by cases h⟩
   ·have:(W0 T F x.n).length=(yL T F x.n).parts.length+(yn (zM F x.n)).length:=by unfold W0 zAt;rw[QM]
    omega
   ·rw[QU];unfold W0 zAt;rw[zBa hj];exact hN
   ·have:(W0 T F f).getD (x.args.getD j 0).toNat 0=(yL T F x.n).parts.getD j 0:=by
     unfold yL;rw[g4];unfold Zg;rw[zAa (a:=0) hj2]
    rw[this];exact hN
  ·split at hc
   ·cases hc
   rename_i hpl;have hpl:Wy T x.ty=false:=by simpa using hpl
   rw[QV]at hc;subst hc;exact⟨(by simp only;decide),fun _=>hres (by rw[hki (by omega)];exact⟨hel,hpl⟩),fun e=>(by cases e),.inr (.inr ⟨by show _<=zl T F+x.n;omega,by show zl T F+x.n<_;omega⟩),⟨(by simp only;decide),fun e=>by cases e⟩,.inr rfl,fun a h=>by cases h⟩
 rename_i ho18;split at hc
 ·rename_i ho;rw[QV]at hc;subst hc;have hu:zi x=x.a::x.args:=by unfold zi;rw[ho,u19,z19,w19];simp
  have ha:x.a∈zi x:=by rw[hu];simp
  unfold zDH Zg at g2;rw[hu]at g2;simp[ho]at g2;simp only[<-QK]at g2;refine⟨(by simp only;decide),fun e=>absurd rfl e,fun _=>hrat,.inr (hgood _ ha (Yn g2.1.1 (by decide))),⟨(by simp only;decide),fun e=>by cases e⟩,.inl rfl,fun a h=> ?_⟩;obtain⟨q,hq,rfl⟩:=Qt.1 h;exact hat q (by rw[hu];exact Qh _ hq)
 rename_i ho19;split at hc
 ·rename_i ho;split at hc
  ·cases hc
  rename_i hpl;have hpl:Wy T x.ty=false:=by simpa using hpl
  have hu:zi x=x.args:=by unfold zi;rw[ho,z22,z22',w22];simp
  unfold Zg at g2;rw[hu]at g2;simp[ho]at g2;simp only[<-QK]at g2;have hN:=zKE g2.1 hpl;unfold zN8 at hc;obtain⟨j,hj,hc⟩:=List.mem_flatMap.1 hc;rw[GH]at hj;rw[QV]at hc;subst hc;have ham:x.args.getD j 0∈x.args:=zc hj;exact⟨(by simp only;decide),fun _=>hres (by rw[hki (by omega)];exact hN),fun e=>(by cases e),.inr (hgood _ (by rw[hu];exact ham) (by rw[g2.2 _ ham];exact hN)),⟨(by simp only;decide),fun e=>by cases e⟩,.inr rfl,fun a h=>by cases h⟩
 ·cases hc
theorem zQ8 (hs:zd T F=0){f:Nat}(hf:f<F.length){b:Nat}(hb:b<(zM F f).length):∀ x∈zIn T F f ((zM F f).getD b default),ConOk T F x:=by
 obtain⟨hp,hw⟩:=z8 hs;have hfi:(0:Int)<=f/\(f:Int)<(F.length:Int):=by omega
 have Z:=zBe hp hfi;have W:=((hw f (by omega) (by omega)).2.2 b (by omega) (by omega)).2;have hU:=(Z.U _ (zI hb)).ends;obtain⟨n1,n2,n3,n4⟩:=zEq hs;unfold Yj zG0 at W;rw[QU]at W;generalize (zM F f).getD b default=B at *;intro c hc;unfold zIn at hc;split at hc
 ·rename_i hk;split at hc
  ·cases hc
  rename_i hpl;have hpl:Wy T (yL T F f).elem=false:=by simpa using hpl
  rw[QV]at hc;subst hc;have hu:yj B.fin=[B.fin.a]:=by unfold yj;rw[QJ (.inr hk)]
  have h3:=W.2.2.2 hk;have hel:=Z.el;have hq:=hU B.fin.a (by rw[hu];simp);rw[hu]at h3;refine⟨(by simp only;decide),fun _=> .inr ⟨by show _<=zl T F+(f:Int);omega,by show zl T F+(f:Int)<_;omega⟩,fun e=>(by cases e),.inr (.inl ⟨f,B.fin.a,⟨hfi,hq,?_⟩,rfl⟩),⟨(by simp only;decide),fun e=>by cases e⟩,.inr rfl,fun a h=>by cases h⟩;have:(W0 T F f).getD B.fin.a.toNat 0=(yL T F f).elem:=h3;rw[this];exact⟨by unfold PlT at hel;omega,hpl⟩
 ·cases hc
theorem zTX (hs:zd T F=0):∀ x∈zBD T F,ConOk T F x:=fun x hx=>by
 unfold zBD at hx;rw[QJ hs]at hx;unfold zAd consB zGG at hx;simp only[List.mem_flatMap,GH,Qi]at hx;obtain⟨f,hf,b,hb,⟨i,hi,hx⟩|hx⟩:=hx
 ·exact zUO hs hf hb hi x hx
 ·exact zQ8 hs hf hb x hx
end
section
variable {T:List U3}{F:List WR}
theorem zUP (hs:zd T F=0){v:Int}(h:zHq T F v):0<=v/\v<zJz T F:=by
 obtain⟨f,q,⟨hf,hq⟩,rfl⟩:=h;have:=zIw hs hf hq;have:=zEq hs;omega
theorem zTY (hs:zd T F=0){v:Int}(h:zOp T F v):0<=v/\v<zJz T F:=by
 have:=zEq hs;rcases h with ⟨f,q,⟨hf,hq,_⟩,rfl⟩|h
 ·have:=zIw hs hf hq;omega
 ·omega
end
set_option maxRecDepth 100000
def zRt:U1:=(oV (oV (oR [oM 104 12,oF 4 105 11,oL 106 105,oQ 107 106,oB .lss 108 104 107]) (oT 108 0)) (oV (o5 1 (oV (oR [oF 4 111 11,oL 112 111,oM 113 12,oI 1 114 112 113,oL 115 114,oC .lss 116 115 0,oM 117 116,oH 117 (oF 4 118 11),oH 117 (oL 119 118),oH 117 (oM 120 12),oH 117 (oI 1 121 119 120),oH 117 (oL 122 121),oH 117 (oM 123 8),oH 117 (oB .geq 124 122 123),oO 125 117 124]) (oJ 125 (oV (oR [oZ 4]) .ret) .skip))) (oR [oM 109 12,oC .add 110 109 1,oM 12 110])))
def zU0:U1:=(oV (oR [oX 2 0,oZ 4]) (oV (oR [⟨some 13,none,(.call (.func 15) [])⟩,oM 5 13]) (oV (oV (oR [oA 2 14 2,⟨some 15,none,(.call (.func 8) [(.tmp 14),(.const (.int .i64 100))])⟩,oM 16 15,oH 16 (oM 17 5),oH 16 (oW 18 17),oO 19 16 18]) (oJ 19 (oV (oR [oM 20 5,oM 4 20]) .ret) .skip)) (oV (oR [oA 2 22 2,o1 23 10 22,oM 21 23,oE 24 21 0,oE 25 21 1,oM 6 24,oM 7 25]) (oV (oR [oA 2 27 2,o1 28 19 27,oM 26 28,oE 29 26 0,oE 30 26 1,oE 31 26 2,oM 8 29,oM 9 30,oM 10 31]) (oV (oV (oR [oM 32 7,oC .neq 33 32 0,oM 34 33,oH 34 (oM 35 10),oH 34 (oC .neq 36 35 0),oO 37 34 36,oM 38 37,oH 38 (oM 39 1),oH 38 (oC .lss 40 39 0),oO 41 38 40,oM 42 41,oH 42 (oM 43 1),oH 42 (oM 44 6),oH 42 (oQ 45 44),oH 42 (oB .geq 46 43 45),oO 47 42 46]) (oJ 47 (oV (oR [oM 48 5,oM 49 48,oG 49 (oM 50 7),oG 49 (oM 51 10),oG 49 (oB .eql 52 50 51),oP 53 49 52,oM 4 53]) .ret) .skip)) (oV (oR [oM 54 6,oM 55 1,oI 5 56 54 55,oA 5 57 56,⟨some 11,none,(.alloc [(.int .u8 0),(.int .i64 0),(.int .i64 0),(.int .i64 0),(.slice none 0 0)])⟩,oS 5 11 57]) (oV (oV (oR (oF 1 58 11::oL 59 58::oC .lss 60 59 0::oM 61 60::oH 61 (oF 1 62 11)::oH 61 (oL 63 62)::oH 61 (oM 64 8)::oH 61 (oB .geq 65 63 64)::oO 66 61 65::oM 67 66::oH 67 (oF 2 68 11)::oH 67 (oL 69 68)::oH 67 (oC .lss 70 69 0)::oO 71 67 70::oM 72 71::oH 72 (oF 2 73 11)::oH 72 (oL 74 73)::oH 72 (oM 75 8)::oH 72 (oB .geq 76 74 75)::oO 77 72 76::oM 78 77::oH 78 (oF 3 79 11)::oH 78 (oL 80 79)::oH 78 (oC .lss 81 80 0)::oO 82 78 81::oM 83 82::oH 83 (oF 0 84 11)::oH 83 (oL 85 84)::oH 83 (oD .lss 86 85 1)::oO 87 83 86::oM 88 87::oH 88 (oF 0 89 11)::oH 88 (oL 90 89)::oH 88 (oD .gtr 91 90 6)::oO 92 88 91::oM 93 92::oH 93 (oF 0 94 11)::oH 93 (oL 95 94)::oH 93 (oD .eql 96 95 1)::oH 93 (oM 97 96)::oG 97 (oF 3 98 11)::oG 97 (oL 99 98)::oG 97 (oM 100 9)::oG 97 (oB .geq 101 99 100)::oH 93 (oP 102 97 101)::oO 103 93 102::[])) (oJ 103 (oV (oR [oZ 4]) .ret) .skip)) (oV (oV (oR [oN 12 0]) (o5 0 (.loop zRt))) (oV (oR [oM 126 5,oM 127 126,oG 127 (oF 0 128 11),oG 127 (oL 129 128),oG 127 (oD .eql 130 129 6),oG 127 (oM 131 130),oH 131 (oF 4 132 11),oH 131 (oL 133 132),oH 131 (oQ 134 133),oH 131 (oC .eql 135 134 0),oG 127 (oO 136 131 135),oP 137 127 136,oM 4 137]) .ret))))))))))
theorem zGj (h:U0)(vt vf:Value)(T:List U3)(F:List WR)(at':Int)(tt:Be h)(hm:h.mark<=h.n)(st:Ws h vt T)(sf:Wq h vf F)(hT:(T.length:Int)<=1152921504606846976)(hF:(F.length:Int)<=1152921504606846976):
  WC Tryz.prog tb 6 [.agg #[vt,vf],I at'] h fun r h'=>r= .bool true:=by
 refine en 138 [(4,none)] zU0 ?_;refine VH ?_;intro p h1 e1 o1;refine go ?_;refine VA (zNB h1 (tt.ext e1).1) ?_;rintro _ _ ⟨rfl,rfl⟩;refine go ?_;refine VA (zLc h1 vt vf T F 100 (by omega) (st.ext e1) (Wq.ext sf e1) (by omega) (by omega)) ?_;rintro rr h2 ⟨hr,e2⟩;replace o1:U4 h h1 p [vt,vf]:=o1;have o2:=o1.ext e2;rcases hr with rfl|⟨rfl,sm,si⟩
 ·refine gr ?_;rfl
 have E:Env h2 vt vf T F:=⟨(tt.ext e1).ext e2,yN e2 (yN e1 hm),sm,(st.ext e1).ext e2,Wq.ext (Wq.ext sf e1) e2⟩;clear st sf tt hm e1 e2;refine go ?_;refine VA (zUp E) ?_;rintro _ h3 ⟨⟨vL,rfl,oL,hLl⟩,e3⟩;obtain⟨l1,l2,l3,rfl⟩:=zG oL.sl;have o3:=o2.ext e3;have E3:=E.ext e3;refine go ?_;refine VA (zOu E3) ?_;rintro _ h4 ⟨rfl,e4⟩;have o4:=o3.ext e4;have sL4:=SlO.ext oL.sl e4;by_cases hs:zd T F=0;case neg=>
  have hs':zd T F≠0:=hs;rw[QC hs,QC hs];refine gr ?_;show Value.bool (decide (zd T F=zd T F))=_;rw[Qe rfl]
 have hcl:=zTX hs;have hat:= @zUP T F hs;have hto:= @zTY T F hs;have hnb:=zEq hs;rw[QJ hs,QJ hs,hs];have hN:zJz T F=zCu T F+(yJ T F).sum:=rfl;rw[<-hN];generalize zJz T F=N at *;generalize hM:zEn F+(yJ T F).sum=M at *;by_cases h0:at'<0
 ·refine gr ?_;rfl
 by_cases h5:((zBD T F).length:Int)<=at'
 ·refine gr ?_;rfl
 have hlt:at'.toNat<(zBD T F).length:=by omega
 have C:=hcl _ (zI hlt);obtain⟨cs,⟨va,rfl,sa,hla⟩,pc,hsl⟩:=ZP (i:=at'.toNat) sL4 hlt;generalize (zBD T F).getD at'.toNat default=x at *;have hx1:0<=x.to/\x.to<N:=by
  by_cases h6:x.kind=6
  ·exact hat (C.to6 h6)
  ·exact hto (C.to h6)
 have hx2:0<=x.frm/\x.frm<N:=by
  rcases C.frm with ⟨_,e⟩|h
  ·rw[e];omega
  ·exact hto h
 have hx3:=C.n;rw[hM]at hx3;have hx4:=C.kind;have hx5:∀ a∈x.args,0<=a/\a<N:=fun a ha=>hat (C.args.2 a ha);have hx6:x.kind=6\/x.args.length=0:=C.args.1.imp id fun e=>by rw[e];rfl
 clear C hcl hat hto;obtain⟨a1,a2,a3,rfl⟩:=WW.shape sa;replace hx5:=WY.mk hx5;refine go ?_;refine WO.al ?_;intro p5 h5' e5 o5;refine go ?_;refine VG (cs:=[.int .u8 x.kind,I x.to,I x.frm,I x.n,.slice a1 a2 a3]) o5 e5 ?_;intro h6 e6 o6 _;have sa6:=sa.ext e6;by_cases hk1:x.kind=1
 ·have hx7:=hx3.2 hk1;have hl0:x.args.length=0:=hx6.resolve_left (by omega);refine go ?_;refine VD [104,105,106,107,108,111,112,113,114,115,116,117,118,119,120,121,122,123,124,125,4,109,110,12] (by kernel_rfl) (fun i=>x.args.length - i) (fun i t h7=>h6=h7/\zB t 12=I i/\i<=x.args.length) 0 ?_ ?_
  ·exact⟨rfl,U8,QS _⟩
  rintro i t _ hsame ⟨rfl,s12,hi⟩;refine gr ?_;show Value.bool (decide ((x.args.length:Int)=0))=_;rw[Qe (by omega)]
 ·refine go ?_;refine VD [104,105,106,107,108,111,112,113,114,115,116,117,118,119,120,121,122,123,124,125,4,109,110,12] (by kernel_rfl) (fun i=>x.args.length - i) (fun i t h7=>h6=h7/\zB t 12=I i/\i<=x.args.length) 0 ?_ ?_
  ·exact⟨rfl,U8,QS _⟩
  rintro i t _ hsame ⟨rfl,s12,hi⟩;refine go ?_;refine VE (fun hc=> ?_) (fun hc=> ?_)<;>simp only[DB]at hc
  ·have hi':i<x.args.length:=by omega
   have hq:=hx5.out _ (zc hi');refine go ?_;exact zA (i+1) (by omega) ⟨rfl,Wu,by omega⟩
  ·have hii:i=x.args.length:=by omega
   subst hii;by_cases h66:x.kind=6
   ·refine gr ?_;rfl
   ·have h7:=hx6.resolve_left h66;refine gr ?_;show Value.bool (decide ((x.args.length:Int)=0))=_;rw[Qe (by omega)]
def laidL:List (Nat×List Value):=[(0,ZS)]
set_option maxRecDepth 1000000 in
theorem yC:(laidL.all fun x=>Nat.ble (x.1+1) Tryz.prog.globals.size&&yZ x.2)=true:=by kernel_rfl
def tab0:Wg:=zKM Tryz.prog
theorem ok0:tab0.Ok Tryz.prog:=zJQ _
def q0:TL:=(.cl (.int .i64 3) (.sl 5 1 (.sl 7 3 (.cl (.int .u8 11) (.cl (.int .i64 2) (.cl (.int .i64 0) (.cl (.int .i64 0) (.cl (.int .i64 0) (.cl (.slice none 0 0) (.cl (.slice none 0 0) (.cl (.int .u8 16) (.cl (.int .i64 1) (.cl (.int .i64 0) (.cl (.int .i64 0) (.cl (.int .i64 0) (.cl (.slice none 0 0) (.cl (.slice none 0 0) (.cl (.int .u8 1) (.cl (.int .i64 0) (.cl (.int .i64 0) (.cl (.int .i64 0) (.cl (.int .i64 1) (.cl (.slice none 0 0) (.cl (.slice none 0 0) .nil))))))))))))))))))))) (.cl (.int .u8 3) (.cl (.int .i64 2) (.cl (.int .i64 0) (.cl (.int .i64 0) .nil))))) .nil))
def q1:TL:=(.cl (.int .u8 1) (.cl (.int .i64 0) (.cl (.int .i64 0) (.cl (.slice none 0 0) (.cl (.int .u8 2) (.cl (.int .i64 0) (.cl (.int .i64 0) (.cl (.slice none 0 0) (.cl (.int .u8 2) (.cl (.int .i64 1) (.cl (.int .i64 0) (.cl (.slice none 0 0) (.cl (.int .u8 3) (.cl (.int .i64 0) (.cl (.int .i64 0) (.cl (.slice none 0 0) (.cl (.int .u8 3) (.cl (.int .i64 1) (.cl (.int .i64 0) (.sl 1 2 (.cl (.int .i64 1) (.cl (.int .i64 0) .nil)) (.cl (.int .u8 4) (.cl (.int .i64 0) (.cl (.int .i64 0) (.sl 1 2 (.cl (.int .i64 0) (.cl (.int .i64 1) .nil)) (.cl (.int .u8 2) (.cl (.int .i64 5) (.cl (.int .i64 0) (.cl (.slice none 0 0) .nil))))))))))))))))))))))))))))
def q2:TL:=(.sl 4 7 q1 (.sl 2 1 q0 .nil))
def zSi:TL×TL:=((.ag q2 (.ag q0 .nil)),(.cl (.bool true) .nil))
set_option maxRecDepth 1000000 in
theorem zU9:BU Tryz.prog tab0 700 74 laidL zSi=some (.bool true):=by kernel_rfl
def l74:List (TL×TL):=[zSi]
def tab1:Wg:=tab0.know 74 (Yg laidL l74)
theorem ok1:tab1.Ok Tryz.prog:=ok0.know Tryz.checked.mixed (n:=700) yC (List.forall_mem_cons.2 ⟨zU9,fun p hp=>by cases hp⟩)
def zPP:TL×TL:=((.sl 4 7 q1 (.cl (.int .i64 0) (.cl (.slice none 0 0) .nil))),(.cl (.int .i64 1) (.cl (.bool true) .nil)))
set_option maxRecDepth 1000000 in
theorem zTD:BU Tryz.prog tab1 700 109 laidL zPP=some (.bool true):=by kernel_rfl
def zOb:TL×TL:=((.sl 4 7 q1 (.cl (.int .i64 1) (.sl 1 1 (.cl (.int .i64 1) .nil) .nil))),(.cl (.int .i64 1) (.cl (.bool true) .nil)))
set_option maxRecDepth 1000000 in
theorem zTT:BU Tryz.prog tab1 700 109 laidL zOb=some (.bool true):=by kernel_rfl
def zNb:TL×TL:=((.sl 4 7 q1 (.cl (.int .i64 2) (.sl 1 2 (.cl (.int .i64 1) (.cl (.int .i64 1) .nil)) .nil))),(.cl (.int .i64 1) (.cl (.bool true) .nil)))
set_option maxRecDepth 1000000 in
theorem zTx:BU Tryz.prog tab1 700 109 laidL zNb=some (.bool true):=by kernel_rfl
def zOT:TL×TL:=((.sl 4 7 q1 (.cl (.int .i64 3) (.sl 1 3 (.cl (.int .i64 1) (.cl (.int .i64 1) (.cl (.int .i64 1) .nil))) .nil))),(.cl (.int .i64 1) (.cl (.bool true) .nil)))
set_option maxRecDepth 1000000 in
theorem zTR:BU Tryz.prog tab1 700 109 laidL zOT=some (.bool true):=by kernel_rfl
def zN1:TL×TL:=((.sl 4 7 q1 (.cl (.int .i64 4) (.sl 1 4 (.cl (.int .i64 1) (.cl (.int .i64 1) (.cl (.int .i64 1) (.cl (.int .i64 1) .nil)))) .nil))),(.cl (.int .i64 1) (.cl (.bool true) .nil)))
set_option maxRecDepth 1000000 in
theorem zUD:BU Tryz.prog tab1 700 109 laidL zN1=some (.bool true):=by kernel_rfl
def zOc:TL×TL:=((.sl 4 7 q1 (.cl (.int .i64 5) (.sl 1 5 (.cl (.int .i64 1) (.cl (.int .i64 1) (.cl (.int .i64 1) (.cl (.int .i64 1) (.cl (.int .i64 1) .nil))))) .nil))),(.cl (.int .i64 2) (.cl (.bool true) .nil)))
set_option maxRecDepth 1000000 in
theorem zTe:BU Tryz.prog tab1 700 109 laidL zOc=some (.bool true):=by kernel_rfl
def zPB:TL×TL:=((.sl 4 7 q1 (.cl (.int .i64 6) (.sl 1 6 (.cl (.int .i64 1) (.cl (.int .i64 1) (.cl (.int .i64 1) (.cl (.int .i64 1) (.cl (.int .i64 1) (.cl (.int .i64 2) .nil)))))) .nil))),(.cl (.int .i64 1) (.cl (.bool true) .nil)))
set_option maxRecDepth 1000000 in
theorem zTp:BU Tryz.prog tab1 700 109 laidL zPB=some (.bool true):=by kernel_rfl
def zVi:List (TL×TL):=[zPP,zOb,zNb,zOT,zN1,zOc,zPB]
def tab2:Wg:=tab1.know 109 (Yg laidL zVi)
theorem ok2:tab2.Ok Tryz.prog:=ok1.know Tryz.checked.mixed (n:=700) yC (List.forall_mem_cons.2 ⟨zTD,List.forall_mem_cons.2 ⟨zTT,List.forall_mem_cons.2 ⟨zTx,List.forall_mem_cons.2 ⟨zTR,List.forall_mem_cons.2 ⟨zUD,List.forall_mem_cons.2 ⟨zTe,List.forall_mem_cons.2 ⟨zTp,fun p hp=>by cases hp⟩⟩⟩⟩⟩⟩⟩)
def zSd:TL×TL:=((.sl 4 7 q1 .nil),(.cl (.int .i64 0) .nil))
set_option maxRecDepth 1000000 in
theorem zU7:BU Tryz.prog tab2 700 71 laidL zSd=some (.bool true):=by kernel_rfl
def l71:List (TL×TL):=[zSd]
def tab3:Wg:=tab2.know 71 (Yg laidL l71)
theorem ok3:tab3.Ok Tryz.prog:=ok2.know Tryz.checked.mixed (n:=700) yC (List.forall_mem_cons.2 ⟨zU7,fun p hp=>by cases hp⟩)
def zSw:TL×TL:=((.ag q2 .nil),(.cl (.int .i64 0) .nil))
set_option maxRecDepth 1000000 in
theorem zVO:BU Tryz.prog tab3 700 37 laidL zSw=some (.bool true):=by kernel_rfl
def l37:List (TL×TL):=[zSw]
def tab4:Wg:=tab3.know 37 (Yg laidL l37)
theorem ok4:tab4.Ok Tryz.prog:=ok3.know Tryz.checked.mixed (n:=700) yC (List.forall_mem_cons.2 ⟨zVO,fun p hp=>by cases hp⟩)
def zSt:TL×TL:=((.ag q2 (.cl (.int .i64 0) .nil)),(.cl (.int .i64 3) (.cl (.int .i64 0) .nil)))
set_option maxRecDepth 1000000 in
theorem zVX:BU Tryz.prog tab4 700 17 laidL zSt=some (.bool true):=by kernel_rfl
def l17:List (TL×TL):=[zSt]
def tab5:Wg:=tab4.know 17 (Yg laidL l17)
theorem ok5:tab5.Ok Tryz.prog:=ok4.know Tryz.checked.mixed (n:=700) yC (List.forall_mem_cons.2 ⟨zVX,fun p hp=>by cases hp⟩)
def zSf:TL×TL:=((.ag q2 (.cl (.int .i64 0) .nil)),(.sl 1 1 (.cl (.int .i64 0) .nil) (.cl (.int .i64 0) .nil)))
set_option maxRecDepth 1000000 in
theorem zVC:BU Tryz.prog tab5 700 75 laidL zSf=some (.bool true):=by kernel_rfl
def l75:List (TL×TL):=[zSf]
def tab6:Wg:=tab5.know 75 (Yg laidL l75)
theorem ok6:tab6.Ok Tryz.prog:=ok5.know Tryz.checked.mixed (n:=700) yC (List.forall_mem_cons.2 ⟨zVC,fun p hp=>by cases hp⟩)
def zNH:TL×TL:=((.ag q2 (.cl (.int .i64 0) (.cl (.int .i64 0) .nil))),(.cl (.slice none 0 0) (.cl (.int .i64 0) .nil)))
set_option maxRecDepth 1000000 in
theorem zS7:BU Tryz.prog tab6 700 123 laidL zNH=some (.bool true):=by kernel_rfl
def zVq:List (TL×TL):=[zNH]
def tab7:Wg:=tab6.know 123 (Yg laidL zVq)
theorem ok7:tab7.Ok Tryz.prog:=ok6.know Tryz.checked.mixed (n:=700) yC (List.forall_mem_cons.2 ⟨zS7,fun p hp=>by cases hp⟩)
def zNN:TL×TL:=((.ag q2 (.cl (.int .i64 0) .nil)),(.sl 1 1 (.cl (.int .i64 0) .nil) (.cl (.int .i64 0) .nil)))
set_option maxRecDepth 1000000 in
theorem zUa:BU Tryz.prog tab7 700 222 laidL zNN=some (.bool true):=by kernel_rfl
def zVz:List (TL×TL):=[zNN]
def tab8:Wg:=tab7.know 222 (Yg laidL zVz)
theorem ok8:tab8.Ok Tryz.prog:=ok7.know Tryz.checked.mixed (n:=700) yC (List.forall_mem_cons.2 ⟨zUa,fun p hp=>by cases hp⟩)
def zSg:TL×TL:=((.ag q2 (.cl (.int .i64 0) .nil)),(.sl 1 1 (.cl (.int .i64 (-1)) .nil) (.cl (.int .i64 0) .nil)))
set_option maxRecDepth 1000000 in
theorem zUz:BU Tryz.prog tab8 700 82 laidL zSg=some (.bool true):=by kernel_rfl
def l82:List (TL×TL):=[zSg]
def tab9:Wg:=tab8.know 82 (Yg laidL l82)
theorem ok9:tab9.Ok Tryz.prog:=ok8.know Tryz.checked.mixed (n:=700) yC (List.forall_mem_cons.2 ⟨zUz,fun p hp=>by cases hp⟩)
def zSb:TL×TL:=((.ag q2 (.cl (.int .i64 0) .nil)),(.cl (.nilIface) .nil))
set_option maxRecDepth 1000000 in
theorem zVD:BU Tryz.prog tab9 700 38 laidL zSb=some (.bool true):=by kernel_rfl
def l38:List (TL×TL):=[zSb]
def tab10:Wg:=tab9.know 38 (Yg laidL l38)
theorem ok10:tab10.Ok Tryz.prog:=ok9.know Tryz.checked.mixed (n:=700) yC (List.forall_mem_cons.2 ⟨zVD,fun p hp=>by cases hp⟩)
def zSo:TL×TL:=((.ag q2 .nil),(.cl (.int .i64 0) .nil))
set_option maxRecDepth 1000000 in
theorem zVU:BU Tryz.prog tab10 700 16 laidL zSo=some (.bool true):=by kernel_rfl
def l16:List (TL×TL):=[zSo]
def tab11:Wg:=tab10.know 16 (Yg laidL l16)
theorem ok11:tab11.Ok Tryz.prog:=ok10.know Tryz.checked.mixed (n:=700) yC (List.forall_mem_cons.2 ⟨zVU,fun p hp=>by cases hp⟩)
def zSu:TL×TL:=((.ag q2 .nil),(.sl 3 1 (.cl (.int .i64 0) (.cl (.int .i64 0) (.cl (.int .i64 1) .nil))) (.cl (.int .i64 0) .nil)))
set_option maxRecDepth 1000000 in
theorem zU2:BU Tryz.prog tab11 700 25 laidL zSu=some (.bool true):=by kernel_rfl
def l25:List (TL×TL):=[zSu]
def tab12:Wg:=tab11.know 25 (Yg laidL l25)
theorem ok12:tab12.Ok Tryz.prog:=ok11.know Tryz.checked.mixed (n:=700) yC (List.forall_mem_cons.2 ⟨zU2,fun p hp=>by cases hp⟩)
def zNR:TL×TL:=((.sl 4 7 q1 (.cl (.int .i64 1) .nil)),(.sl 1 1 (.cl (.int .i64 1) .nil) (.cl (.int .i64 0) .nil)))
set_option maxRecDepth 1000000 in
theorem zTl:BU Tryz.prog tab12 700 131 laidL zNR=some (.bool true):=by kernel_rfl
def zVs:List (TL×TL):=[zNR]
def tab13:Wg:=tab12.know 131 (Yg laidL zVs)
theorem ok13:tab13.Ok Tryz.prog:=ok12.know Tryz.checked.mixed (n:=700) yC (List.forall_mem_cons.2 ⟨zTl,fun p hp=>by cases hp⟩)
def zSy:TL×TL:=((.sl 4 7 q1 (.cl (.int .i64 1) .nil)),(.sl 1 1 (.cl (.int .i64 1) .nil) (.cl (.int .i64 0) .nil)))
set_option maxRecDepth 1000000 in
theorem zVJ:BU Tryz.prog tab13 700 80 laidL zSy=some (.bool true):=by kernel_rfl
def l80:List (TL×TL):=[zSy]
def tab14:Wg:=tab13.know 80 (Yg laidL l80)
theorem ok14:tab14.Ok Tryz.prog:=ok13.know Tryz.checked.mixed (n:=700) yC (List.forall_mem_cons.2 ⟨zVJ,fun p hp=>by cases hp⟩)
def zSq:TL×TL:=((.cl (.string ⟨⟨[116,121,112,101,32,105,110,116,10,116,121,112,101,32,112,116,114,32,116,48,10,116,121,112,101,32,112,116,114,32,116,49,10,116,121,112,101,32,102,110,32,116,48,10,116,121,112,101,32,102,110,32,116,49,32,116,49,32,116,48,10,116,121,112,101,32,115,116,114,117,99,116,32,116,48,32,116,49,10,116,121,112,101,32,112,116,114,32,116,53,10,102,117,110,99,32,116,51,10,98,108,111,99,107,10,114,48,32,116,50,32,61,32,110,101,119,10,114,49,32,116,49,32,61,32,108,111,97,100,32,114,48,10,114,50,32,116,48,32,61,32,105,110,116,32,49,10,114,101,116,117,114,110,32,114,50,10]⟩⟩) .nil),(.sl 1 13 (.sl 1 2 (.cl (.string ⟨⟨[116,121,112,101]⟩⟩) (.cl (.string ⟨⟨[105,110,116]⟩⟩) .nil)) (.sl 1 3 (.cl (.string ⟨⟨[116,121,112,101]⟩⟩) (.cl (.string ⟨⟨[112,116,114]⟩⟩) (.cl (.string ⟨⟨[116,48]⟩⟩) .nil))) (.sl 1 3 (.cl (.string ⟨⟨[116,121,112,101]⟩⟩) (.cl (.string ⟨⟨[112,116,114]⟩⟩) (.cl (.string ⟨⟨[116,49]⟩⟩) .nil))) (.sl 1 3 (.cl (.string ⟨⟨[116,121,112,101]⟩⟩) (.cl (.string ⟨⟨[102,110]⟩⟩) (.cl (.string ⟨⟨[116,48]⟩⟩) .nil))) (.sl 1 5 (.cl (.string ⟨⟨[116,121,112,101]⟩⟩) (.cl (.string ⟨⟨[102,110]⟩⟩) (.cl (.string ⟨⟨[116,49]⟩⟩) (.cl (.string ⟨⟨[116,49]⟩⟩) (.cl (.string ⟨⟨[116,48]⟩⟩) .nil))))) (.sl 1 4 (.cl (.string ⟨⟨[116,121,112,101]⟩⟩) (.cl (.string ⟨⟨[115,116,114,117,99,116]⟩⟩) (.cl (.string ⟨⟨[116,48]⟩⟩) (.cl (.string ⟨⟨[116,49]⟩⟩) .nil)))) (.sl 1 3 (.cl (.string ⟨⟨[116,121,112,101]⟩⟩) (.cl (.string ⟨⟨[112,116,114]⟩⟩) (.cl (.string ⟨⟨[116,53]⟩⟩) .nil))) (.sl 1 2 (.cl (.string ⟨⟨[102,117,110,99]⟩⟩) (.cl (.string ⟨⟨[116,51]⟩⟩) .nil)) (.sl 1 1 (.cl (.string ⟨⟨[98,108,111,99,107]⟩⟩) .nil) (.sl 1 4 (.cl (.string ⟨⟨[114,48]⟩⟩) (.cl (.string ⟨⟨[116,50]⟩⟩) (.cl (.string ⟨⟨[61]⟩⟩) (.cl (.string ⟨⟨[110,101,119]⟩⟩) .nil)))) (.sl 1 5 (.cl (.string ⟨⟨[114,49]⟩⟩) (.cl (.string ⟨⟨[116,49]⟩⟩) (.cl (.string ⟨⟨[61]⟩⟩) (.cl (.string ⟨⟨[108,111,97,100]⟩⟩) (.cl (.string ⟨⟨[114,48]⟩⟩) .nil))))) (.sl 1 5 (.cl (.string ⟨⟨[114,50]⟩⟩) (.cl (.string ⟨⟨[116,48]⟩⟩) (.cl (.string ⟨⟨[61]⟩⟩) (.cl (.string ⟨⟨[105,110,116]⟩⟩) (.cl (.string ⟨⟨[49]⟩⟩) .nil))))) (.sl 1 2 (.cl (.string ⟨⟨[114,101,116,117,114,110]⟩⟩) (.cl (.string ⟨⟨[114,50]⟩⟩) .nil)) .nil))))))))))))) (.cl (.int .i64 0) .nil)))
set_option maxRecDepth 1000000 in
theorem zU5:BU Tryz.prog tab14 700 68 laidL zSq=some (.bool true):=by kernel_rfl
def l68:List (TL×TL):=[zSq]
def tab15:Wg:=tab14.know 68 (Yg laidL l68)
theorem ok15:tab15.Ok Tryz.prog:=ok14.know Tryz.checked.mixed (n:=700) yC (List.forall_mem_cons.2 ⟨zU5,fun p hp=>by cases hp⟩)
def zSx:TL×TL:=((.cl (.string ⟨⟨[116,121,112,101,32,105,110,116,10,116,121,112,101,32,112,116,114,32,116,48,10,116,121,112,101,32,112,116,114,32,116,49,10,116,121,112,101,32,102,110,32,116,48,10,116,121,112,101,32,102,110,32,116,49,32,116,49,32,116,48,10,116,121,112,101,32,115,116,114,117,99,116,32,116,48,32,116,49,10,116,121,112,101,32,112,116,114,32,116,53,10,102,117,110,99,32,116,51,10,98,108,111,99,107,10,114,48,32,116,50,32,61,32,110,101,119,10,114,49,32,116,49,32,61,32,108,111,97,100,32,114,48,10,114,50,32,116,48,32,61,32,105,110,116,32,49,10,114,101,116,117,114,110,32,114,50,10]⟩⟩) .nil),(.ag q2 (.cl (.int .i64 0) .nil)))
set_option maxRecDepth 1000000 in
theorem zUw:BU Tryz.prog tab15 700 36 laidL zSx=some (.bool true):=by kernel_rfl
def l36:List (TL×TL):=[zSx]
def tab16:Wg:=tab15.know 36 (Yg laidL l36)
theorem ok16:tab16.Ok Tryz.prog:=ok15.know Tryz.checked.mixed (n:=700) yC (List.forall_mem_cons.2 ⟨zUw,fun p hp=>by cases hp⟩)
def zSs:TL×TL:=((.ag q2 .nil),(.sl 5 3 (.cl (.int .u8 1) (.cl (.int .i64 0) (.cl (.int .i64 0) (.cl (.int .i64 2) (.cl (.slice none 0 0) (.cl (.int .u8 1) (.cl (.int .i64 4) (.cl (.int .i64 0) (.cl (.int .i64 0) (.cl (.slice none 0 0) (.cl (.int .u8 4) (.cl (.int .i64 1) (.cl (.int .i64 0) (.cl (.int .i64 0) (.cl (.slice none 0 0) .nil))))))))))))))) (.cl (.int .i64 0) .nil)))
set_option maxRecDepth 1000000 in
theorem zVS:BU Tryz.prog tab16 700 10 laidL zSs=some (.bool true):=by kernel_rfl
def l10:List (TL×TL):=[zSs]
def tab17:Wg:=tab16.know 10 (Yg laidL l10)
theorem zVt:tab17.Ok Tryz.prog:=ok16.know Tryz.checked.mixed (n:=700) yC (List.forall_mem_cons.2 ⟨zVS,fun p hp=>by cases hp⟩)
set_option maxRecDepth 1000000 in
theorem zL6:(zJy Tryz.prog tab17 700).call 15 [] (Z3 Tryz.prog.globals.size [(0,ZS)]) (fun v _=>some v)=some (.bool true):=by kernel_rfl
theorem zNc:((Wv Tryz.prog tab17 700).call 15 [] (Z3 Tryz.prog.globals.size [(0,ZS)])).map (·.1)=some (.bool true):=zM4 zL6
set_option maxRecDepth 1000000 in
theorem tb_ok:tb.Ok Tryz.prog where
 code:=fun _ _ h=>h
 stub:=fun f s hs=>by
  have hs:(if f=15 then some (zBL [(0,ZS)] (.bool true)) else none)=some s:=hs;split at hs
  ·rename_i e;subst e;cases hs;exact zHz Tryz.checked.mixed zVt rfl (fun x hx=>by
    have h1:=QX.1 yC x hx;rw[QF]at h1;exact⟨QN h1.1,h1.2⟩) zNc
  ·cases hs
 grow:=fun f s hs args h v h' hk=>by
  have hs:(if f=15 then some (zBL [(0,ZS)] (.bool true)) else none)=some s:=hs;split at hs
  ·cases hs;exact zJk args h v h' hk
  ·cases hs
end
end Go.Proofs.YtmejfcakhpihlaaGreatDoor
