/- Walks of functions, plain laws; proves no statement. -/
import Derived.Test.YtmejfcakhpihlaaGreatDoorJj
set_option linter.all false
set_option maxHeartbeats 4000000
set_option maxRecDepth 100000
namespace Go.Proofs.YtmejfcakhpihlaaGreatDoor
open Go.Am
theorem En.env{h:WA}{vt vf:Value}{T:List WE}{F:List Wa}(E:En h vt vf T F):Env h vt vf T F:=⟨E.tt,E.hm,E.sm,E.st,E.sf⟩
theorem zQX{nx:Int->List Int}{a b:Int}:B7 nx [0] a b↔Av nx a b:=by
 constructor
 ·intro h;induction h with
  |here h1 h2=>rw[QZ]at h1;subst h1;exact⟨0,.here h2⟩
  |step _ hc aq ih=>obtain⟨k,hk⟩:=ih;exact⟨k+1,.step hk hc aq⟩
 ·rintro⟨k,h⟩;induction h with
  |here h=>exact .here (by simp) h
  |step _ hc aq ih=>exact .step ih hc aq
theorem zQ3{nx:Int->List Int}{a b:Int}(w:Wl nx 0 b)(h:¬Wl nx 0 a):Av nx a b:=by
 induction w with
 |here=>exact⟨0,.here (fun e=>h (by rw[<-e];exact .here))⟩
 |step w1 hc ih=>obtain⟨k,hk⟩:=ih;exact⟨k+1,.step hk hc (fun e=>h (by rw[<-e];exact .step w1 hc))⟩
theorem zHi{nx:Int->List Int}{a b:Int}(w:Wl nx 0 b)(d:BH nx a b):Wl nx 0 a:=Gi fun h=>d (zQ3 w h)
def zMQ(nx:Int->List Int)(a b:Int):Prop:=a=b\/(Wl nx 0 a/\BH nx a b)
theorem zK8{nx:Int->List Int}{a b:Int}(w:Wl nx 0 b):zMQ nx a b↔BH nx a b:=
 ⟨fun h=>h.elim (fun e=>by rw[e];exact BH.self _ _) (·.2),fun d=> .inr ⟨zHi w d,d⟩⟩
theorem zMI(h:WA)(v:Value)(L:List Wc)(a b:Int)(hm:h.mark<=h.n)(sb:Wv h v L)(hL:L.length<=16)(ha:0<=a/\a<(L.length:Int))(hb:0<=b/\b<(L.length:Int))(ah:∀ c,0<=c/\c<(L.length:Int)->∀ d∈Wr L c,0<=d/\d<(L.length:Int)):
  WC Tryz.prog tb 230 [v,I a,I b] h fun r h'=>(∃ q,r=.bool q/\(q=true↔zMQ (Wr L) a b))/\Ext h h':=by
 have qc:∀ c∈([0]:List Int),0<=c/\c<(L.length:Int):=fun c hc=>by rw[QZ]at hc;subst hc;omega
 have hw:B7 (Wr L) [0] (-1) a↔Wl (Wr L) 0 a:=by
  rw[zKQ ah qc];exact⟨fun⟨c,hc,w⟩=>by rw[QZ]at hc;subst hc;exact w,fun w=>⟨0,by simp,w⟩⟩
 replace hw:=WK.mk hw;refine en ?_;by_cases du:a=b
 ·refine gr ?_;exact⟨⟨_,rfl,⟨fun _=> .inl du,fun _=>rfl⟩⟩,Ext.refl _⟩
 refine go ?_;refine WO.bl [0] ?_;intro v1 h1 e1 o1;have cH:=zp e1 hm;refine go ?_;refine VA (zHE h1 v v1 L [0] (-1) cH (Wv.ext sb e1) o1.sl hL ah qc (by simp)) ?_;rintro r h2 ⟨⟨bs,ob,jG,iU⟩,e2⟩;have bj:=e1.trans e2;have sr:=ob.sl;have hA:=(iU a ha).trans hw.out;obtain⟨gj,fo,eJ,iA⟩:=zq sr (i:=a.toNat) (by omega);have fo:gj=[.bool (bO bs a)]:=fo;subst fo;replace hA:=WK.mk hA;clear iU;cases hq:bO bs a with
 |false=>
  rw[hq]at hA eJ;refine gr ?_;exact⟨⟨_,rfl,⟨fun h=>(by cases h),fun h=>h.elim (fun e=>absurd e du) fun h=>absurd (hA.out.2 h.1) Bool.noConfusion⟩⟩,bj⟩
 |true=>
  rw[hq]at hA eJ;refine go ?_;refine WO.bl [0] ?_;intro v3 h3 e3 o3;have aN:=bj.trans e3;refine go ?_;refine VA (zHE h3 v v3 L [0] a (zp aN hm) (Wv.ext sb aN) o3.sl hL ah qc (by simp)) ?_;rintro r4 h4 ⟨⟨LA,Re,Rf,AY⟩,e4⟩;have Rh:=Re.sl;have hB:=(AY b hb).trans zQX;obtain⟨Lr,ki,AF,vU⟩:=zq Rh (i:=b.toNat) (by omega);have ki:Lr=[.bool (bO LA b)]:=ki;subst ki;replace hB:=WK.mk hB;clear AY;refine gr ?_;refine⟨⟨_,rfl,?_⟩,aN.trans e4⟩;have hw:=hA.out.1 rfl;cases LB:bO LA b with
  |true=>exact⟨fun h=>(by cases h),fun h=>h.elim (fun e=>absurd e du) fun h=>absurd (hB.out.1 LB) h.2⟩
  |false=>exact⟨fun _=> .inr ⟨hw,fun pN=>by have:=hB.out.2 pN;rw[LB]at this;cases this⟩,fun _=>rfl⟩
end Go.Proofs.YtmejfcakhpihlaaGreatDoor
set_option maxRecDepth 100000
namespace Go.Proofs.YtmejfcakhpihlaaGreatDoor
open Go.Am
theorem zNG{α:Type}{c i:Nat}{R:WA->List Value->α->Prop}{h:WA}{v:Value}{l:List α}(s:BE c R h v l)(hl:0<l.length)(hi:i<=l.length):∃ r,Zp c v none (some i) none=some r/\BE c R h r (l.take i):=by
 obtain⟨cells,⟨h1,⟨h2,_⟩|⟨g,off,row,rfl,h3,h4,h5⟩⟩,hR⟩:=s
 ·omega
 have hmul:i*c<=l.length*c:=GK _ hi;have hlen:(l.take i).length=i:=by rw[Qn];omega
 refine⟨.slice (some ⟨g,off+0*c,none⟩) (i-0) c,?_,cells.take (i*c),⟨by rw[Qn,hlen];omega,.inr ⟨g,off,row,by rw[hlen];simp,h3,?_,h5⟩⟩,fun j a ha=> ?_⟩
 ·have b1:Nat.ble 0 i=true:=QH (QK _);have b2:Nat.ble i l.length=true:=QH hi;simp only[Zp,Gu,GB,b1,b2,Qp,Qv,cond_true,GR]
 ·rw[hlen];obtain⟨c1,c2⟩:=zDV h4;rw[ZD (by omega),c2,List.take_take,Gg hmul]
 ·have hj:j<i:=by have:=(QR.1 ha).1;omega
  have c9:l[j]?=some a:=by rw[GM,QF hj]at ha;exact ha
  have:=hR j a c9;have h6:j*c+c<=i*c:=by rw[<-G8];exact GK _ hj
  rw[List.drop_take,List.take_take,Gg (by omega)];exact this
theorem zLo{l:List Wc}:∀ {i:Nat} {k:Int},i<l.length->0<=k->k<((l.getD i default).ins.length:Int)->yF l (zJ (l.take i)+k)=((i:Int),k):=by
 induction l with
 |nil=>intro i k hi;simp at hi
 |cons b l ih=>
  intro i k hi h0 h1;cases i with
  |zero=>
   simp only[GC,List.getD_cons_zero]at h1 |-;unfold yF;rw[show zJ []=0 from rfl,Int.zero_add,QC (by omega)];rfl
  |succ i=>
   simp only[Qo,List.getD_cons_succ,GF]at h1 hi |-;have hp:=Y2 (l.take i);unfold yF;rw[Zj,QF (by omega),show(b.ins.length:Int)+zJ (l.take i)+k-b.ins.length=zJ (l.take i)+k by omega,ih (by omega) h0 h1];simp
def YN(n:Int)(L:List Wc)(r:Int):Int×Int:=if n<=r/\r<n+zJ L then yF L (r-n)else(-1,r)
theorem zCL(h:WA)(vt vf:Value)(T:List WE)(F:List Wa)(f k:Int)(i:Nat)(E:En h vt vf T F)(hf:0<=f/\f<(F.length:Int))(bH:0<=(F.getD f.toNat default).sig/\(F.getD f.toNat default).sig<(T.length:Int))(hi:i<(F.getD f.toNat default).blocks.length)(hk:0<=k/\k<=1000000):
  WC Tryz.prog tb 63 [.agg #[vt,vf],I f,I i,I k] h fun r h'=>r=I (((T.getD (F.getD f.toNat default).sig.toNat default).parts.length:Int)+zJ ((F.getD f.toNat default).blocks.take i)+k)/\Ext h h':=by
 have hF:=E.sm.funcs;have aw:=zE (l:=F) (i:=f.toNat) (by omega);have hB:=E.sm.blocks _ aw;have hI:=E.sm.ins _ aw;have rC:=E.sm.parts _ (zE (l:=T) (i:=(F.getD f.toNat default).sig.toNat) (by omega));have LC:∀ b∈(F.getD f.toNat default).blocks.take i,b.ins.length<=1000:=fun b hb=>hI b (Q5 hb);have aL:((F.getD f.toNat default).blocks.take i).length<=1000:=by rw[Qn];omega
 have rz:=zCe LC;obtain⟨ta,tn,tk,rfl⟩:=zD E.st;obtain⟨ga,gn,gk,rfl⟩:=zD E.sf;refine en ?_;refine VF ?_;intro p h1 e1 o1;have E1:=E.ext e1;have fV:=E1.sf;refine go ?_;refine VC 0 rfl rfl ?_;have jd:WB h (inC (zB 0 h1)) p [_,_]:=o1;have dJ:Wo (inC (zB 0 h1)) _ F:=fV;obtain⟨cs,⟨vb,rfl,sb,cD⟩,px,hs⟩:=zP fV (i:=f.toNat) (by omega);have fN:=(px h1 (Ext.refl _)).2;have fN:Wp (inC (zB 0 h1)) (.slice ga gn gk) (f.toNat*2) [I (F.getD f.toNat default).sig,vb]:=fN;obtain⟨ba,bn,bk,rfl⟩:=zD sb;obtain⟨qa,qn,qk,rG,AX⟩:=YI fV (i:=f.toNat) (by omega);refine WJ ?_;refine VA (zCJ (inC (zB 0 h1)) _ _ _ T F _ E1.inC.st dJ ⟨_,_,_,rfl⟩ bH (by omega)) ?_;rintro _ h2 ⟨rfl,e2⟩;refine nE e2 ?_;have wI:Wo (inC h2) (.slice ga gn gk) F:=by have:=Wo.ext dJ e2;exact this
 have e3:Ext h1 (outC h1 (inC h2)):=e2.reg;have Rc:Wp (inC h2) (.slice ga gn gk) (f.toNat*2) [I (F.getD f.toNat default).sig,.slice ba bn bk]:=by
  have:=(px _ e3).2;exact this
 have tZ:Wv (inC h2) (.slice ba bn bk) (F.getD f.toNat default).blocks:=by
  have:=Wv.ext sb e3;exact this
 obtain⟨vs,vD,Ks⟩:=zNG (i:=i) tZ (by omega) (by omega);have oh:WB h (inC h2) p [.slice ta tn tk,.slice ga gn gk]:=by have:=jd.ext e2;exact this
 refine WJ ?_;refine zCt o1 (QE _) ?_;refine WJ ?_;refine zJO ⟨qa,qn,qk,rG,AX⟩ ?_;refine WJ ?_;refine Vu (i:=i) vD ?_;refine nQ ?_;refine WJ ?_;refine VA (zCl (inC h2) _ _ Ks aL LC) ?_;rintro _ _ ⟨rfl,rfl⟩;refine nQ ?_;refine WJ ?_;refine gr ?_;exact⟨rfl,e1.trans e3⟩
theorem zIE(h:WA)(vt vf:Value)(T:List WE)(F:List Wa)(f r:Int)(E:En h vt vf T F)(hf:0<=f/\f<(F.length:Int))(bH:0<=(F.getD f.toNat default).sig/\(F.getD f.toNat default).sig<(T.length:Int)):
  WC Tryz.prog tb 157 [.agg #[vt,vf],I f,I r] h fun q h'=>q=.tuple #[I (YN ((T.getD (F.getD f.toNat default).sig.toNat default).parts.length:Int) (F.getD f.toNat default).blocks r).1,I (YN ((T.getD (F.getD f.toNat default).sig.toNat default).parts.length:Int) (F.getD f.toNat default).blocks r).2]/\Ext h h':=by
 have hF:=E.sm.funcs;have aw:=zE (l:=F) (i:=f.toNat) (by omega);have hB:=E.sm.blocks _ aw;have hI:=WK.mk (E.sm.ins _ aw);obtain⟨ta,tn,tk,rfl⟩:=zD E.st;obtain⟨ga,gn,gk,rfl⟩:=zD E.sf;refine en ?_;refine VF ?_;intro p h1 e1 o1;have E1:=E.ext e1;have num:∀ (i:Nat) (k:Int) (h2:WA),En h2 (.slice ta tn tk) (.slice ga gn gk) T F->i<(F.getD f.toNat default).blocks.length->0<=k/\k<=1000000->_:=fun i k h2 E2 hi hk=>zCL h2 _ _ T F f k i E2 hf bH hi hk;replace num:=WK.mk num;refine go ?_;obtain⟨iX,⟨vb,rfl,sb,cD⟩,px,iB⟩:=zP E1.sf (i:=f.toNat) (by omega);obtain⟨ba,bn,bk,rfl⟩:=zD sb;generalize qD:((T.getD (F.getD f.toNat default).sig.toNat default).parts.length:Int)=n at *;generalize hL:(F.getD f.toNat default).blocks=L at *;generalize(F.getD f.toNat default).sig=sg at *;refine VD (fun i=>L.length-i) (fun i t h2=>Ext h1 h2/\zC t 8=I i/\i<=L.length/\WK (r<n\/n+zJ (L.take i)<=r)) 0 ?_ ?_
 ·exact⟨Ext.refl _,WH,QK _,⟨by rw[GC,show zJ []=0 from rfl];omega⟩⟩
 rintro i t h2 ab ⟨e2,s8,hi,bW⟩;have o2:=o1.ext e2;have cW:=Wo.ext E1.sf e2;have th:=Wv.ext sb e2;have nW:=(px _ e2).1;refine go ?_;refine VE (fun hc=> ?_) (fun hc=> ?_)<;>simp only[DB]at hc;case refine_2=>
  have aK:i=L.length:=by omega
  subst aK;have bW:=bW.out;rw[Qg]at bW;have hp:YN n L r=(-1,r):=by unfold YN;rw[QC (by omega)]
  rw[hp];refine gr ?_;exact⟨rfl,e1.trans e2⟩
 have ae:i<L.length:=by omega
 have dG:=hI.out _ (zE (l:=L) ae);have gW:=zFL L ae;refine go ?_;refine VD (fun k=>(L.getD i default).ins.length-k) (fun k t h3=>Ext h1 h3/\zC t 9=I k/\k<=(L.getD i default).ins.length/\WK (r<n\/n+zJ (L.take i)+k<=r)) 0 ?_ ?_
 ·exact⟨e2,WH,QK _,⟨by have:=bW.out;omega⟩⟩
 rintro k t3 h3 cN ⟨e3,s9,hk,uj⟩;have o3:=o1.ext e3;have E3:=E1.ext e3;have gT:=E3.sf;have nR:=Wv.ext sb e3;have pc3:=(px _ e3).1;obtain⟨pE,⟨vi,rfl,si,fc⟩,kR,mo⟩:=zq nR ae;obtain⟨ia,iN,ik,rfl⟩:=zD si;refine go ?_;refine VE (fun hd=> ?_) (fun hd=> ?_)<;>simp only[DB]at hd;case refine_2=>
  have jC:k=(L.getD i default).ins.length:=by omega
  refine go ?_;refine zA (i+1) (by omega) ⟨e3,Wn,by omega,⟨?_⟩⟩;have:=uj.out;rw[gW];omega
 have bK:k<(L.getD i default).ins.length:=by omega
 refine go ?_;refine VA (num.out i (k:Int) h3 E3 ae (by omega)) ?_;rintro _ h4 ⟨rfl,e4⟩;have bV:=e3.trans e4;have uj:=uj.out;by_cases he:n+zJ (L.take i)+(k:Int)=r
 ·have hp:YN n L r=((i:Int),(k:Int)):=by
   have ml:=Y2 (L.take i);have hle:zJ (L.take (i+1))<=zJ L:=by
    have:zJ L=zJ (L.take (i+1))+zJ (L.drop (i+1)):=by
     conv=>lhs;rw[<-GS (i+1) L]
     unfold zJ;rw[Qx,Gq]
    have:=Y2 (L.drop (i+1));omega
   unfold YN;rw[QF (by rw[gW]at hle;omega),show r-n=zJ (L.take i)+(k:Int) by omega];exact zLo ae (by omega) (by omega)
  rw[hp];refine gr ?_;exact⟨rfl,e1.trans bV⟩
 ·refine go ?_;exact zA (k+1) (by omega) ⟨bV,Wn,by omega,⟨by omega⟩⟩
end Go.Proofs.YtmejfcakhpihlaaGreatDoor
set_option maxRecDepth 100000
namespace Go.Proofs.YtmejfcakhpihlaaGreatDoor
open Go.Am
theorem zMW{T:List WE}{F:List Wa}{f r:Int}(h:(yL T F f).2=0):ZH T F f r=if r<0\/((T.getD (F.getD f.toNat default).sig.toNat default).parts.length:Int)+zJ (F.getD f.toNat default).blocks<=r then(0,0,2)
  else((YN ((T.getD (F.getD f.toNat default).sig.toNat default).parts.length:Int) (F.getD f.toNat default).blocks r).1,(YN ((T.getD (F.getD f.toNat default).sig.toNat default).parts.length:Int) (F.getD f.toNat default).blocks r).2,0):=by
 have hn:=(zEu h).2.2.2;unfold ZH YN;rw[QC (fun e=>e h),hn];simp only;split
 ·rfl
 ·rename_i h1;split
  ·rename_i h2;rw[QC (by omega)]
  ·rename_i h2;rw[QF (by omega)]
theorem zHr(h:WA)(vt vf:Value)(T:List WE)(F:List Wa)(f r block at':Int)(E:En h vt vf T F)(hp:(ZH T F f r).2.2=0)(ha:YX T F f block=0):
  WC Tryz.prog tb 207 [.agg #[vt,vf],I f,I r,I block,I at'] h fun q h'=>(∃ bb,q=.bool bb/\(bb=true↔zPp T F f r block at'))/\Ext h h':=by
 obtain⟨cO,jf⟩:=zLp hp;have ah:=zEu cO;have bH:=zQu cO;have hF:=E.sm.funcs;have hf:0<=f/\f<(F.length:Int):=⟨ah.1,ah.2.1⟩;have bD:=zMW (r:=r) cO;have um:(ZH T F f r).1=(YN ((T.getD (F.getD f.toNat default).sig.toNat default).parts.length:Int) (F.getD f.toNat default).blocks r).1/\(ZH T F f r).2.1=(YN ((T.getD (F.getD f.toNat default).sig.toNat default).parts.length:Int) (F.getD f.toNat default).blocks r).2:=by
  rw[bD]at hp |-;split at hp
  ·cases hp
  ·rename_i h1;rw[QC h1];exact⟨rfl,rfl⟩
 obtain⟨hz,wb⟩:=zJ5 ha;have aC:=zQo hz wb;obtain⟨OM,F3,C7,KP⟩:=ZO hz;obtain⟨hlen,fe⟩:=Ze hz;have fO:=WK.mk (zK8 (a:=(ZH T F f r).1) wb);unfold zPp;unfold nxF at fO |-;rw[C7]at hlen fe aC fO |-;rw[um.1]at jf fO |-;rw[um.2]at jf |-;clear bD um hp C7 F3;obtain⟨ta,tn,tk,rfl⟩:=zD E.st;obtain⟨ga,gn,gk,rfl⟩:=zD E.sf;refine en ?_;refine VF ?_;intro p h1 e1 o1;have E1:=E.ext e1;refine go ?_;refine VA (zIE h1 _ _ T F f r E1 hf bH) ?_;rintro _ h2 ⟨rfl,e2⟩;have o1:=o1.ext e2;have bj:=e1.trans e2;have E2:=E1.ext e2;have cW:=E2.sf;obtain⟨iX,⟨vb,rfl,sb,cD⟩,fb,iB⟩:=zq (i:=f.toNat) cW (by omega);obtain⟨_,_,_,rfl⟩:=zD sb;generalize(YN ((T.getD (F.getD f.toNat default).sig.toNat default).parts.length:Int) (F.getD f.toNat default).blocks r).1=pb at *;generalize(YN ((T.getD (F.getD f.toNat default).sig.toNat default).parts.length:Int) (F.getD f.toNat default).blocks r).2=pn at *;generalize(F.getD f.toNat default).blocks=L at *;by_cases c1:pb= -1
 ·refine gr ?_;exact⟨⟨_,rfl,by simp[c1]⟩,bj⟩
 have sW:0<=pb/\pb<(L.length:Int):=by
  rcases jf with h|h
  ·exact absurd h c1
  ·exact⟨h.1,h.2.1⟩
 by_cases c2:pb=block
 ·refine gr ?_;refine⟨⟨_,rfl,?_⟩,bj⟩;rw[Ge];exact⟨fun h=> .inr (.inl ⟨c2,h⟩),fun h=>by
   rcases h with h|h|h
   ·exact absurd h c1
   ·exact h.2
   ·exact absurd c2 h.2.1⟩
 ·refine go ?_;refine VA (zMI h2 _ L pb block E2.hm sb hlen sW aC fe) ?_;rintro _ h3 ⟨⟨q,rfl,hq⟩,e3⟩;refine gr ?_;refine⟨⟨_,rfl,?_⟩,bj.trans e3⟩;rw[hq,fO.out];exact⟨fun h=> .inr (.inr ⟨c1,c2,h⟩),fun h=>by
   rcases h with h|h|h
   ·exact absurd h c1
   ·exact absurd h.1 c2
   ·exact h.2.2⟩
end Go.Proofs.YtmejfcakhpihlaaGreatDoor
set_option maxRecDepth 100000
namespace Go.Proofs.YtmejfcakhpihlaaGreatDoor
open Go.Am
theorem zDR{T:List WE}{k t:Int}(h:t≠ -1):Ww T k t=decide ((T.getD t.toNat default).kind=k):=by unfold Ww;rw[Qc h,Qe]
section
variable {vt vf:Value}{T:List WE}{F:List Wa}
theorem En.go{h X:WA}(E:En h vt vf T F)(e:Ext h X):En (Am.inC X) vt vf T F:=let E':=E.ext e;⟨E'.tt,QE _,E'.sm,E'.si,E'.st,E'.sf⟩
theorem En.lenT{h:WA}(E:En h vt vf T F):(T.length:Int)<=1000:=by have:=E.sm.types;omega
theorem ZL(h:WA)(t k:Int)(E:En h vt vf T F)(ht:W7 T t):WC Tryz.prog tb 61 [.agg #[vt,vf],I t,.int .u8 k] h fun r h'=>r=.bool (Ww T k t)/\Ext h h':=by
 refine en ?_;refine VF ?_;intro p h1 e1 o1;replace o1:WB h h1 p [vt,vf]:=o1;have st:=(E.ext e1).st;by_cases h1:t= -1
 ·subst h1;refine gr ?_;exact⟨rfl,e1⟩
 ·obtain⟨t0,t1⟩:=ht.resolve_left h1;obtain⟨cs,⟨va,rfl,sa,br⟩,pc,hs⟩:=yM (i:=t.toNat) st (by omega);rw[zDR h1];refine gr ?_;exact⟨rfl,e1⟩
theorem zKA(h:WA)(t:Int)(E:En h vt vf T F)(ht:W7 T t):WC Tryz.prog tb 227 [.agg #[vt,vf],I t] h fun r h'=>r=I (BT T t)/\Ext h h':=by
 unfold BT;refine en ?_;refine VF ?_;intro p h1 e1 o1;replace o1:WB h h1 p [vt,vf]:=o1;have E1:=E.ext e1;refine go ?_;refine VA (ZL h1 t 2 E1 ht) ?_;rintro _ h2 ⟨rfl,e2⟩;have o2:=o1.ext e2;have st:=(E1.ext e2).st;cases c:Ww T 2 t with
 |false=>
  refine gr ?_;exact⟨rfl,e1.trans e2⟩
 |true=>
  obtain⟨t0,t1⟩:=ht.resolve_left (zAd c);obtain⟨cs,⟨va,rfl,sa,br⟩,pc,hs⟩:=yM (i:=t.toNat) st (by omega);refine gr ?_;exact⟨rfl,e1.trans e2⟩
theorem zF7(h:WA)(t to:Int)(E:En h vt vf T F)(ht:W7 T t)(FG:W7 T to):WC Tryz.prog tb 228 [.agg #[vt,vf],I t,I to] h fun r h'=>r=.bool (decide (to≠ -1)&&decide (BT T t=to))/\Ext h h':=by
 refine en ?_;refine VF ?_;intro p h1 e1 o1;replace o1:WB h h1 p [vt,vf]:=o1;have E1:=E.ext e1;by_cases c:to= -1
 ·subst c;refine gr ?_;exact⟨rfl,e1⟩
 ·have c0:=(FG.resolve_left c).1;refine go ?_;refine VA (zKA h1 t E1 ht) ?_;rintro _ h2 ⟨rfl,e2⟩;refine gr ?_;exact⟨by rw[Qc c,Qe];rfl,e1.trans e2⟩
theorem zEj(h:WA)(t:Int)(E:En h vt vf T F)(ht:W7 T t):WC Tryz.prog tb 205 [.agg #[vt,vf],I t] h fun r h'=>r=.bool (zBV T t)/\Ext h h':=by
 refine en ?_;refine VF ?_;intro p h1 e1 o1;replace o1:WB h h1 p [vt,vf]:=o1;have E1:=E.ext e1;by_cases c:t= -1
 ·subst c;refine gr ?_;exact⟨rfl,e1⟩
 ·have c0:=(ht.resolve_left c).1;refine go ?_;refine VA (zDb h1 vt T t E1.st E1.lenT) ?_;rintro _ h2 ⟨⟨b,rfl,hb⟩,rfl⟩;refine gr ?_;refine⟨?_,e1⟩;have:=zOy ht;show Value.bool _=_;congr 1;cases b<;>cases hs:zBV T t<;>simp_all
theorem zDi(h:WA)(sig t:Int)(v:Value)(l:List Int)(E:En h vt vf T F)(hs:W7 T sig)(s:WQ h v l)(hl:l.length<=1000):WC Tryz.prog tb 204 [.agg #[vt,vf],I sig,v,I t] h fun r h'=>r=.bool (zCC T sig l t)/\Ext h h':=by
 unfold zCC;refine en ?_;refine VF ?_;intro p h1 e1 o1;replace o1:WB h h1 p [vt,vf]:=o1;have E1:=E.ext e1;refine go ?_;refine VA (ZL h1 sig 3 E1 hs) ?_;rintro _ h2 ⟨rfl,e2⟩;have o2:=o1.ext e2;have E2:=E1.ext e2;have st:=E2.st;cases c:Ww T 3 sig with
 |false=>
  refine gr ?_;exact⟨rfl,e1.trans e2⟩
 |true=>
  obtain⟨t0,t1⟩:=hs.resolve_left (zAd c);obtain⟨cs,⟨va,rfl,sa,br⟩,pc,hs⟩:=yM (i:=sig.toNat) st (by omega);have bD:=E.sm.parts _ (zE (l:=T) (i:=sig.toNat) (by omega));refine go ?_;refine VA (Yt h2 va v _ l sa (s.ext (e1.trans e2)) (by omega)) ?_;rintro _ _ ⟨rfl,rfl⟩;cases c2:decide ((T.getD sig.toNat default).parts=l)with
  |false=>
   refine gr ?_;exact⟨rfl,e1.trans e2⟩
  |true=>
   refine gr ?_;exact⟨rfl,e1.trans e2⟩
theorem zLQ(h:WA)(x:WE)(cs:List Value)(n:Int)(r:RTy h cs x)(hk:x.kind=4)(hn:0<=n):WC Tryz.prog tb 229 [.agg cs.toArray,I n] h fun r h'=>r=I (if n<(x.parts.length:Int)then x.parts.getD n.toNat 0 else -1)/\Ext h h':=by
 obtain⟨va,rfl,sa,br⟩:=r;obtain⟨a1,a2,a3,rfl⟩:=Wi.shape sa;refine en ?_;refine VF ?_;intro p h1 e1 o1;replace o1:WB h h1 p [.int .u8 x.kind,I x.elem,I x.many,.slice a1 a2 a3]:=o1;have je:=WQ.ext sa e1;by_cases c:n<(x.parts.length:Int)
 ·rw[QF c];refine gr ?_;exact⟨rfl,e1⟩
 ·rw[QC c];have k5:¬x.kind=5:=by omega
  refine gr ?_;exact⟨rfl,e1⟩
end
end Go.Proofs.YtmejfcakhpihlaaGreatDoor
set_option maxRecDepth 100000
namespace Go.Proofs.YtmejfcakhpihlaaGreatDoor
open Go.Am
theorem zQL{T:List WE}{s n:Int}(h:Ww T 4 s=true):Z5 T s n=if n<((T.getD s.toNat default).parts.length:Int)then(T.getD s.toNat default).parts.getD n.toNat 0 else -1:=by
 have h1:=zAd h;have hk:(T.getD s.toNat default).kind=4:=by rw[zDR h1]at h;simpa using h
 have h5:Ww T 5 s=false:=by rw[zDR h1,hk];rfl
 unfold Z5;rw[QC h1,h,h5,Qe];simp only[Qd,Qa,Gb]
theorem zQh{T:List WE}{s n:Int}(h:Ww T 5 s=true):Z5 T s n=(T.getD s.toNat default).elem:=by
 have h1:=zAd h;have hk:(T.getD s.toNat default).kind=5:=by rw[zDR h1]at h;simpa using h
 have h4:Ww T 4 s=false:=by rw[zDR h1,hk];rfl
 unfold Z5;rw[QC h1,h4,h,Qf];rfl
section
variable {vt vf:Value}{T:List WE}{F:List Wa}
theorem zHX(h:WA)(x:Wj)(cs:List Value)(v:Value)(l:List Int)(E:En h vt vf T F)(hc:yS T=0)(hR:W8 h cs x)(s:WQ h v l)(hl:l.length<=1000)(ah:∀ t∈l,W7 T t)(bm:W7 T x.ty)(b7:x.op=14\/x.op=15\/x.op=16\/x.op=17)(hn:x.op=14->0<=x.n)(h1:1<=l.length)(h2:x.op=15\/x.op=17->2<=l.length):
  WC Tryz.prog tb 203 [.agg #[vt,vf],.agg cs.toArray,v] h fun r h'=>r=.bool (zGm T x l)/\Ext h h':=by
 obtain⟨xa,xf,rfl,cr,cz,br,dZ,ho⟩:=hR;obtain⟨a1,a2,a3,rfl⟩:=Wi.shape cr;obtain⟨f1,f2,f3,rfl⟩:=Wi.shape cz;obtain⟨b1,b2,b3,rfl⟩:=Wi.shape s;have ht0:=YY ah (show 0<l.length by omega);have gw:=zDM hc ht0;have LD:∀ n,0<=n->W7 T (Z5 T (BT T (l.getD 0 0)) n):=fun n hn=>zF3 hc gw hn;unfold zGm zFm;generalize Ri:BT T (l.getD 0 0)=sd at *;refine en ?_;refine VF ?_;intro p3 h3 e3 o3;replace o3:WB h h3 p3 [vt,vf]:=o3;refine go ?_;refine VF ?_;intro p4 h4 e4 o4;replace o4:WB h3 h4 p4 [.int .u8 x.op,I x.ty,I x.a,I x.b,I x.n,.slice a1 a2 a3,.slice f1 f2 f3]:=o4;have E4:=E.ext (e3.trans e4);have mG:=o3.ext e4;have s4:=s.ext (e3.trans e4);refine go ?_;refine VC 0 rfl rfl ?_;have kj:=VI (mG.ext (zH 0 h4));have rI:=VK (s4.ext (zH 0 h4));refine WJ ?_;refine VA (zKA _ _ E4.inC ht0) ?_;rintro _ X5 ⟨rfl,e5⟩;rw[Ri];refine nE e5 ?_;have HY:=(zH 0 h4).trans (zZ (h:=h4) e5);have cB:Ext h4 (outC h4 (inC X5)):=HY;refine WJ ?_;generalize outC h4 (inC X5)=h5 at *;have E5:=E4.ext cB;have rj:=mG.ext cB;have rJ:=o4.ext cB;have s5:=s4.ext cB;have cq:=(e3.trans e4).trans cB;clear kj rI;have AZ:=VI (rj.ext (zH 0 h5));have A0:=VI (rJ.ext (zH 0 h5));have Rj:=VK (s5.ext (zH 0 h5));have ea:=zH 0 h5;by_cases eG:x.op=14
 ·rw[QF eG];refine go ?_;refine VC 0 rfl rfl ?_;refine WJ ?_;refine VA (ZL _ sd 4 E5.inC gw) ?_;rintro _ X6 ⟨rfl,e6⟩;refine nE e6 ?_;have dD:=ea.trans (zZ (h:=h5) e6);cases c4:Ww T 4 sd with
  |false=>
   refine WJ ?_;refine Zd zw ?_;refine BY ?_;exact⟨rfl,cq.trans dD⟩
  |true=>
   obtain⟨t0,t1⟩:=gw.resolve_left (zAd c4);have E6:=E5.inC.go e6;have HZ:=VI (AZ.ext e6);have lp:=VI (A0.ext e6);have xE:=E6.st;obtain⟨ct,rT,pc,hs⟩:=yM (i:=sd.toNat) xE (by omega);have Rk:(T.getD sd.toNat default).kind=4:=by rw[zDR (zAd c4)]at c4;simpa using c4
   have hP:=zLQ (inC X6) _ ct x.n rT Rk (hn eG);obtain⟨va,rfl,sa,br⟩:=rT;obtain⟨tV,tW,wC,rfl⟩:=Wi.shape sa;have iC:=LD x.n (hn eG);rw[zQL c4]at iC |-;refine WJ ?_;refine VA hP ?_;rintro _ X7 ⟨rfl,e7⟩;refine nE e7 ?_;have i9:=dD.trans (zZ (h:=h5) e7);generalize(if x.n<((T.getD sd.toNat default).parts.length:Int)then(T.getD sd.toNat default).parts.getD x.n.toNat 0 else -1)=to at *;refine WJ ?_;refine VA (zF7 _ x.ty to (E6.go e7) bm iC) ?_;rintro _ X8 ⟨rfl,e8⟩;refine nE e8 ?_;have iD:=i9.trans (zZ (h:=h5) e8);refine BY ?_;exact⟨rfl,cq.trans iD⟩
 rw[QC eG];refine go ?_;by_cases kW:x.op=15
 ·have h2:=h2 (.inl kW);have wj:=YY ah (show 1<l.length by omega);rw[QF kW];refine go ?_;refine VC 0 rfl rfl ?_;refine WJ ?_;refine VA (ZL _ sd 5 E5.inC gw) ?_;rintro _ X6 ⟨rfl,e6⟩;refine nE e6 ?_;have dD:=ea.trans (zZ (h:=h5) e6);cases c5:Ww T 5 sd with
  |false=>
   refine BY ?_;exact⟨rfl,cq.trans dD⟩
  |true=>
   obtain⟨t0,t1⟩:=gw.resolve_left (zAd c5);have E6:=E5.inC.go e6;have HZ:=VI (AZ.ext e6);have s6:=VK (Rj.ext e6);refine WJ ?_;refine VA (ZL _ (l.getD 1 0) 1 E6 wj) ?_;rintro _ X7 ⟨rfl,e7⟩;refine nE e7 ?_;have i9:=dD.trans (zZ (h:=h5) e7);cases c1:Ww T 1 (l.getD 1 0)with
   |false=>
    refine BY ?_;exact⟨rfl,cq.trans i9⟩
   |true=>
    have E7:=E6.go e7;have o37:=VI (WB.ext HZ e7);have uq:=VI (WB.ext (VI (A0.ext e6)) e7);have xF:=E7.st;obtain⟨ct,⟨va,rfl,sa,br⟩,pc,hs⟩:=yM (i:=sd.toNat) xF (by omega);have iC:=LD 0 (Ql 0);rw[zQh c5]at iC |-;refine WJ ?_;refine VA (zF7 _ x.ty (T.getD sd.toNat default).elem E7 bm iC) ?_;rintro _ X8 ⟨rfl,e8⟩;refine nE e8 ?_;have iD:=i9.trans (zZ (h:=h5) e8);refine BY ?_;exact⟨rfl,cq.trans iD⟩
 rw[QC kW];refine go ?_;by_cases kY:x.op=16
 ·rw[QF kY];refine go ?_;refine VA (zEj h5 sd E5 gw) ?_;rintro _ h6 ⟨rfl,e6⟩;have lp:=rJ.ext e6;cases c6:zBV T sd with
  |false=>
   refine gr ?_;exact⟨rfl,cq.trans e6⟩
  |true=>
   refine gr ?_;exact⟨rfl,cq.trans e6⟩
 ·rw[QC kY];have h2:=h2 (.inr (by omega));refine go ?_;refine VA (zEj h5 sd E5 gw) ?_;rintro _ h6 ⟨rfl,e6⟩;have s6:=s5.ext e6;cases c6:zBV T sd with
  |false=>
   refine gr ?_;exact⟨rfl,cq.trans e6⟩
  |true=>
   refine gr ?_;exact⟨rfl,cq.trans e6⟩
end
end Go.Proofs.YtmejfcakhpihlaaGreatDoor
