/- Walks of functions, plain laws; proves no statement. -/
import Derived.Test.YtmejfcakhpihlaaGreatDoorJj
set_option linter.unusedVariables false
set_option linter.unusedSimpArgs false
set_option maxHeartbeats 2000000
namespace Go.Proofs.YtmejfcakhpihlaaGreatDoor
noncomputable section
open Go.Am
def trF{α:Type}(T:List U5)(a:Int->α)(s:List α->α)(m:Nat->α->α):Nat->Int->α
 |0,k=>a k
 |n+1,k=>let x:=T.getD k.toNat default
  if x.kind=4 then s (x.parts.map (trF T a s m n))else if x.kind=5 then m x.many.toNat (trF T a s m n x.elem)else a k
def trL{α:Type}(T:List U5)(a:Int->α)(s:List α->α)(m:Nat->α->α)(k:Nat):α:=trF T a s m (k+1) k
theorem zFS{T:List U5}{k:Nat}(h:ZS T k)(h4:(T.getD k default).kind=4):(T.getD k default).parts.length<=8/\∀ p∈(T.getD k default).parts,0<=p/\p<(k:Int):=by
 unfold ZS zFK at h;rcases h with h|h|h|h|h
 ·omega
 ·omega
 ·omega
 ·exact h.2.2.2.2
 ·omega
theorem zIe{T:List U5}{k:Nat}(h:ZS T k)(h5:(T.getD k default).kind=5):0<=(T.getD k default).elem/\(T.getD k default).elem<(k:Int)/\1<=(T.getD k default).many/\(T.getD k default).many<=16:=by
 unfold ZS zFK at h;rcases h with h|h|h|h|h<;>omega
section
variable {α:Type}{T:List U5}{a:Int->α}{s:List α->α}{m:Nat->α->α}
theorem zH5:∀ (n q:Nat) (k:Nat),k<n->k<q->(∀ j,j<=k->ZS T j)->trF T a s m n k=trF T a s m q k:=by
 intro n;induction n with
 |zero=>intro m k h;omega
 |succ n ih=>
  intro q k h1 h2 hM;obtain⟨q,rfl⟩:∃ r,q=r+1:=⟨q-1,by omega⟩;have hk:=hM k (QE _);unfold trF;simp only[QU];split
  ·rename_i h4;congr 1;refine GY fun p hp=> ?_;have hp':=(zFS hk h4).2 p hp;obtain⟨r,rfl⟩:∃ r:Nat,p=r:=⟨p.toNat,by omega⟩;exact ih q r (by omega) (by omega) fun j hj=>hM j (by omega)
  ·split
   ·rename_i h4 h5;have hp':=zIe hk h5;obtain⟨r,hr⟩:∃ r:Nat,(T.getD k default).elem=r:=⟨(T.getD k default).elem.toNat,by omega⟩;rw[hr,ih q r (by omega) (by omega) fun j hj=>hM j (by omega)]
   ·rfl
theorem Y0{k:Nat}(hM:∀ j,j<=k->ZS T j):trL T a s m k=let x:=T.getD k default
  if x.kind=4 then s (x.parts.map fun p=>trL T a s m p.toNat)else if x.kind=5 then m x.many.toNat (trL T a s m x.elem.toNat)else a k:=by
 have hk:=hM k (QE _);conv=>lhs;unfold trL;rw[trF]
 simp only[QU];split
 ·rename_i h4;congr 1;refine GY fun p hp=> ?_;have hp':=(zFS hk h4).2 p hp;obtain⟨r,rfl⟩:∃ r:Nat,p=r:=⟨p.toNat,by omega⟩;exact zH5 _ _ r (by omega) (by omega) fun j hj=>hM j (by omega)
 ·split
  ·rename_i h4 h5;have hp':=zIe hk h5;obtain⟨r,hr⟩:∃ r:Nat,(T.getD k default).elem=r:=⟨(T.getD k default).elem.toNat,by omega⟩;rw[hr,QU,zH5 k (r+1) r (by omega) (by omega) fun j hj=>hM j (by omega)];rfl
  ·rfl
end
def yN(T:List U5)(k:Nat):List Int:=trL T (fun k=>[k]) List.flatten (fun _ l=>l) k
def zCU:List (List Int×Nat)->List Int×Nat
 |[]=>([],0)
 |x::r=>(x.1++(zCU r).1.map (fun i=>(x.2:Int)+i),x.2+(zCU r).2)
def Bv(T:List U5)(k:Nat):List Int×Nat:=trL T (fun _=>([0],1)) zCU (fun n p=>((List.replicate n p.1).flatten,p.2)) k
theorem zFl:∀ (l:List (List Int×Nat)) (x:List Int×Nat),zCU (l++[x])=((zCU l).1++x.1.map (fun i=>((zCU l).2:Int)+i),(zCU l).2+x.2)
 |[],x=>by simp[zCU]
 |y::l,x=>by
  simp only[G7,zCU,zFl l x,GA,List.map_map,QZ,JH];congr 3;refine GY fun i _=> ?_;simp only[Function.comp];omega
theorem zKp{T:List U5}:∀ (n k:Nat),k<n->(∀ j,j<=k->ZS T j)->(Bv T k).2=(yN T k).length/\(Bv T k).1.length=(BP T k).length/\∀ i∈(Bv T k).1,0<=i/\i<((yN T k).length:Int):=by
 intro n;induction n with
 |zero=>intro k h;omega
 |succ n ih=>
  intro k hk hM;have hm:=hM k (QE _);unfold Bv yN;rw[Y0 hM,Y0 hM,zA7 hM];simp only;split
  ·rename_i h4;have hp:=(zFS hm h4).2;generalize(T.getD k default).parts=l at *;have hI:∀ p∈l,_:=fun p hpp=>ih p.toNat (by have:=hp p hpp;omega) fun j hj=>hM j (by have:=hp p hpp;omega);clear hp;induction l with
   |nil=>exact⟨rfl,rfl,fun i hi=>by cases hi⟩
   |cons p l ihl=>
    obtain⟨a1,a2,a3⟩:=ihl fun q hq=>hI q (Qh _ hq);obtain⟨b1,b2,b3⟩:=hI p (Qc ..);unfold Bv yN at b1 b3;unfold Bv at b2;simp only[Qm,zCU,GP,QM,Qp];refine⟨by omega,by omega,fun i hi=> ?_⟩;rcases Qi.1 hi with hi|hi
    ·have:=b3 i hi;omega
    ·obtain⟨j,hj,rfl⟩:=Qt.1 hi;have:=a3 j hj;omega
  ·split
   ·rename_i h4 h5;have hp:=zIe hm h5;obtain⟨b1,b2,b3⟩:=ih (T.getD k default).elem.toNat (by omega) fun j hj=>hM j (by omega);unfold Bv yN at b1 b3;unfold Bv at b2;refine⟨b1,?_,fun i hi=> ?_⟩
    ·simp only[zBW];rw[b2]
    ·obtain⟨l,hl,hi⟩:=List.mem_flatten.1 hi;rw[List.eq_of_mem_replicate hl]at hi;exact b3 i hi
   ·exact⟨rfl,rfl,fun i hi=>by simp at hi;subst hi;simp⟩
theorem zDF{T:List U5}:∀ (n k:Nat),k<n->(∀ j,j<=k->ZS T j)->(yN T k).length<=(BP T k).length:=by
 intro n;induction n with
 |zero=>intro k h;omega
 |succ n ih=>
  intro k hk hM;have hm:=hM k (QE _);unfold yN;rw[Y0 hM,zA7 hM];simp only;split
  ·rename_i h4;have hp:=(zFS hm h4).2;generalize(T.getD k default).parts=l at *;have hI:∀ p∈l,_:=fun p hpp=>ih p.toNat (by have:=hp p hpp;omega) fun j hj=>hM j (by have:=hp p hpp;omega);clear hp;induction l with
   |nil=>exact QE _
   |cons p l ihl=>
    have a:=ihl fun q hq=>hI q (Qh _ hq);have b:=hI p (Qc ..);unfold yN at b;simp only[Qm,GP,QM];omega
  ·split
   ·rename_i h4 h5;have hp:=zIe hm h5;have b:=ih (T.getD k default).elem.toNat (by omega) fun j hj=>hM j (by omega);unfold yN at b;rw[zBW];refine QO b ?_;have:1<=(T.getD k default).many.toNat:=by omega
    exact Nat.le_mul_of_pos_left _ this
   ·exact QE _
def wkL(T:List U5)(o:Bool)(s:Int)(k:Nat):List Int:=if o then yN T k else(Bv T k).1.map fun i=>s+i
theorem zAG{T:List U5}{k:Nat}(hM:∀ j,j<=k->ZS T j):yN T k=if(T.getD k default).kind=4 then((T.getD k default).parts.map fun p=>yN T p.toNat).flatten else if(T.getD k default).kind=5 then yN T (T.getD k default).elem.toNat else[(k:Int)]:=Y0 hM
theorem zHf{T:List U5}{k:Nat}(hM:∀ j,j<=k->ZS T j):Bv T k=if(T.getD k default).kind=4 then zCU ((T.getD k default).parts.map fun p=>Bv T p.toNat)else if(T.getD k default).kind=5 then((List.replicate (T.getD k default).many.toNat (Bv T (T.getD k default).elem.toNat).1).flatten,(Bv T (T.getD k default).elem.toNat).2)else([0],1):=Y0 hM
def zFL(T:List U5)(o:Bool)(s:Int)(ps:List Int):List Int:=if o then(ps.map fun p=>yN T p.toNat).flatten else(zCU (ps.map fun p=>Bv T p.toNat)).1.map fun i=>s+i
theorem zJG{T:List U5}{o:Bool}{s:Int}{k:Nat}(hM:∀ j,j<=k->ZS T j):wkL T o s k=if(T.getD k default).kind=4 then zFL T o s (T.getD k default).parts else if(T.getD k default).kind=5 then(if o then yN T (T.getD k default).elem.toNat else(List.replicate (T.getD k default).many.toNat (wkL T o s (T.getD k default).elem.toNat)).flatten)else[if o then(k:Int)else s]:=by
 conv=>lhs;unfold wkL
 rw[zAG hM,zHf hM];cases o with
 |true=>unfold zFL;simp only[Q2]
 |false=>
  unfold zFL;simp only[Qn,Gi];split
  ·rfl
  ·split
   ·rw[List.map_flatten,List.map_replicate];rfl
   ·simp
theorem zKq{T:List U5}:∀ {ps:List Int},(∀ p∈ps,(Bv T p.toNat).2=(yN T p.toNat).length)->(zCU (ps.map fun p=>Bv T p.toNat)).2=(ps.map fun p=>yN T p.toNat).flatten.length
 |[],_=>rfl
 |p::ps,h=>by
  simp only[Qm,zCU,GP,QM];rw[zKq fun q hq=>h q (Qh _ hq),h p (Qc ..)]
theorem zPK{T:List U5}{o:Bool}{s q:Int}{ps:List Int}(h:∀ p∈ps,(Bv T p.toNat).2=(yN T p.toNat).length):
  zFL T o s (ps++[q])=zFL T o s ps++wkL T o (s+((ps.map fun p=>yN T p.toNat).flatten.length:Int)) q.toNat:=by
 unfold zFL wkL;cases o with
 |true=>simp
 |false=>
  simp only[Qn,Gi,GA,Qm,Gf];rw[zFl,zKq h];simp only[GA,List.map_map];congr 1;refine GY fun i _=> ?_;simp only[Function.comp];omega
theorem zUG{T:List U5}{o:Bool}{s:Int}{k:Nat}(hM:∀ j,j<=k->ZS T j):(wkL T o s k).length<=(BP T k).length:=by
 unfold wkL;split
 ·exact zDF (k+1) k (Q7 _) hM
 ·rw[Qp,(zKp (k+1) k (Q7 _) hM).2.1];exact QE _
def WQ(p v:Value)(h h':U2)(v':Value):Prop:=h.n<=h'.n/\(∀ g,g<h.n->Bi p≠some g->Bi v≠some g->h'.get g=h.get g)/\∀ b,Bi v'=some b->Bi v=some b\/h.n<=b
theorem WQ.refl(p v:Value)(h:U2):WQ p v h h v:=⟨QE _,fun _ _ _ _=>rfl,fun _ h=> .inl h⟩
theorem WQ.trans{p v v1 v2:Value}{h h1 h2:U2}(a:WQ p v h h1 v1)(b:WQ p v1 h1 h2 v2):WQ p v h h2 v2:=by
 refine⟨QO a.1 b.1,fun g hg h1 h2=> ?_,fun k hk=> ?_⟩
 ·rw[b.2.1 g (QG hg a.1) h1 fun e=> ?_,a.2.1 g hg h1 h2];rcases a.2.2 g e with e|e
  ·exact h2 e
  ·omega
 ·rcases b.2.2 k hk with e|e
  ·exact a.2.2 k e
  ·exact .inr (QO a.1 e)
theorem WQ.ext{p v:Value}{h h':U2}(e:U8 h h'):WQ p v h h' v:=⟨e.n,fun g hg _ _=>e.get g hg,fun _ h=> .inl h⟩
theorem VP{h0 h h':U2}{p q v v':Value}{cs:List Value}(o:U6 h0 h q cs)(k:WQ p v h h' v')(d1:WK p q)(d2:WK v q):U6 h0 h' q cs/\WK v' q:=by
 have hw:=o.within;obtain⟨g,g1,g2,rfl,g3⟩:=o;refine⟨⟨g,g1,QG g2 k.1,rfl,(k.2.1 g g2 (fun e=>d1 g e rfl) fun e=>d2 g e rfl).trans g3⟩,fun b hb hq=> ?_⟩;cases hq;rcases k.2.2 _ hb with e|e
 ·exact d2 _ e rfl
 ·have e:h.n<=g:=e;omega
set_option maxRecDepth 100000
structure CW(hB h:U2)(vT pT pF pR vR:Value)(l:List Int):Prop where
 tT:U6 hB h pT [vT]
 tF:U6 hB h pF [.func (.func 221) #[] #[pT,pF,pR]]
 tR:U6 hB h pR [vR]
 own:WJ hB h vR l
 fT:WK pR pT
 fF:WK pR pF
 vt:WK vR pT
 vf:WK vR pF
 vr:WK vR pR
 ext:U8 hB h
theorem CW.ext'{hB h h':U2}{vT pT pF pR vR:Value}{l:List Int}(w:CW hB h vT pT pF pR vR l)(e:U8 h h'):CW hB h' vT pT pF pR vR l:=
 ⟨w.tT.ext e,w.tF.ext e,w.tR.ext e,w.own.ext e,w.fT,w.fF,w.vt,w.vf,w.vr,w.ext.trans e⟩
def zMz:U3:=(oV (oR [oB .lss 24 23 22]) (oV (oT 24 1) (oV (o5 2 (oV (oR [oI 1 25 21 23,oL 26 25,oM 7 26]) (oR [oL 27 2,oM 28 7,⟨some 29,none,(.call (.tmp 27) [(.tmp 28)])⟩]))) (oR [oC .add 30 23 1,oM 23 30]))))
def zLB:U3:=(oV (oR [oB .lss 36 35 34]) (oV (oT 36 3) (oV (o5 4 (oR [oL 37 2,oF 1 38 5,oL 39 38,⟨some 40,none,(.call (.tmp 37) [(.tmp 39)])⟩])) (oR [oC .add 41 35 1,oM 35 41]))))
def zRx:U3:=(oV (oR [oL 8 1,oM 9 0,oI 4 10 8 9,oA 4 11 10,⟨some 5,none,(.alloc [(.int .u8 0),(.int .i64 0),(.int .i64 0),(.slice none 0 0)])⟩,oS 4 5 11]) (oV (oR [oF 0 12 5,oL 13 12]) (o5 0 (oV (oR [oD .eql 19 13 4,oM 18 19]) (oJ 18 (oV (oR [oF 3 20 5,oL 21 20,oQ 22 21,oN 23 0]) (o5 1 (.loop zMz))) (oV (oR [oD .eql 32 13 5,oM 31 32]) (oJ 31 (oV (oR [oF 2 33 5,oL 34 33,oN 35 0]) (o5 3 (.loop zLB))) (oR [oL 14 3,oM 15 0,⟨some 16,none,(.buildSlice 1 1 [(.int .i64 0)] [(0,1,(.tmp 15))])⟩,oY 1 17 14 16,oS 1 3 17]))))))))
theorem zM2(hB:U2)(vT pT pF pR:Value)(T:List U5)(st:Wv hB vT T)(hT:(T.length:Int)<=1000):∀ (n k:Nat) (h:U2) (vR:Value) (l:List Int),k<n->k<T.length->zMs T k->ZS T k->CW hB h vT pT pF pR vR l->l.length+(BP T k).length<=100->
  WC Tryz.prog tb 221 [I k,pT,pF,pR] h fun r h'=>∃ vR',CW hB h' vT pT pF pR vR' (l++BP T k)/\WQ pR vR h h' vR':=by
 obtain⟨t1,t2,t3,rfl⟩:=zF st;intro n;induction n with
 |zero=>intro k h vR l hk;omega
 |succ n ih=>
  intro k h vR l hkn hk hlow hM w hl;have hof:=zA7 (T:=T) (k:=k) fun j hj=>by
   by_cases e:j=k
   ·subst e;exact hM
   ·exact(hlow j (by omega)).1
  have hXt:=w.ext;have st0:=st.ext w.ext;have h4':=zFS hM;have h5':=zIe hM;obtain⟨cs,⟨va,rfl,sa,hla⟩,pc,hs⟩:=yA (i:=k) st hk;replace pc:=(pc _ hXt).1;rw[hof]at hl |-;clear hof;generalize T.getD k default=x at *;obtain⟨a1,a2,a3,rfl⟩:=Wb.shape sa;have oT:=w.tT;have oF:=w.tF;have oR:=w.tR;refine en 42 [] zRx ?_;refine WO.al ?_;intro p h1 e1 o1;refine go ?_;refine VG o1 e1 ?_;intro h2 e2 o2 _;have w2:=w.ext' e2;have sa2:=sa.ext w2.ext;have f1:WK pR p:=(VF o2.since' w.tR.within).symm;have f2:WK vR p:=(VF o2.since' w.own.within).symm;by_cases h4:x.kind=4
  ·have hp:=h4' h4;simp only[h4,Q2]at hl |-;have hp8:=hp.1;replace hp:=Wa.mk hp;replace hlow:=Wa.mk hlow;refine go ?_;refine VD [24,25,26,7,27,28,29,30,23] (by kernel_rfl) (fun i=>x.parts.length-i) (fun i t h3=>zB t 23=I i/\i<=x.parts.length/\∃ vR',CW hB h3 (.slice t1 t2 t3) pT pF pR vR' (l++((x.parts.take i).map fun p=>BP T p.toNat).flatten)/\WQ pR vR h2 h3 vR') 0 ?_ ?_
   ·exact⟨WA,QT _,vR,by simpa using w2,WQ.refl ..⟩
   rintro i t h3 hsame ⟨s7,hi,vR',w3,k3⟩;have sa3:=sa.ext w3.ext;have o3T:=w3.tT;have o3F:=w3.tF;refine go ?_;refine VE (fun hc=> ?_) (fun hc=> ?_)<;>simp only[DB]at hc
   ·have hi':i<x.parts.length:=by omega
    have hpi:=hp.out.2 _ (zb hi');have hsucc:=zLc (f:=fun p=>BP T p.toNat) hi';have hsum:((x.parts.take (i+1)).map fun p=>BP T p.toNat).flatten.length<=(x.parts.map fun p=>BP T p.toNat).flatten.length:=by
     conv=>rhs;rw[<-GH (i+1) x.parts]
     rw[GA,List.flatten_append,QM];omega
    obtain⟨q,hq⟩:∃ q:Nat,x.parts.getD i 0=q:=⟨(x.parts.getD i 0).toNat,by omega⟩;have hqk:q<k:=by omega
    have hdef:x.parts.getD i default=(q:Int):=hq;rw[hdef]at hsucc;simp only[QU]at hsucc;rw[hsucc,QM]at hsum;refine go ?_;rw[hq];refine VN (WV.func (ih q h3 vR' _ (by omega) (by omega) (fun j hj=>hlow.out j (by omega)) (hlow.out q hqk).1 w3 (by rw[QM];omega))) ?_;rintro r h4 ⟨vR4,w4,k4⟩;refine go ?_;exact zA (i+1) (by omega) ⟨Wx,by omega,vR4,by rw[hsucc,<-QZ];exact w4,k3.trans k4⟩
   ·have hii:i=x.parts.length:=by omega
    subst hii;rw[Q5]at w3;refine go ?_;refine BB ?_;exact⟨vR',w3,(WQ.ext e2).trans k3⟩
  by_cases h5:x.kind=5
  ·have hp:=h5' h5;obtain⟨q,hq⟩:∃ q:Nat,x.elem=q:=⟨x.elem.toNat,by omega⟩;obtain⟨m,hm⟩:∃ m:Nat,x.many=m:=⟨x.many.toNat,by omega⟩;have hqk:q<k:=by omega
   simp only[h5,Q2,Gi,show ¬((5:Int)=4) by decide,hq,hm,QU]at hl |-;replace hlow:=Wa.mk hlow;rw[zBW]at hl;refine go ?_;refine VD [36,37,38,39,40,41,35] (by kernel_rfl) (fun i=>m-i) (fun i t h3=>zB t 35=I i/\i<=m/\∃ vR',CW hB h3 (.slice t1 t2 t3) pT pF pR vR' (l++(List.replicate i (BP T q)).flatten)/\WQ pR vR h2 h3 vR') 0 ?_ ?_
   ·exact⟨WA,QT _,vR,by simpa using w2,WQ.refl ..⟩
   rintro i t h3 hsame ⟨s7,hi,vR',w3,k3⟩;have o3T:=w3.tT;have o3F:=w3.tF;have o3p:=(VP o2 k3 f1 f2).1;refine go ?_;rw[hm];refine go ?_;refine VE (fun hc=> ?_) (fun hc=> ?_)<;>simp only[DB]at hc
   ·have hi':i<m:=by omega
    have hmul:(i+1)*(BP T q).length<=m*(BP T q).length:=Gc _ hi';rw[JC]at hmul;refine go ?_;rw[hq];refine VN (WV.func (ih q h3 vR' _ (by omega) (by omega) (fun j hj=>hlow.out j (by omega)) (hlow.out q hqk).1 w3 (by rw[QM,zBW];omega))) ?_;rintro r h4 ⟨vR4,w4,k4⟩;refine go ?_;refine zA (i+1) (by omega) ⟨Wx,by omega,vR4,?_,k3.trans k4⟩;rw[List.replicate_succ',List.flatten_append,<-QZ];simpa using w4
   ·have hii:i=m:=by omega
    subst hii;refine go ?_;refine BB ?_;exact⟨vR',w3,(WQ.ext e2).trans k3⟩
  ·simp only[h4,h5,Gi]at hl |-;have o2T:=w2.tT;have o2F:=w2.tF;have o2R:=w2.tR;refine go ?_;refine WO.bl [(k:Int)] ?_;intro v h3 e3 o3;have w3:=w2.ext' e3;refine go ?_;refine Vo w3.own o3.sl w3.ext (by simp) (by simp at hl |-;omega) ?_;intro v4 h4 e4 o4 u4;have tR4:=w3.tR.upB u4.upB w3.vr;have sn:=WJ.since' (.inr o4);have oT4:=w3.tT.upB u4.upB w3.vt;have oF4:=w3.tF.upB u4.upB w3.vf;obtain⟨g4,q1,q2,rfl,q3⟩:=id o4;refine go ?_;refine VG tR4 e4 ?_;intro h5 e5 o5 u5;refine go ?_;refine BB ?_;have hv:WK _ pR:=VF sn w3.tR.within;refine⟨_,⟨oT4.upB u5.upB w3.fT,oF4.upB u5.upB w3.fF,o5,WJ.upB (.inr (o4.since w3.ext)) u5.upB hv.symm,w3.fT,w3.fF,VF sn w3.tT.within,VF sn w3.tF.within,hv,e5⟩,?_⟩;refine(WQ.ext (e2.trans e3)).trans ⟨QO u4.1 u5.1,fun g hg h1 h2=> ?_,fun b hb=> .inr (sn b hb)⟩;rw[u5.upB.2 g (QG hg u4.1) h1,u4.upB.2 g hg h2]
def zSA:U3:=(oV (oR [oX 2 0,⟨some 4,none,(.alloc [(.slice none 0 0)])⟩]) (oV (oR [⟨some 5,none,(.alloc [.nilFunc])⟩]) (oV (oR [⟨some 6,none,(.mkFunc (.func 221) [] [(.tmp 2),(.tmp 5),(.tmp 4)])⟩,oS 1 5 6]) (oV (oR [oL 7 5,oM 8 1,⟨some 9,none,(.call (.tmp 7) [(.tmp 8)])⟩]) (oV (oR [oL 10 4,oS 1 4 10]) .ret)))))
theorem zNz(h:U2)(vT:Value)(T:List U5)(k:Nat)(st:Wv h vT T)(hT:(T.length:Int)<=1000)(hk:k<T.length)(hlow:∀ j,j<T.length->ZS T j/\(BP T j).length<=32):
  WC Tryz.prog tb 191 [vT,I k] h fun r h'=>WJ h h' r (BP T k)/\U8 h h':=by
 obtain⟨t1,t2,t3,rfl⟩:=zF st;refine en 11 [(4,some (false,1))] zSA ?_;refine VH ?_;intro pT h1 e1 oT;refine go ?_;refine WO.al ?_;intro pR h2 e2 oR;refine go ?_;refine WO.al ?_;intro pF h3 e3 oF;refine go ?_;refine VG (cs:=[.func (.func 221) #[] #[pT,pF,pR]]) oF e3 ?_;intro h4 e4 oF4 _;have e04:=e1.trans (e2.trans e4);have oT:U6 h h1 pT [.slice t1 t2 t3]:=oT;have a1:=VF oR.since' oT.within;have a2:=VF oF4.since' oR.within;have w:CW h h4 (.slice t1 t2 t3) pT pF pR (.slice none 0 0) []:=
  ⟨oT.ext (e2.trans e4),oF4.since (e1.trans e2),(oR.ext e4).since e1,.inl ⟨rfl,rfl⟩,a1,a2.symm,(fun b hb=>by cases hb),(fun b hb=>by cases hb),(fun b hb=>by cases hb),e04⟩
 have hwF:=w.tF;have hl:=hlow k hk;refine go ?_;refine VN (WV.func (zM2 h _ pT pF pR T st hT (k+1) k h4 _ [] (by omega) hk (fun j hj=>hlow j (by omega)) hl.1 w (by simp;omega))) ?_;rintro r h5 ⟨vR,w5,k5⟩;rw[GS]at w5;have ow:=w5.own;obtain⟨r1,r2,r3,rfl⟩:=Wb.shape ow.sl;have o5:=w5.tR;refine go ?_;refine VG o5 w5.ext ?_;intro h6 e6 o6 u6;refine go ?_;refine rt ?_ (Vc WA o6 rfl W5.nil);exact⟨ow.upB u6.upB w5.vr.symm,e6⟩
def zP3:U3:=(oV (oR [oK 4 (.slice none 0 0),oN 5 0]) (oV (oV (oR [oM 7 0,oM 8 1,o2 9 190 7 8,oM 6 9]) (oV (oR [oM 10 6,oC .neq 11 10 0]) (oJ 11 (oV (oR [oM 12 6,oK 4 (.slice none 0 0),oM 5 12]) .ret) .skip))) (oV (oR [oM 13 0,oM 14 1,o2 15 191 13 14,oM 4 15,oN 5 0]) .ret)))
theorem zPE(h:U2)(vT:Value)(T:List U5)(k:Int)(st:Wv h vT T)(hT:T.length<=100)(hp:∀ x∈T,x.parts.length<=100)(hc:yq T=0)(hk:0<=k/\k<(T.length:Int)):
  WC Tryz.prog tb 131 [vT,I k] h fun r h'=>(∃ v,r=.tuple #[v,I 0]/\WJ h h' v (BP T k.toNat))/\U8 h h':=by
 obtain⟨k,rfl⟩:∃ q:Nat,k=q:=⟨k.toNat,by omega⟩;obtain⟨t1,t2,t3,rfl⟩:=zF st;have hl:∀ j,j<T.length->ZS T j/\(BP T j).length<=32:=by
  have h1:=hc;rw[zBw]at h1;split at h1
  ·cases h1
  ·split at h1
   ·assumption
   ·cases h1
 refine en 16 [(4,none),(5,none)] zP3 ?_;refine VA (zFy h _ T k st hT hp hc hk) ?_;rintro _ h2 ⟨rfl,e2⟩;have st2:=Wv.ext st e2;refine go ?_;refine VA (zNz h2 _ T k st2 (by omega) (by omega) hl) ?_;rintro v h3 ⟨o3,e3⟩;refine gr ?_;exact⟨⟨v,rfl,o3.since e2⟩,e2.trans e3⟩
set_option maxRecDepth 100000
theorem zC4{T:List U5}(h1:yq T=0):∀ j,j<T.length->ZS T j/\(BP T j).length<=32:=by
 rw[zBw]at h1;split at h1
 ·cases h1
 ·split at h1
  ·assumption
  ·cases h1
structure KW(hB h:U2)(vT p vA:Value)(b:Nat)(o:Bool)(fid:FuncId)(s:Int)(l:List Int):Prop where
 own:U6 hB h p [vT,.bool o,.func (.func fid) #[] #[],I s,vA]
 lst:WR 1 RI b h vA l
 pb:∀ g,p=.pointer (some ⟨g,0,none⟩)->g<b
 bn:b<=h.n
 ext:U8 hB h
theorem KW.off{hB h:U2}{vT p vA:Value}{b:Nat}{o:Bool}{fid:FuncId}{s:Int}{l:List Int}(w:KW hB h vT p vA b o fid s l):WK p vA:=by
 obtain⟨g,_,_,rfl,_⟩:=w.own;have hg:=w.pb g rfl;intro c hc hv;cases hc;rcases w.lst with⟨rfl,_⟩|⟨g2,_,_,g3,_,rfl,_⟩
 ·cases hv
 ·cases hv;exact Nat.lt_irrefl _ (QG hg g3)
def zMN:U3:=(oV (oR [oB .lss 51 50 49]) (oV (oT 51 1) (oV (o5 2 (oV (oR [oI 1 52 48 50,oL 53 52,oM 6 53]) (oR [oM 54 0,oM 55 6,o2 56 133 54 55]))) (oR [oC .add 57 50 1,oM 50 57]))))
def zMd:U3:=(oV (oR [oB .lss 69 68 67]) (oV (oT 69 3) (oV (o5 4 (oV (oR [oM 70 68,oM 9 70]) (oV (oV (oR [oM 71 0,⟨some 72,none,(.nilCheck (.tmp 71))⟩,oF 1 73 72,oL 74 73,oM 75 74,oG 75 (oM 76 9),oG 75 (oC .gtr 77 76 0),oP 78 75 77]) (oJ 78 (.exit 3) .skip)) (oV (oR [oM 79 0,oM 80 7,⟨some 81,none,(.nilCheck (.tmp 79))⟩,oF 3 82 81,oS 1 82 80]) (oR [oM 83 8,oF 1 84 4,oL 85 84,⟨some 86,none,(.call (.tmp 83) [(.tmp 85)])⟩]))))) (oR [oC .add 87 68 1,oM 68 87]))))
def zRt:U3:=(oV (oR [oM 10 0,⟨some 11,none,(.nilCheck (.tmp 10))⟩,oF 0 12 11,oL 13 12,oM 14 1,oI 4 15 13 14,oA 4 16 15,⟨some 4,none,(.alloc [(.int .u8 0),(.int .i64 0),(.int .i64 0),(.slice none 0 0)])⟩,oS 4 4 16]) (oV (oR [oF 0 17 4,oL 18 17]) (o5 0 (oV (oR [oD .eql 46 18 4,oM 45 46]) (oJ 45 (oV (oR [oF 3 47 4,oL 48 47,oQ 49 48,oN 50 0]) (o5 1 (.loop zMN))) (oV (oR [oD .eql 59 18 5,oM 58 59]) (oJ 58 (.scope (oV (oR [oM 60 0,⟨some 61,none,(.nilCheck (.tmp 60))⟩,oF 3 62 61,oL 63 62,oM 7 63]) (oV (oR [oM 64 0,⟨some 65,none,(.mkFunc (.func 133) [(.tmp 64)] [])⟩,oM 8 65]) (oV (.label 0) (oV (oR [oF 2 66 4,oL 67 66,oN 68 0]) (o5 3 (.loop zMd))))))) (oV (o6 [oM 19 0,oM 20 0,(⟨some 21,none,(.nilCheck (.tmp 20))⟩,[]),oF 4 22 21,oL 23 22,oM 24 0,(⟨some 25,none,(.nilCheck (.tmp 24))⟩,[]),oF 2 26 25,oL 27 26,oM 28 1,oM 29 0,(⟨some 30,none,(.nilCheck (.tmp 29))⟩,[]),oF 3 31 30,oL 32 31,(⟨some 33,none,(.call (.tmp 27) [(.tmp 28),(.tmp 32)])⟩,[4]),(⟨some 34,none,(.buildSlice 1 1 [(.int .i64 0)] [(0,1,(.tmp 33))])⟩,[]),oY 1 35 23 34,(⟨some 36,none,(.nilCheck (.tmp 19))⟩,[]),oF 4 37 36,oS 1 37 35]) (oR [oM 38 0,⟨some 39,none,(.nilCheck (.tmp 38))⟩,oF 3 40 39,oL 41 40,oC .add 42 41 1,⟨some 43,none,(.nilCheck (.tmp 38))⟩,oF 3 44 43,oS 1 44 42])))))))))
theorem zSS(hB:U2)(hmB:hB.mark<=hB.n)(vT p:Value)(b:Nat)(o:Bool)(fid:FuncId)(T:List U5)(st:Wv hB vT T)(hT:(T.length:Int)<=1000)
  (hf:∀ (h:U2) (k:Nat) (s:Int),WC Tryz.prog tb fid [I k,I s] h fun r h'=>r=I (if o then(k:Int)else s)/\h=h'):∀ (n k:Nat) (h:U2) (vA:Value) (s:Int) (l:List Int),k<n->k<T.length->zMs T k->ZS T k->KW hB h vT p vA b o fid s l->hB.n<=b->0<=s->s+300*k<=1000000000->l.length+600*k<=90000->
  WC Tryz.prog tb 133 [p,I k] h fun r h'=>∃ vA',KW hB h' vT p vA' b o fid (s+(yN T k).length) (l++wkL T o s k)/\WQ p vA h h' vA':=by
 obtain⟨t1,t2,t3,rfl⟩:=zF st;intro n;induction n with
 |zero=>intro k h vA s l hk;omega
 |succ n ih=>
  intro k h vA s l hkn hk hlow hM w hb s0 s1 hl;have hall:∀ j,j<=k->ZS T j:=fun j hj=>by
   by_cases e:j=k
   ·subst e;exact hM
   ·exact(hlow j (by omega)).1
  have hXt:=w.ext;have st0:=st.ext w.ext;have h4':=zFS hM;have h5':=zIe hM;obtain⟨cs,⟨va,rfl,sa,hla⟩,pc,hs⟩:=yA (i:=k) st hk;replace pc:=(pc _ hXt).1;have h32:∀ q,q<k->(yN T q).length<=32/\(∀ s',(wkL T o s' q).length<=32)/\(Bv T q).2=(yN T q).length:=fun q hq=>by
   have h1:=(hlow q hq).2;have h2:∀ j,j<=q->ZS T j:=fun j hj=>hall j (by omega);exact⟨QO (zDF (q+1) q (Q7 _) h2) h1,fun s'=>QO (zUG h2) h1,(zKp (q+1) q (Q7 _) h2).1⟩
  rw[zAG hall,zJG hall];generalize T.getD k default=x at *;obtain⟨a1,a2,a3,rfl⟩:=Wb.shape sa;have oW:=w.own;obtain⟨gp,_,_,rfl,_⟩:=id oW;refine en 88 [] zRt ?_;refine WO.al ?_;intro p4 h1 e1 o1;refine go ?_;refine VG o1 e1 ?_;intro h2 e2 o2 _;have oW2:=oW.ext e2;have w2:KW hB h2 (.slice t1 t2 t3) (.pointer (some ⟨gp,0,none⟩)) vA b o fid s l:=⟨oW2,WR.ext w.lst e2,w.pb,QO w.bn e2.n,w.ext.trans e2⟩;have sa2:=sa.ext w2.ext;have f2:WK vA p4:=(VF o2.since' w.lst.within).symm;have f1:WK (.pointer (some ⟨gp,0,none⟩)) p4:=(VF o2.since' oW.within).symm;replace h32:=Wa.mk h32;replace hall:=Wa.mk hall;by_cases h4:x.kind=4
  ·have hp:=h4' h4;simp only[h4,Q2];have hp8:=hp.1;replace hp:=Wa.mk hp;replace hlow:=Wa.mk hlow;have hN:Wa (∀ i,∀ p∈x.parts.take i,(Bv T p.toNat).2=(yN T p.toNat).length):=⟨fun i p hpp=>(h32.out p.toNat (by have:=hp.out.2 p (GF hpp);omega)).2.2⟩;refine go ?_;refine VD [51,52,53,6,54,55,56,57,50] (by kernel_rfl) (fun i=>x.parts.length-i) (fun i t h3=>zB t 50=I i/\i<=x.parts.length/\∃ vA',KW hB h3 (.slice t1 t2 t3) (.pointer (some ⟨gp,0,none⟩)) vA' b o fid (s+(((x.parts.take i).map fun p=>yN T p.toNat).flatten.length:Int)) (l++zFL T o s (x.parts.take i))/\WQ (.pointer (some ⟨gp,0,none⟩)) vA h2 h3 vA'/\(zFL T o s (x.parts.take i)).length<=32*i) 0 ?_ ?_
   ·refine⟨WA,QT _,vA,?_,WQ.refl ..,?_⟩
    ·have:zFL T o s []=[]:=by cases o<;>rfl
     simpa [this]using w2
    ·have:zFL T o s []=[]:=by cases o<;>rfl
     simp[this]
   rintro i t h3 hsame ⟨s7,hi,vA',w3,k3,hwl⟩;have sa3:=sa.ext w3.ext;refine go ?_;refine VE (fun hc=> ?_) (fun hc=> ?_)<;>simp only[DB]at hc
   ·have hi':i<x.parts.length:=by omega
    have hpi:=hp.out.2 _ (zb hi');obtain⟨q,hq⟩:∃ q:Nat,x.parts.getD i 0=q:=⟨(x.parts.getD i 0).toNat,by omega⟩;have hqk:q<k:=by omega
    have htk:x.parts.take (i+1)=x.parts.take i++[(q:Int)]:=by
     rw[Q4,QB hi',<-hq];simp[List.getD,QB hi']
    have hsn:=zPK (o:=o) (s:=s) (q:=(q:Int)) (hN.out i);have hfl:=zHi (l:=x.parts.take i) (f:=fun p=>yN T p.toNat) fun p hpp=>(h32.out p.toNat (by have:=hp.out.2 p (GF hpp);omega)).1;have hti:(x.parts.take i).length<=i:=List.length_take_le _ _;have h32q:=h32.out q hqk;rw[QU]at hsn;have hfs:((x.parts.take (i+1)).map fun p=>yN T p.toNat).flatten.length=((x.parts.take i).map fun p=>yN T p.toNat).flatten.length+(yN T q).length:=by
     rw[htk];simp
    refine go ?_;rw[hq];refine VA (ih q h3 vA' _ _ (by omega) (by omega) (fun j hj=>hlow.out j (by omega)) (hlow.out q hqk).1 w3 hb (by omega) (by omega) (by rw[QM];omega)) ?_;rintro r h4 ⟨vA4,w4,k4⟩;refine go ?_;refine zA (i+1) (by omega) ⟨Wx,by omega,vA4,?_,k3.trans k4,?_⟩
    ·rw[hfs,htk,hsn,<-QZ,Int.natCast_add,<-Int.add_assoc];exact w4
    ·rw[htk,hsn,QM];have:=h32q.2.1 (s+(((x.parts.take i).map fun p=>yN T p.toNat).flatten.length:Int));omega
   ·have hii:i=x.parts.length:=by omega
    subst hii;rw[Q5]at w3;refine go ?_;refine BB ?_;exact⟨vA',w3,(WQ.ext e2).trans k3⟩
  by_cases h5:x.kind=5
  ·have hp:=h5' h5;obtain⟨q,hq⟩:∃ q:Nat,x.elem=q:=⟨x.elem.toNat,by omega⟩;obtain⟨m,hm⟩:∃ m:Nat,x.many=m:=⟨x.many.toNat,by omega⟩;have hqk:q<k:=by omega
   simp only[h5,Q2,Gi,show ¬((5:Int)=4) by decide,hq,hm,QU];replace hlow:=Wa.mk hlow;refine go ?_;refine Vy ?_;refine go ?_;refine VD [69,70,9,71,72,73,74,75,76,77,78,79,80,81,82,83,84,85,86,87,68] (by kernel_rfl) (fun i=>m-i) (fun i t h3=>zB t 68=I i/\i<=m/\(o=true->i<=1)/\∃ vA',KW hB h3 (.slice t1 t2 t3) (.pointer (some ⟨gp,0,none⟩)) vA' b o fid (if i=0 then s else s+((yN T q).length:Int)) (l++if o then(if i=0 then[]else yN T q)else(List.replicate i (wkL T o s q)).flatten)/\WQ (.pointer (some ⟨gp,0,none⟩)) vA h2 h3 vA') 0 ?_ ?_
   ·exact⟨WA,QT _,fun _=>QT _,vA,by cases o<;>simpa using w2,WQ.refl ..⟩
   rintro i t h3 hsame ⟨s7,hi,hoi,vA',w3,k3⟩;have o3p:=(VP o2 k3 f1 f2).1;have oW3:=w3.own;refine go ?_;rw[hm];refine go ?_;refine VE (fun hc=> ?_) (fun hc=> ?_)<;>simp only[DB]at hc
   ·have hi':i<m:=by omega
    by_cases hox:o=true/\i≠0
    ·obtain⟨rfl,hi0⟩:=hox;have hi1:i=1:=by have:=hoi rfl;omega
     subst hi1;refine go ?_;refine BB ?_;exact⟨vA',by simpa using w3,(WQ.ext e2).trans k3⟩
    ·have hw:(if o then(if i=0 then[]else yN T q)else(List.replicate i (wkL T o s q)).flatten)++wkL T o s q=(if o then(if i+1=0 then[]else yN T q)else(List.replicate (i+1) (wkL T o s q)).flatten)/\(if o then(if i=0 then[]else yN T q)else(List.replicate i (wkL T o s q)).flatten).length<=32*i:=by
      cases o with
      |true=>
       have:i=0:=by have:=hoi rfl;exact Gk fun h=>hox ⟨rfl,h⟩
       subst this;simp[wkL]
      |false=>
       simp only[Qn,Gi];rw[List.replicate_succ',List.flatten_append];have:=(h32.out q hqk).2.1 s;have h2:=zBW i (wkL T false s q);have h3:=Nat.mul_le_mul_left i this;exact⟨by simp,by omega⟩
     have hsk:o=true->i=0:=fun h=>Gk fun h2=>hox ⟨h,h2⟩;have hof:=w3.off;have f3:=(VP o2 k3 f1 f2).2;have h32q:=h32.out q hqk;cases o;all_goals
      first|(have hi0:i=0:=hsk rfl)|skip
      refine go ?_
      refine VW (j:=3) (cs:=[I s]) (hl:=by simp) oW3 w3.ext ?_
      intro h4 e4 oW4 u4
      replace oW4:U6 hB h4 (.pointer (some ⟨gp,0,none⟩)) [.slice t1 t2 t3,.bool _,.func (.func fid) #[] #[],I s,vA']:=oW4
      have o4p:=U6.upB o3p u4.upB f1
      have w4:=KW.mk oW4 (WR.upB (fun _ _ _ _ h=>h) w3.lst u4.upB hof) w3.pb (QO w3.bn u4.1) e4
      refine go ?_
      rw[hq]
      refine VN (WV.func (ih q h4 vA' s _ (by omega) (by omega) (fun j hj=>hlow.out j (by omega)) (hlow.out q hqk).1 w4 hb s0 (by omega) (by rw[QM];omega))) ?_
      rintro r h5 ⟨vA5,w5,k5⟩
      refine go ?_
      refine zA (i+1) (by omega) ⟨Wx,by omega,(fun h=>by first|omega|cases h),vA5,?_,k3.trans (WQ.trans ⟨u4.1,fun g hg h1 _=>u4.upB.2 g hg h1,fun _ h=> .inl h⟩ k5)⟩
      rw[QZ,hw.1]at w5
      simpa using w5
   ·have hii:i=m:=by omega
    subst hii;refine go ?_;refine BB ?_;have hm0:i≠0:=by omega
    exact⟨vA',by simpa [hm0]using w3,(WQ.ext e2).trans k3⟩
  ·simp only[h4,h5,Gi];refine go ?_;refine VC 1 rfl rfl ?_;have oWY:=oW2.ext (za 1 h2);have oWX:U6 hB (inC (zC 1 h2)) (.pointer (some ⟨gp,0,none⟩)) [.slice t1 t2 t3,.bool o,.func (.func fid) #[] #[],I s,vA]:=oWY;clear oWY;have hsl:∃ c1 c2 c3,vA=.slice c1 c2 c3:=by
    rcases w2.lst with⟨rfl,_⟩|⟨_,_,_,_,_,rfl,_⟩
    ·exact⟨_,_,_,rfl⟩
    ·exact⟨_,_,_,rfl⟩
   obtain⟨c1,c2,c3,rfl⟩:=hsl;refine WT ?_;refine VN (WV.func (hf _ k s)) ?_;rintro _ _ ⟨rfl,rfl⟩;refine nE (U8.refl _) ?_;refine V8 (hB:=hB) (b:=b) (v:= .slice c1 c2 c3) (if o then(k:Int)else s) (fun _=>False) (U8.refl _) w2.lst w2.ext (by have:=w2.ext.mark;omega) hb w2.bn (by decide) (by omega) oW2 w2.pb (fun _ _ _=>rfl) (fun _ h=>h.elim) (fun _ _ _ _ h=>h) id (by simp) rfl ?_;intro H v' t' hsame eH oH hone lH sH kH nH;replace oH:U6 hB H (.pointer (some ⟨gp,0,none⟩)) [.slice t1 t2 t3,.bool o,.func (.func fid) #[] #[],I s,v']:=oH;have wH:=KW.mk oH lH w2.pb (QO w2.bn nH) eH;refine go ?_;refine VW (j:=3) (cs:=[I (s+1)]) (hl:=by simp) oH eH ?_;intro h5 e5 o5 u5;replace o5:U6 hB h5 (.pointer (some ⟨gp,0,none⟩)) [.slice t1 t2 t3,.bool o,.func (.func fid) #[] #[],I (s+1),v']:=o5;refine go ?_;refine BB ?_;refine⟨v',⟨o5,WR.upB (fun _ _ _ _ h=>h) lH u5.upB wH.off,w2.pb,QO wH.bn u5.1,e5⟩,(WQ.ext e2).trans ⟨QO nH u5.1,fun g hg h1 h2=> ?_,fun b hb=> .inr (sH b hb)⟩⟩;rw[u5.upB.2 g (QG hg nH) h1];exact kH g hg (fun e=>by cases e;exact h1 rfl) (fun _ _ e=>by cases e;exact h2 rfl)
def zQO:U3:=(oV (oR [oN 4 0]) (oV (oR [oM 5 0,oM 4 5]) .ret))
theorem zJS(h:U2)(k:Nat)(s:Int):WC Tryz.prog tb 132 [I k,I s] h fun r h'=>r=I (if true then(k:Int)else s)/\h=h':=by
 refine en 6 [(4,none)] zQO ?_;refine rt ?_;exact⟨rfl,rfl⟩
def zTs:U3:=(oV (oR [oK 4 (.slice none 0 0),oN 5 0]) (oV (oV (oR [oM 10 0,oM 11 1,o2 12 131 10 11,oM 9 12,oE 13 9 0,oE 14 9 1,oM 6 13,oM 7 14]) (oV (oR [oM 15 7,oC .neq 16 15 0]) (oJ 16 (oV (oR [oM 17 7,oK 4 (.slice none 0 0),oM 5 17]) .ret) .skip))) (oV (oR [oM 18 0,⟨some 19,none,(.build [(.slice none 0 0),(.bool false),.nilFunc,(.int .i64 0),(.slice none 0 0)] [(0,1,(.tmp 18)),(1,1,(.const (.bool true))),(2,1,(.func 132))])⟩,oX 20 19,oM 8 20]) (oV (oR [oM 21 8,oM 22 1,o2 23 133 21 22]) (oV (oR [oM 24 8,⟨some 25,none,(.nilCheck (.tmp 24))⟩,oF 4 26 25,oL 27 26,oM 4 27,oN 5 0]) .ret)))))
theorem zDI(h:U2)(vT:Value)(T:List U5)(k:Int)(st:Wv h vT T)(hT:T.length<=100)(hp:∀ x∈T,x.parts.length<=100)(hc:yq T=0)(hk:0<=k/\k<(T.length:Int))(hm:h.mark<=h.n):
  WC Tryz.prog tb 80 [vT,I k] h fun r h'=>(∃ v,r=.tuple #[v,I 0]/\WJ h h' v (yN T k.toNat))/\U8 h h':=by
 obtain⟨k,rfl⟩:∃ q:Nat,k=q:=⟨k.toNat,by omega⟩;obtain⟨t1,t2,t3,rfl⟩:=zF st;have hl:=zC4 hc;refine en 28 [(4,none),(5,none)] zTs ?_;refine VA (zPE h _ T k st hT hp hc hk) ?_;rintro _ h2 ⟨⟨v2,rfl,o2⟩,e2⟩;refine go ?_;refine VH ?_;intro p h3 e3 o3;obtain⟨gp,_,_,rfl,_⟩:=id o3;have e03:=e2.trans e3;have hpb:∀ g,Value.pointer (some ⟨gp,0,none⟩)=.pointer (some ⟨g,0,none⟩)->g<h3.n:=fun g e=>o3.within _ (by rw[e];rfl);have w:KW h h3 (.slice t1 t2 t3) (.pointer (some ⟨gp,0,none⟩)) (.slice none 0 0) h3.n true 132 0 []:=⟨o3.since e2,.inl ⟨rfl,rfl⟩,hpb,QE _,e03⟩;refine go ?_;refine VA (zSS h hm _ _ h3.n true 132 T st (by omega) zJS (k+1) k h3 _ 0 [] (by omega) (by omega) (fun j hj=>hl j (by omega)) (hl k (by omega)).1 w e03.n (by omega) (by omega) (by simp;omega)) ?_;rintro _ h4 ⟨vA,w4,k4⟩;have o4:=w4.own;refine gr ?_;exact⟨⟨vA,rfl,zET w4.lst e03.n⟩,w4.ext⟩
structure Wq where
 fn:Int
 nr:Int
 ty:Int
instance:Inhabited Wq:=⟨⟨0,0,0⟩⟩
def RSt(_:U2)(cs:List Value)(x:Wq):Prop:=cs=[I x.fn,I x.nr,I x.ty]
abbrev SlS(h:U2)(v:Value)(l:List Wq):Prop:=W4 3 RSt h v l
theorem Zt(h h':U2)(cs:List Value)(a:Wq)(r:RSt h cs a):RSt h' cs a:=r
theorem SlS.ext{h h' v l}(s:SlS h v l)(e:U8 h h'):SlS h' v l:=W4.ext (fun _ _ r=>Zt _ _ _ _ r) s e
def ZP(x:Wg):Bool:=decide (x.op=11)||decide (x.op=12)
def ZO(T:List U5)(f:Int):Int->List Wg->List Wq
 |_,[]=>[]
 |n,x::l=>(if ZP x then[⟨f,n,(T.getD x.ty.toNat default).elem⟩]else[])++ZO T f (n+1) l
def ZD(T:List U5)(f:Int):Int->List WW->List Wq
 |_,[]=>[]
 |n,b::l=>ZO T f n b.ins++ZD T f (n+b.ins.length) l
def ZQ(T:List U5):Int->List WP->List Wq
 |_,[]=>[]
 |f,g::l=>ZD T f ((T.getD g.sig.toNat default).parts.length:Int) g.blocks++ZQ T (f+1) l
def zn(T:List U5)(F:List WP):List Wq:=ZQ T 0 F
section
variable {T:List U5}{f:Int}
theorem zDf{x:Wg}:∀ {l:List Wg} {n:Int},ZO T f n (l++[x])=ZO T f n l++(if ZP x then[⟨f,n+l.length,(T.getD x.ty.toNat default).elem⟩]else[])
 |[],n=>by simp[ZO]
 |y::l,n=>by
  simp only[G7,ZO,zDf (l:=l),QZ,GT];congr 3;rw[show n+1+(l.length:Int)=n+((l.length+1:Nat):Int) by omega]
theorem zCD:∀ {l:List Wg} {n:Int},(ZO T f n l).length<=l.length
 |[],_=>QE _
 |x::l,n=>by
  have:=zCD (l:=l) (n:=n+1);simp only[ZO,QM,GT];split<;>simp<;>omega
theorem zDM{b:WW}:∀ {l:List WW} {n:Int},ZD T f n (l++[b])=ZD T f n l++ZO T f (n+zI l) b.ins
 |[],n=>by simp[ZD,zI]
 |c::l,n=>by
  simp only[G7,ZD,zDM (l:=l),QZ];rw[Zz,Int.add_assoc]
theorem zBx:∀ {l:List WW} {n:Int},((ZD T f n l).length:Int)<=zI l
 |[],_=>by simp[ZD,zI]
 |b::l,n=>by
  have h1:=zBx (l:=l) (n:=n+b.ins.length);have h2:=zCD (T:=T) (f:=f) (l:=b.ins) (n:=n);rw[Zz];simp only[ZD,QM];omega
theorem zDe{g:WP}:∀ {l:List WP} {f:Int},ZQ T f (l++[g])=ZQ T f l++ZD T (f+l.length) ((T.getD g.sig.toNat default).parts.length:Int) g.blocks
 |[],f=>by simp[ZQ]
 |c::l,f=>by
  simp only[G7,ZQ,zDe (l:=l),QZ,GT];congr 3;omega
theorem zCA:∀ {l:List WP} {f:Int},(∀ g∈l,zI g.blocks<=128)->(ZQ T f l).length<=128*l.length
 |[],_,_=>QE _
 |g::l,f,h=>by
  have h1:=zCA (l:=l) (f:=f+1) fun q hq=>h q (Qh _ hq);have h2:=zBx (T:=T) (f:=f) (l:=g.blocks) (n:=((T.getD g.sig.toNat default).parts.length:Int));have h3:=h g (Qc ..);simp only[ZQ,QM,GT];omega
end
theorem zA4:∀ l:List WW,0<=zI l
 |[]=>by simp[zI]
 |b::l=>by have:=zA4 l;rw[Zz];omega
theorem zFx(l:List WW)(j:Nat):0<=zI (l.take j)/\zI (l.take j)<=zI l:=by
 have h:zI l=zI (l.take j)+zI (l.drop j):=by
  conv=>lhs;rw[<-GH j l]
  unfold zI;rw[GA,Gu]
 have h1:=zA4 (l.take j);have h2:=zA4 (l.drop j);omega
theorem Zo{α:Type}[Inhabited α]{l:List α}{i:Nat}(h:i<l.length):l.take (i+1)=l.take i++[l.getD i default]:=by
 rw[Q4,QB h];simp[List.getD,QB h]
set_option maxRecDepth 100000
def zUj:U3:=(oV (oR [oZ 2]) (oV (oR [oM 3 0,oD .eql 4 3 11,oM 5 4,oH 5 (oM 6 0),oH 5 (oD .eql 7 6 12),oO 8 5 7,oM 2 8]) .ret))
theorem zPe(h:U2)(x:Wg):WC Tryz.prog tb 85 [.int .u8 x.op] h fun r h'=>r=.bool (ZP x)/\h=h':=by
 refine en 9 [(2,none)] zUj ?_;by_cases h1:x.op=11
 ·refine gr ?_;exact⟨by unfold ZP;simp[h1];rfl,rfl⟩
 ·refine gr ?_;exact⟨by unfold ZP;simp[h1];rfl,rfl⟩
def zNL:U3:=(oV (oR [oB .lss 37 36 35]) (oV (oT 37 4) (oV (o5 5 (oV (oR [oI 7 38 34 36,oA 7 39 38,⟨some 9,none,(.alloc [(.int .u8 0),(.int .i64 0),(.int .i64 0),(.int .i64 0),(.int .i64 0),(.slice none 0 0),(.slice none 0 0)])⟩,oS 7 9 39]) (oV (oV (oR [oF 0 40 9,oL 41 40,o1 42 85 41]) (oJ 42 (oR [oM 43 2,oM 44 3,oM 45 5,oF 0 46 1,oL 47 46,oF 1 48 9,oL 49 48,oI 4 50 47 49,oF 1 51 50,oL 52 51,⟨some 53,none,(.build [(.int .i64 0),(.int .i64 0),(.int .i64 0)] [(0,1,(.tmp 44)),(1,1,(.tmp 45)),(2,1,(.tmp 52))])⟩,⟨some 54,none,(.buildSlice 1 3 [(.int .i64 0),(.int .i64 0),(.int .i64 0)] [(0,3,(.tmp 53))])⟩,oY 3 55 43 54,oM 2 55]) .skip)) (oR [oM 56 5,oC .add 57 56 1,oM 5 57])))) (oR [oC .add 58 36 1,oM 36 58]))))
def zPb:U3:=(oV (oR [oB .lss 30 29 28]) (oV (oT 30 2) (oV (o5 3 (oV (oR [oI 5 31 27 29,oA 5 32 31,⟨some 7,none,(.alloc [(.slice none 0 0),(.int .u8 0),(.int .i64 0),(.int .i64 0),(.int .i64 0)])⟩,oS 5 7 32]) (oV (oR [oF 0 33 7,oL 34 33,oQ 35 34,oN 36 0]) (o5 4 (.loop zNL))))) (oR [oC .add 59 29 1,oM 29 59]))))
def zPn:U3:=(oV (oR [oB .lss 14 13 12]) (oV (oT 14 0) (oV (o5 1 (oV (oR [oM 15 13,oI 2 16 11 13,oA 2 17 16,⟨some 4,none,(.alloc [(.int .i64 0),(.slice none 0 0)])⟩,oM 3 15,oS 2 4 17]) (oV (oR [oF 0 18 1,oL 19 18,oF 0 20 4,oL 21 20,oI 4 22 19 21,oF 3 23 22,oL 24 23,oQ 25 24,oM 5 25]) (oV (oR [oF 1 26 4,oL 27 26,oQ 28 27,oN 29 0]) (o5 2 (.loop zPb)))))) (oR [oC .add 60 13 1,oM 13 60]))))
def zUi:U3:=(oV (oR [oX 1 0,oK 2 (.slice none 0 0)]) (oV (oV (oR [oF 1 10 1,oL 11 10,oQ 12 11,oN 13 0]) (o5 0 (.loop zPn))) (oV (oR [oM 61 2,oM 2 61]) .ret)))
theorem zNV(h:U2)(vt vf:Value)(T:List U5)(F:List WP)(E:Env h vt vf T F)(hsig:∀ g∈F,0<=g.sig/\g.sig<(T.length:Int))(hmy:∀ g∈F,zI g.blocks<=128)(hF:F.length<=8)
  (hty:∀ g∈F,∀ B∈g.blocks,∀ x∈B.ins,ZP x=true->0<=x.ty/\x.ty<(T.length:Int)):
  WC Tryz.prog tb 49 [.agg #[vt,vf]] h fun r h'=>WR 3 RSt h.n h' r (zn T F)/\U8 h h':=by
 have hslen:∀ i,(ZQ T 0 (F.take i)).length<=1024:=fun i=>by
  have:=zCA (T:=T) (l:=F.take i) (f:=0) fun g hg=>hmy g (GF hg);have h2:(F.take i).length<=F.length:=by rw[Q8];omega
  omega
 have sm:=E.sm;have hF':=sm.funcs;replace hslen:=Wa.mk hslen;replace hsig:=Wa.mk hsig;replace hmy:=Wa.mk hmy;replace hty:=Wa.mk hty;have st0:=E.st;have sf0:=E.sf;obtain⟨t1,t2,t3,rfl⟩:=zF st0;obtain⟨f1,f2,f3,rfl⟩:=zF sf0;refine en 62 [(2,none)] zUi ?_;refine VH ?_;intro p h1 e1 o1;replace o1:U6 h h1 p [.slice t1 t2 t3,.slice f1 f2 f3]:=o1;have E1:=E.ext e1;have sf1:=E1.sf;refine go ?_;refine VD [14,15,16,17,4,3,18,19,20,21,22,23,24,25,5,26,27,28,29,30,31,32,7,33,34,35,36,37,38,39,9,40,41,42,43,44,45,46,47,48,49,50,51,52,53,54,55,2,56,57,5,58,36,59,29,60,13] (by kernel_rfl) (fun i=>F.length-i) (fun i t h2=>zB t 13=I i/\i<=F.length/\U8 h1 h2/\∃ v,zB t 2=v/\WR 3 RSt h1.n h2 v (ZQ T 0 (F.take i))) 0 ?_ ?_
 ·exact⟨WA,QT _,U8.refl _,.slice none 0 0,WA,.inl ⟨rfl,rfl⟩⟩
 rintro i t h2 hsame ⟨s13,hi,e2,v,s2,ov⟩;have o2:=o1.ext e2;have E2:=E1.ext e2;have sf2:=E2.sf;have st2:=E2.st;refine go ?_;refine VE (fun hb=> ?_) (fun hb=> ?_)<;>simp only[DB]at hb
 ·have hi':i<F.length:=by omega
  have hgm:=zJ (l:=F) (i:=i) hi';obtain⟨cs,⟨vb,rfl,sb,hlb⟩,px,hs⟩:=yA (i:=i) sf1 hi';have pc:=(px _ e2).1;have hsg:=hsig.out _ hgm;have hbl:=sm.blocks _ hgm;have hpl:=sm.parts _ (zJ (l:=T) (i:=(F.getD i default).sig.toNat) (by omega));have hsn:ZQ T 0 (F.take (i+1))=ZQ T 0 (F.take i)++ZD T i ((T.getD (F.getD i default).sig.toNat default).parts.length:Int) (F.getD i default).blocks:=by
   rw[Zo hi',zDe,Q8,Gj (by omega),Int.zero_add]
  have hinl:=sm.ins _ hgm;have htyg:=hty.out _ hgm;have hmyg:=hmy.out _ hgm;replace hinl:=Wa.mk hinl;replace htyg:=Wa.mk htyg;generalize F.getD i default=g at *;obtain⟨b1,b2,b3,rfl⟩:=zF sb;refine go ?_;refine WO.al ?_;intro p4 h3 e3 o3;refine go ?_;refine VG o3 e3 ?_;intro h4 e4 o4 _;have e14:=e2.trans e4;have sb4:=BF.ext sb e14;have st4:=st2.ext e4;have o14:=o2.ext e4;obtain⟨csT,⟨va,rfl,sa,hla⟩,pcT,hsT⟩:=ZL (i:=g.sig.toNat) st4 (by omega);obtain⟨a1,a2,a3,rfl⟩:=Wb.shape sa;have ov4:=WR.ext ov e4;refine go ?_;refine VD [30,31,32,7,33,34,35,36,37,38,39,9,40,41,42,43,44,45,46,47,48,49,50,51,52,53,54,55,2,56,57,5,58,36,59,29] (by kernel_rfl) (fun j=>g.blocks.length-j) (fun j t h5=>zB t 29=I j/\j<=g.blocks.length/\U8 h1 h5/\zB t 5=I ((T.getD g.sig.toNat default).parts.length+zI (g.blocks.take j))/\∃ v,zB t 2=v/\WR 3 RSt h1.n h5 v (ZQ T 0 (F.take i)++ZD T i ((T.getD g.sig.toNat default).parts.length:Int) (g.blocks.take j))) 0 ?_ ?_
  ·exact⟨WA,QT _,e2.trans e4,by rw[show zI (g.blocks.take 0)=0 by simp[zI],Int.add_zero];exact WA,v,WA,by simpa [ZD]using ov4⟩
  rintro j t' h5 hsame' ⟨s29,hj,e5,s5,v',s2',ov'⟩;have o5:=o1.ext e5;have E5:=E1.ext e5;have sb5:=BF.ext sb e5;refine go ?_;refine VE (fun hb'=> ?_) (fun hb'=> ?_)<;>simp only[DB]at hb'
  ·have hj':j<g.blocks.length:=by omega
   have hBm:=zJ (l:=g.blocks) (i:=j) hj';obtain⟨csB,⟨vi,rfl,si,hli⟩,pxB,hsB⟩:=yA (i:=j) sb hj';have pcB:=(pxB _ e5).1;have hil:=hinl.out _ hBm;have hsnB:ZD T i ((T.getD g.sig.toNat default).parts.length:Int) (g.blocks.take (j+1))=ZD T i ((T.getD g.sig.toNat default).parts.length:Int) (g.blocks.take j)++ZO T i ((T.getD g.sig.toNat default).parts.length+zI (g.blocks.take j)) (g.blocks.getD j default).ins:=by
    rw[Zo hj',zDM]
   have hmB:zI (g.blocks.take (j+1))=zI (g.blocks.take j)+((g.blocks.getD j default).ins.length:Int):=by
    rw[Zo hj'];unfold zI;simp
   have hm0:0<=zI (g.blocks.take j)/\zI (g.blocks.take j)<=128:=by
    have:=zFx g.blocks j;omega
   have hsB:=zBx (T:=T) (f:=(i:Int)) (l:=g.blocks.take j) (n:=((T.getD g.sig.toNat default).parts.length:Int));have htyB:=htyg.out _ hBm;replace htyB:=Wa.mk htyB;generalize g.blocks.getD j default=B at *;obtain⟨i1,i2,i3,rfl⟩:=zF si;refine go ?_;refine WO.al ?_;intro p7 h6 e6 o7;refine go ?_;refine VG o7 e6 ?_;intro h7 e7 o7 _;have e17:=e5.trans e7;have si7:=BW.ext si e17;have ov7:=WR.ext ov' e7;refine go ?_;refine VD [37,38,39,9,40,41,42,43,44,45,46,47,48,49,50,51,52,53,54,55,2,56,57,5,58,36] (by kernel_rfl) (fun q=>B.ins.length-q) (fun q t h8=>zB t 36=I q/\q<=B.ins.length/\U8 h1 h8/\zB t 5=I ((T.getD g.sig.toNat default).parts.length+zI (g.blocks.take j)+q)/\∃ v,zB t 2=v/\WR 3 RSt h1.n h8 v (ZQ T 0 (F.take i)++ZD T i ((T.getD g.sig.toNat default).parts.length:Int) (g.blocks.take j)++ZO T i ((T.getD g.sig.toNat default).parts.length+zI (g.blocks.take j)) (B.ins.take q))) 0 ?_ ?_
   ·exact⟨WA,QT _,e17,by rw[show((0:Nat):Int)=0 from rfl,Int.add_zero];exact WA,v',WA,by simpa [ZO]using ov7⟩
   rintro q t'' h8 hsame'' ⟨s36,hq,e8,s5'',v'',s2'',ov''⟩;have o8:=o1.ext e8;have si8:=BW.ext si e8;have st8:=(E1.ext e8).st;refine go ?_;refine VE (fun hb''=> ?_) (fun hb''=> ?_)<;>simp only[DB]at hb''
   ·have hq':q<B.ins.length:=by omega
    have hxm:=zJ (l:=B.ins) (i:=q) hq';obtain⟨csX,⟨xa,xf,rfl,sxa,sxf,hxa,hxf,ho⟩,pxX,hsX⟩:=yA (i:=q) si hq';have pcX:=(pxX _ e8).1;have hsnI:∀ n:Int,ZO T i n (B.ins.take (q+1))=ZO T i n (B.ins.take q)++(if ZP (B.ins.getD q default)then[⟨i,n+q,(T.getD (B.ins.getD q default).ty.toNat default).elem⟩]else[]):=fun n=>by
     rw[Zo hq',zDf,Q8,Gj (by omega)]
    have htyx:=htyB.out _ hxm;generalize B.ins.getD q default=x at *;obtain⟨xa1,xa2,xa3,rfl⟩:=Wb.shape sxa;obtain⟨xf1,xf2,xf3,rfl⟩:=Wb.shape sxf;refine go ?_;refine WO.al ?_;intro p9 h9 e9 o9;refine go ?_;refine VG (cs:=[.int .u8 x.op,I x.ty,I x.a,I x.b,I x.n,.slice xa1 xa2 xa3,.slice xf1 xf2 xf3]) o9 e9 ?_;intro h10 e10 o10 _;refine go ?_;refine VA (zPe h10 x) ?_;rintro _ _ ⟨rfl,rfl⟩;have e110:=e8.trans e10;cases hmk:ZP x with
    |true=>
     have hx:=htyx hmk;have o810:=o8.ext e10;have st10:=(E1.ext e110).st;obtain⟨csT,⟨ya,rfl,sya,hya⟩,pcT',hsT'⟩:=ZL (i:=x.ty.toNat) st10 (by omega);obtain⟨y1,y2,y3,rfl⟩:=Wb.shape sya;have hsI:=zCD (T:=T) (f:=(i:Int)) (l:=B.ins.take q) (n:=(T.getD g.sig.toNat default).parts.length+zI (g.blocks.take j));have hlq:(B.ins.take q).length<=q:=List.length_take_le _ _;have hsi:=hslen.out i;refine go ?_;refine Ui (hB:=h1) (b:=h1.n) (⟨i,(T.getD g.sig.toNat default).parts.length+zI (g.blocks.take j)+q,(T.getD x.ty.toNat default).elem⟩:Wq) (fun _=>False) (WR.ext ov'' e10) e110 (QE _) e110.n (by decide) (by simp only[QM];omega) (fun _ _ _=>rfl) (fun _ h=>h.elim) (fun _ _ _ _ h=>h) ?_;intro v12 h12 lit e12 o12 hn12 hk12;refine go ?_;refine zA (q+1) (by omega) ⟨Wx,by omega,e12,?_,v12,WA,?_⟩
     ·rw[show((T.getD g.sig.toNat default).parts.length:Int)+zI (g.blocks.take j)+((q+1:Nat):Int)=(T.getD g.sig.toNat default).parts.length+zI (g.blocks.take j)+q+1 by omega];exact WA
     ·rw[hsnI,hmk,QI rfl,<-QZ];exact o12
    |false=>
     refine go ?_;refine zA (q+1) (by omega) ⟨Wx,by omega,e110,?_,v'',WA,?_⟩
     ·rw[show((T.getD g.sig.toNat default).parts.length:Int)+zI (g.blocks.take j)+((q+1:Nat):Int)=(T.getD g.sig.toNat default).parts.length+zI (g.blocks.take j)+q+1 by omega];exact WA
     ·rw[hsnI,hmk];simpa using WR.ext ov'' e10
   ·have hqq:q=B.ins.length:=by omega
    subst hqq;rw[Q5]at ov'';refine go ?_;refine zA (j+1) (by omega) ⟨Wx,by omega,e8,?_,v'',WA,?_⟩
    ·rw[hmB,<-Int.add_assoc];exact WA
    ·rw[hsnB,<-QZ];exact ov''
  ·have hjj:j=g.blocks.length:=by omega
   subst hjj;rw[Q5]at ov';refine go ?_;refine zA (i+1) (by omega) ⟨Wx,by omega,e5,v',WA,?_⟩;rw[hsn];exact ov'
 ·have hii:i=F.length:=by omega
  subst hii;rw[Q5]at ov;refine gr ?_;exact⟨ov.base e1.n,e1.trans e2⟩
theorem zKS{T:List U5}{F:List WP}(hs:zc T F=0){f:Nat}(hf:f<F.length){b:Nat}(hb:b<(F.getD f default).blocks.length){i:Nat}(hi:i<((F.getD f default).blocks.getD b default).ins.length)(hm:ZP (((F.getD f default).blocks.getD b default).ins.getD i default)=true):
  Ws T 2 (((F.getD f default).blocks.getD b default).ins.getD i default).ty=true/\BI T (((F.getD f default).blocks.getD b default).ins.getD i default).ty:=by
 obtain⟨hp,hw⟩:=zk hs;have Z:=Bo hp (f:=(f:Int)) (by omega);have W:=(hw f (by omega) (by omega)).2.2 b (by omega) (by show(b:Int)<((F.getD ((f:Int)).toNat default).blocks.length:Int);rw[QU];omega);have h1:=W.1 i (by show i<(((F.getD ((f:Int)).toNat default).blocks.getD ((b:Int)).toNat default).ins.length);rw[QU,QU];exact hi);have hV:=Z.V ((F.getD f default).blocks.getD b default) (by show _∈(F.getD ((f:Int)).toNat default).blocks;rw[QU];exact zJ hb) _ (zJ hi);refine⟨?_,hV.ty⟩;unfold YI zEh at h1;have h2:=h1.2.1;rw[show((zL F f).getD ((b:Int)).toNat default).ins.getD i default=((F.getD f default).blocks.getD b default).ins.getD i default from by unfold zL;rw[QU,QU]]at h2;generalize((F.getD f default).blocks.getD b default).ins.getD i default=x at *;unfold ZP at hm;simp only[GB,QV]at hm;unfold zAs at h2;rw[QC (by omega),QC (by omega),QC (by omega),QI hm]at h2;exact h2
theorem Yd{α:Type}[Inhabited α]{l:List α}{x:α}(h:x∈l):∃ i,i<l.length/\l.getD i default=x:=by
 obtain⟨i,hi,rfl⟩:=List.getElem_of_mem h;exact⟨i,hi,by simp[List.getD,QB hi]⟩
def zUx:U3:=(oV (oR [oX 1 0,oK 2 (.slice none 0 0),oN 3 0]) (oV (oV (oR [oA 2 5 1,o1 6 16 5,oM 4 6]) (oV (oR [oM 7 4,oC .neq 8 7 0]) (oJ 8 (oV (oR [oM 9 4,oK 2 (.slice none 0 0),oM 3 9]) .ret) .skip))) (oV (oR [oA 2 10 1,o1 11 49 10,oM 2 11,oN 3 0]) .ret)))
theorem zH7(h:U2)(vt vf:Value)(T:List U5)(F:List WP)(E:Env h vt vf T F):
  WC Tryz.prog tb 25 [.agg #[vt,vf]] h fun r h'=>(∃ v,r=.tuple #[v,I (zc T F)]/\WR 3 RSt h.n h' v (if zc T F=0 then zn T F else[]))/\U8 h h':=by
 refine en 12 [(2,none),(3,none)] zUx ?_;refine VH ?_;intro p h1 e1 o1;replace o1:U6 h h1 p [vt,vf]:=o1;have E1:=E.ext e1;refine go ?_;refine VA (zFr h1 vt vf T F E1) ?_;rintro _ h2 ⟨rfl,e2⟩;have o2:=o1.ext e2;have E2:=E1.ext e2;by_cases hs:zc T F=0;case neg=>
  rw[QC hs];refine gr ?_;exact⟨⟨_,rfl,.inl ⟨rfl,rfl⟩⟩,e1.trans e2⟩
 rw[QI hs];obtain⟨hp,hw⟩:=zk hs;obtain⟨hc,hF1,hF8,hfn⟩:=yX hp;have hg:∀ g∈F,(0<=g.sig/\g.sig<(T.length:Int))/\zI g.blocks<=128:=fun g hg=>by
  obtain⟨i,hi,rfl⟩:=Yd hg;have Z:=Bo hp (f:=(i:Int)) (by omega);have h1:=Z.sig;have h2:=Z.many;unfold zL at h2;rw[QU]at h1 h2;exact⟨h1,h2⟩
 have hty:∀ g∈F,∀ B∈g.blocks,∀ x∈B.ins,ZP x=true->0<=x.ty/\x.ty<(T.length:Int):=fun g hg B hB x hx hm=>by
  obtain⟨f,hf,rfl⟩:=Yd hg;obtain⟨b,hb,rfl⟩:=Yd hB;obtain⟨i,hi,rfl⟩:=Yd hx;have:=zKS hs hf hb hi hm;refine this.2.resolve_left fun e=> ?_;have h1:=this.1;unfold Ws at h1;rw[e]at h1;cases h1
 have hsg:∀ g∈F,0<=g.sig/\g.sig<(T.length:Int):=fun g q=>(hg g q).1;have hmy:∀ g∈F,zI g.blocks<=128:=fun g q=>(hg g q).2;rw[hs];replace hg:=Wa.mk hg;replace hfn:=Wa.mk hfn;refine go ?_;refine VA (zNV h2 vt vf T F E2 hsg hmy hF8 hty) ?_;rintro v h3 ⟨ov,e3⟩;refine gr ?_;exact⟨⟨v,rfl,ov.base (e1.trans e2).n⟩,e1.trans (e2.trans e3)⟩
end
end Go.Proofs.YtmejfcakhpihlaaGreatDoor
