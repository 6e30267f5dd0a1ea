/- What functions of the program come to in the abstract machine, and plain laws about it; no statement of the seat is proved in this text. -/
import Derived.Test.YteekipjpghikkaaGreatDoorJa
import Derived.Test.YteekipjpghikkaaGreatDoorJc
import Derived.Test.YteekipjpghikkaaGreatDoorJd
import Derived.Test.YteekipjpghikkaaGreatDoorAmV
set_option linter.unusedVariables false
set_option linter.unusedSimpArgs false
set_option maxHeartbeats 2000000
namespace Go.Proofs.YteekipjpghikkaaGreatDoor
noncomputable section
open Go.Am
def PlT (T:List LType) (k:Int):Prop:=0<=k/\k<(T.length:Int)/\((T.getD k.toNat default).kind=1\/(T.getD k.toNat default).kind=2\/(T.getD k.toNat default).kind=3)
def zHv (T:List LType) (x:LType):Prop:=(∀ p∈x.parts,PlT T p)/\PlT T x.elem/\x.parts.length<=4/\x.many=0
def zLL (T:List LType) (x:LType) (k:Nat):Prop:=
 (x.kind=1/\x.elem=0/\x.many=0/\x.parts.length=0)\/
 (x.kind=2/\0<=x.elem/\x.elem<(T.length:Int)/\x.many=0/\x.parts.length=0)\/
 (x.kind=3/\zHv T x)\/
 (x.kind=4/\x.elem=0/\x.many=0/\1<=x.parts.length/\x.parts.length<=8/\∀ p∈x.parts,0<=p/\p<(k:Int))\/
 (x.kind=5/\0<=x.elem/\x.elem<(k:Int)/\1<=x.many/\x.many<=16/\x.parts.length=0)
def zBX (T:List LType) (k:Nat):Prop:=zLL T (T.getD k default) k
def ofF (T:List LType):Nat->Int->List Int
 |0,k=>[k]
 |n+1,k=>let x:=T.getD k.toNat default
  if x.kind=4 then (x.parts.map (ofF T n)).flatten else if x.kind=5 then (List.replicate x.many.toNat (ofF T n x.elem)).flatten else [k]
def ofL (T:List LType) (k:Nat):List Int:=ofF T (k+1) k
def zRo (T:List LType) (k:Nat):Prop:=∀ j,j<k->zBX T j/\(ofL T j).length<=32
theorem zIn {T:List LType}:∀ (n m:Nat) (k:Nat),k<n->k<m->(∀ j,j<=k->zBX T j)->ofF T n k=ofF T m k:=by
 intro n;induction n with
 |zero=>intro m k h;omega
 |succ n ih=>
  intro m k h1 h2 hM;obtain⟨m,rfl⟩:∃ q,m=q+1:=⟨m - 1,by omega⟩;have hk:=hM k (QF _);unfold ofF;simp only[GQ];split
  ·rename_i h4;congr 1;refine G6 fun p hp=> ?_;unfold zBX zLL at hk;have hp':0<=p/\p<(k:Int):=by
    rcases hk with h|h|h|h|h
    ·omega
    ·omega
    ·omega
    ·exact h.2.2.2.2.2 p hp
    ·omega
   obtain⟨q,rfl⟩:∃ q:Nat,p=q:=⟨p.toNat,by omega⟩;exact ih m q (by omega) (by omega) fun j hj=>hM j (by omega)
  ·split
   ·rename_i h4 h5;unfold zBX zLL at hk;have hp':0<=(T.getD k default).elem/\(T.getD k default).elem<(k:Int):=by omega
    obtain⟨q,hq⟩:∃ q:Nat,(T.getD k default).elem=q:=⟨(T.getD k default).elem.toNat,by omega⟩;rw[hq,ih m q (by omega) (by omega) fun j hj=>hM j (by omega)]
   ·rfl
theorem zJD {T:List LType} {k:Nat} (hM:∀ j,j<=k->zBX T j):ofL T k=let x:=T.getD k default
  if x.kind=4 then (x.parts.map fun p=>ofL T p.toNat).flatten else if x.kind=5 then (List.replicate x.many.toNat (ofL T x.elem.toNat)).flatten else [(k:Int)]:=by
 have hk:=hM k (QF _);unfold zBX zLL at hk;unfold ofL;rw[ofF];simp only[GQ];split
 ·rename_i h4;congr 1;refine G6 fun p hp=> ?_;have hp':0<=p/\p<(k:Int):=by
   rcases hk with h|h|h|h|h
   ·omega
   ·omega
   ·omega
   ·exact h.2.2.2.2.2 p hp
   ·omega
  obtain⟨q,rfl⟩:∃ q:Nat,p=q:=⟨p.toNat,by omega⟩;exact zIn _ _ q (by omega) (by omega) fun j hj=>hM j (by omega)
 ·split
  ·rename_i h4 h5;have hp':0<=(T.getD k default).elem/\(T.getD k default).elem<(k:Int):=by omega
   obtain⟨q,hq⟩:∃ q:Nat,(T.getD k default).elem=q:=⟨(T.getD k default).elem.toNat,by omega⟩;rw[hq,GQ,zIn k (q+1) q (by omega) (by omega) fun j hj=>hM j (by omega)]
  ·rfl
theorem zAt {m:Int} {l:List Int}:yp m l=true↔∀ p∈l,0<=p/\p<m:=by
 unfold yp;rw[QY];simp
theorem zIS {x:LType}:Zr x=true↔x.kind=1\/x.kind=2\/x.kind=3:=by
 unfold Zr;simp;omega
theorem zN2 (l:List Int) (f:Int->List Int):((l.map f).flatten.length:Int)=(l.map fun p=>((f p).length:Int)).sum:=by
 induction l with
 |nil=>rfl
 |cons a l ih=>simp only[Qh,Gu,QX,List.sum_cons,Int.natCast_add,ih]
theorem zRH (n:Nat) (l:List Int):(List.replicate n l).flatten.length=n * l.length:=by
 induction n with
 |zero=>simp
 |succ n ih=>rw[List.replicate_succ,Gu,QX,ih,Gj];omega
theorem zIt {T:List LType} {k:Nat} {s:List Int} (hk:k<T.length) (hl:zRo T k) (hs:s.length=k) (hv:∀ j,j<k->s.getD j 0=((ofL T j).length:Int)):
  ((ZQ T (T.getD k default) k s).2=true↔zBX T k/\(ofL T k).length<=32)/\((ZQ T (T.getD k default) k s).2=true->(ZQ T (T.getD k default) k s).1=((ofL T k).length:Int)):=by
 have hun:zBX T k->ofL T k=_:=fun h=>zJD fun j hj=>by
  by_cases e:j=k
  ·subst e;exact h
  ·exact(hl j (by omega)).1
 generalize hx:T.getD k default=x at *;have hM:zBX T k↔zLL T x k:=by unfold zBX;rw[hx]
 unfold zLL at hM;have plain1:x.kind=1->(yJ x=true↔x.elem=0/\x.many=0/\x.parts.length=0):=fun h=>by unfold yJ;simp[h,and_assoc]
 have plain2:x.kind=2->(yJ x=true↔x.many=0/\x.parts.length=0):=fun h=>by unfold yJ;simp[h]
 have plain3:x.kind=3->(yJ x=true↔x.many=0):=fun h=>by unfold yJ;simp[h]
 have plain4:x.kind=4->(yJ x=true↔x.elem=0/\x.many=0):=fun h=>by unfold yJ;simp[h]
 have plain5:x.kind=5->(yJ x=true↔x.parts.length=0):=fun h=>by unfold yJ;simp[h]
 by_cases h1:x.kind=1
 ·have e:ZQ T x k s=(1,yJ x):=by unfold ZQ;rw[QI h1]
  rw[e,plain1 h1];refine⟨⟨fun h=> ?_,fun h=> ?_⟩,fun h=> ?_⟩
  ·have:=hM.2 (.inl ⟨h1,h⟩);refine⟨this,?_⟩;rw[hun this];simp[h1]
  ·have:=hM.1 h.1;omega
  ·have:=hM.2 (.inl ⟨h1,h⟩);rw[hun this];simp[h1]
 by_cases h2:x.kind=2
 ·have e:ZQ T x k s=(1,yJ x&&yp T.length [x.elem]):=by unfold ZQ;rw[QD h1,QI h2]
  have e2:(yJ x&&yp T.length [x.elem])=true↔(x.many=0/\x.parts.length=0)/\0<=x.elem/\x.elem<(T.length:Int):=by
   rw[QJ,plain2 h2,zAt];simp
  rw[e,e2];have key:(x.many=0/\x.parts.length=0)/\0<=x.elem/\x.elem<(T.length:Int)->zBX T k:=fun h=>hM.2 (.inr (.inl ⟨h2,h.2.1,h.2.2,h.1.1,h.1.2⟩));refine⟨⟨fun h=>⟨key h,?_⟩,fun h=> ?_⟩,fun h=> ?_⟩
  ·rw[hun (key h)];simp[h2]
  ·have:=hM.1 h.1;omega
  ·rw[hun (key h)];simp[h2]
 by_cases h3:x.kind=3
 ·rw[zH8 h3];have e2:(yJ x&&decide (x.parts.length<=4)&&yp T.length (x.elem::x.parts)&&(x.elem::x.parts).all fun n=>Zr (T.getD n.toNat default))=true↔zHv T x:=by
   unfold zHv PlT;simp only[QJ,plain3 h3,Qb,zAt,QY,zIS,Qj];constructor
   ·rintro⟨⟨⟨a,b⟩,c⟩,d⟩;exact⟨fun p hp=>⟨(c p (.inr hp)).1,(c p (.inr hp)).2,d p (.inr hp)⟩,⟨(c _ (.inl rfl)).1,(c _ (.inl rfl)).2,d _ (.inl rfl)⟩,b,a⟩
   ·rintro⟨a,b,c,d⟩;refine⟨⟨⟨d,c⟩,?_⟩,?_⟩
    ·rintro p (rfl|hp)
     ·exact⟨b.1,b.2.1⟩
     ·exact⟨(a p hp).1,(a p hp).2.1⟩
    ·rintro p (rfl|hp)
     ·exact b.2.2
     ·exact(a p hp).2.2
  simp only[e2];have key:zHv T x->zBX T k:=fun h=>hM.2 (.inr (.inr (.inl ⟨h3,h⟩)));refine⟨⟨fun h=>⟨key h,?_⟩,fun h=> ?_⟩,fun h=> ?_⟩
  ·rw[hun (key h)];simp[h3]
  ·rcases hM.1 h.1 with h|h|h|h|h
   ·omega
   ·omega
   ·exact h.2
   ·omega
   ·omega
  ·rw[hun (key h)];simp[h3]
 by_cases h4:x.kind=4
 ·rw[zS0 h4];have e2:(yJ x&&yp k x.parts)=true↔(x.elem=0/\x.many=0)/\∀ p∈x.parts,0<=p/\p<(k:Int):=by
   rw[QJ,plain4 h4,zAt]
  by_cases hp:(yJ x&&yp k x.parts)=true
  ·rw[QI hp];have hp2:=e2.1 hp;have hsum:(x.parts.map fun n=>s.getD n.toNat 0).sum=(x.parts.map fun p=>((ofL T p.toNat).length:Int)).sum:=by
    congr 1;refine G6 fun p hpp=> ?_;have:=hp2.2 p hpp;exact hv p.toNat (by omega)
   have key:1<=x.parts.length/\x.parts.length<=8->zBX T k:=fun h=>hM.2 (.inr (.inr (.inr (.inl ⟨h4,hp2.1.1,hp2.1.2,h.1,h.2,hp2.2⟩))));have hlen:zBX T k->((ofL T k).length:Int)=(x.parts.map fun p=>((ofL T p.toNat).length:Int)).sum:=fun h=>by
    rw[hun h];simp only[h4,Qv];rw[zN2]
   simp only[QJ,Qb];refine⟨⟨fun h=> ?_,fun h=> ?_⟩,fun h=> ?_⟩
   ·have hk2:=key (by omega);have:=hlen hk2;exact⟨hk2,by omega⟩
   ·have:=hlen h.1;have h5:=hM.1 h.1;omega
   ·rw[hsum,hlen (key (by omega))]
  ·rw[QD hp];simp only[Qk,JL,false_implies,and_true];intro h;refine hp (e2.2 ?_);rcases hM.1 h.1 with h|h|h|h|h
   ·omega
   ·omega
   ·omega
   ·exact⟨⟨h.2.1,h.2.2.1⟩,h.2.2.2.2.2⟩
   ·omega
 by_cases h5:x.kind=5
 ·rw[zOI h5];have e2:(yJ x&&yp k [x.elem]&&decide (1<=x.many)&&decide (x.many<=16))=true↔x.parts.length=0/\(0<=x.elem/\x.elem<(k:Int))/\1<=x.many/\x.many<=16:=by
   simp only[QJ,plain5 h5,zAt,Qb];simp[and_assoc]
  by_cases hp:(yJ x&&yp k [x.elem]&&decide (1<=x.many)&&decide (x.many<=16))=true
  ·rw[QI hp];have hp2:=e2.1 hp;have key:zBX T k:=hM.2 (.inr (.inr (.inr (.inr ⟨h5,hp2.2.1.1,hp2.2.1.2,hp2.2.2.1,hp2.2.2.2,hp2.1⟩))));have hs1:=hv x.elem.toNat (by omega);have hlen:((ofL T k).length:Int)=x.many * s.getD x.elem.toNat 0:=by
    rw[hun key];simp only[h5,Qv];rw[QD (by omega),zRH,hs1,Int.natCast_mul,Int.toNat_of_nonneg (by omega)]
   simp only[Qb];rw[<-hlen];exact⟨⟨fun h=>⟨key,by omega⟩,fun h=>by omega⟩,fun _=>rfl⟩
  ·rw[QD hp];simp only[Qk,JL,false_implies,and_true];intro h;refine hp (e2.2 ?_);have:=hM.1 h.1;omega
 ·have e:ZQ T x k s=(1,false):=by unfold ZQ;rw[QD h1,QD h2,QD h3,QD h4,QD h5]
  rw[e];simp only[Qk,JL,false_implies,and_true];intro h;have:=hM.1 h.1;omega
theorem zKH {T:List LType}:∀ k,k<=T.length->(∀ s,Zm T k=some s->zRo T k/\s.length=k/\∀ j,j<k->s.getD j 0=((ofL T j).length:Int))/\(zRo T k->∃ s,Zm T k=some s):=by
 intro k;induction k with
 |zero=>exact fun _=>⟨fun s hs=>by cases hs;exact⟨fun j hj=>absurd hj (GG _),rfl,fun j hj=>absurd hj (GG _)⟩,fun _=>⟨[],rfl⟩⟩
 |succ k ih=>
  intro hk;obtain⟨i1,i2⟩:=ih (by omega);refine⟨fun s hs=> ?_,fun hl=> ?_⟩
  ·unfold Zm at hs;split at hs
   ·cases hs
   ·rename_i s0 h0;obtain⟨a,b,c⟩:=i1 s0 h0;obtain⟨m1,m2⟩:=zIt (T:=T) (k:=k) (by omega) a b c;split at hs
    ·rename_i hm;cases hs;have h1:=m1.1 hm;have h2:=m2 hm;refine⟨fun j hj=> ?_,by simp[b],fun j hj=> ?_⟩
     ·by_cases e:j=k
      ·subst e;exact h1
      ·exact a j (by omega)
     ·by_cases e:j=k
      ·subst e;rw[<-h2];simp[List.getD,<-b]
      ·rw[<-c j (by omega)];simp[List.getD,Qo (show j<s0.length by omega)]
    ·cases hs
  ·obtain⟨s0,h0⟩:=i2 fun j hj=>hl j (by omega);obtain⟨a,b,c⟩:=i1 s0 h0;obtain⟨m1,m2⟩:=zIt (T:=T) (k:=k) (by omega) a b c;unfold Zm;rw[h0];simp only;rw[QI (m1.2 (hl k (by omega)))];exact⟨_,rfl⟩
theorem zI2 {T:List LType}:ZR T=if 16<T.length then 4 else (open Classical in if zRo T T.length then 0 else 30):=by
 classical
 unfold ZR;split
 ·rfl
 ·obtain⟨i1,i2⟩:=zKH T.length (QF _);split
  ·rename_i s hs;rw[QI (i1 s hs).1]
  ·rename_i hs;rw[QD];intro h;obtain⟨s,h2⟩:=i2 h;rw[h2]at hs;cases hs
def zJb (op:Int):Prop:=(4<=op/\op<=10)\/op=15\/op=17
def zIN (op:Int):Prop:=zJb op\/op=13\/op=14\/op=16\/op=19\/op=21
def zFp (op:Int):Prop:=op=18\/op=19\/op=22
def zTJ (op:Int):Prop:=1<=op/\op<=22/\op≠13/\op≠17/\op≠21
theorem zCU {op:Int} (h:0<=op):((zo op).2.1=true↔zJb op)/\((zo op).1=true↔zIN op)/\((zo op).2.2.2.1=true↔zFp op)/\((zo op).2.2.2.2.2=true↔zTJ op)/\((zo op).2.2.2.2.1=true↔op=22)/\((zo op).2.2.1=true↔op=1\/op=3\/op=14\/op=18)/\(zo op=(false,false,false,false,false,false)↔op<1\/22<op):=by
 obtain⟨n,rfl⟩:=Int.eq_ofNat_of_zero_le h;by_cases hn:n<23
 ·clear h;unfold zIN zFp zTJ zJb;have hz:(List.range 23).all (fun (n:Nat)=>decide (zo (n:Int)=(false,false,false,false,false,false)) == decide ((n:Int)<1\/22<(n:Int)))=true:=by decide+kernel
  have hz:=QY.1 hz n (GH.2 hn);rw[beq_iff_eq,decide_eq_decide]at hz;refine⟨?_,?_,?_,?_,?_,?_,hz⟩<;>(clear hz;revert n;decide+kernel)
 ·have e:zo (n:Int)=(false,false,false,false,false,false):=by
   unfold zo;rw[List.getD,Gy (by simp only[hasT,Q2,Gh];omega)];rfl
  rw[e];unfold zIN zFp zTJ zJb;simp only[Qk,JL,true_iff];omega
def yg (x:LIns):List Int:=(if (zo x.op).1 then [x.a] else [])++((if (zo x.op).2.1 then [x.b] else [])++(if (zo x.op).2.2.2.1 then x.args else []))
def zL0 (x:LIns) (funcs:Int):Prop:=if x.op=1 then True else if x.op=3\/x.op=18 then 0<=x.n/\x.n<funcs else if x.op=14 then 0<=x.n/\x.n<8 else x.n=0
def Btw (l:List Int) (m:Int):Prop:=∀ p∈l,0<=p/\p<m
structure MayI (x:LIns) (s:LSz):Prop where
 op:1<=x.op/\x.op<=22
 uses:Btw (yg x) s.regs
 num:zL0 x s.funcs
 a:(zo x.op).1=true\/x.a=0
 b:(zo x.op).2.1=true\/x.b=0
 g:(zo x.op).2.2.2.1=true\/(x.args.length:Int)<=0
 ans:if (zo x.op).2.2.2.2.2 then 0<=x.ty/\x.ty<s.types else x.ty=0
 frm:if (zo x.op).2.2.2.2.1 then (x.frm.length:Int)=x.args.length/\1<=(x.frm.length:Int)/\(x.frm.length:Int)<=16/\Btw x.frm s.blocks else (x.frm.length:Int)=0/\(x.args.length:Int)<=4
theorem zER {l:List Int} {m:Int}:zFY l m=true↔Btw l m:=by
 unfold zFY zW Btw;simp[QY]
theorem zE7 {l k:List Int} {m:Int}:Btw (l++k) m↔Btw l m/\Btw k m:=by
 unfold Btw;constructor
 ·exact fun h=>⟨fun p hp=>h p (Qf.2 (.inl hp)),fun p hp=>h p (Qf.2 (.inr hp))⟩
 ·exact fun h p hp=>(Qf.1 hp).elim (h.1 p) (h.2 p)
theorem zJY {c:Bool} {l:List Int} {m:Int}:Btw (if c then l else []) m↔(c=true->Btw l m):=by
 cases c
 ·simp[Btw]
 ·simp
theorem zDs {a m:Int}:Btw [a] m↔zW a m=true:=by unfold Btw zW;simp
theorem zHl {x:LIns} {s:LSz} (ho:0<=x.op):zL0 x s.funcs↔Y5 x s=true/\((zo x.op).2.2.1=true\/x.n=0):=by
 obtain⟨_,_,_,_,_,hn,_⟩:=zCU ho;rw[hn];unfold zL0 Y5;by_cases h1:x.op=1
 ·simp[h1]
 by_cases h3:x.op=3\/x.op=18
 ·rw[QD h1,QI h3,QI h3,QJ,GF,GF];omega
 by_cases h14:x.op=14
 ·rw[QD h1,QD h3,QI h14,QD h3,QI h14,QJ,GF,GF];omega
 ·rw[QD h1,QD h3,QD h14,QD h3,QD h14];simp;omega
theorem zEO {x:LIns} {s:LSz} (ho:0<=x.op):zCr x s=true↔MayI x s:=by
 obtain⟨_,_,_,_,hf,_,hz⟩:=zCU ho;have hnum:=zHl (x:=x) (s:=s) ho;have key:MayI x s↔(1<=x.op/\x.op<=22)/\Btw (yg x) s.regs/\zL0 x s.funcs/\((zo x.op).1=true\/x.a=0)/\((zo x.op).2.1=true\/x.b=0)/\((zo x.op).2.2.2.1=true\/(x.args.length:Int)<=0)/\(if (zo x.op).2.2.2.2.2 then 0<=x.ty/\x.ty<s.types else x.ty=0)/\
   (if (zo x.op).2.2.2.2.1 then (x.frm.length:Int)=x.args.length/\1<=(x.frm.length:Int)/\(x.frm.length:Int)<=16/\Btw x.frm s.blocks else (x.frm.length:Int)=0/\(x.args.length:Int)<=4):=
  ⟨fun ⟨a,b,c,d,e,f,g,h⟩=>⟨a,b,c,d,e,f,g,h⟩,fun ⟨a,b,c,d,e,f,g,h⟩=>⟨a,b,c,d,e,f,g,h⟩⟩
 rw[key,hnum];unfold zCr zSO zKw zKM yg;simp only;have hz':(decide (zo x.op=(false,false,false,false,false,false))=false)↔(1<=x.op/\x.op<=22):=by
  rw[JH,hz];omega
 have hl0:Btw x.args s.regs\/¬(x.args.length:Int)<=0:=by
  by_cases h:(x.args.length:Int)<=0
  ·left;have:x.args=[]:=Ga (by omega);rw[this];exact fun p hp=>by cases hp
  ·exact .inr h
 rw[zE7,zE7,zJY,zJY,zJY,zDs,zDs];have hty:(zW x.ty s.types=true)↔0<=x.ty/\x.ty<s.types:=by unfold zW;simp
 rw[<-hz',<-hty,<-zER,<-zER];rw[<-zER]at hl0;generalize decide (zo x.op=(false,false,false,false,false,false))=Z at *;generalize zo x.op=q at *;obtain⟨A,B,N,G,R,S⟩:=q;simp only;generalize zW x.a s.regs=ba at *;generalize zW x.b s.regs=bb at *;generalize zFY x.args s.regs=bg at *;generalize Y5 x s=bn at *;generalize zW x.ty s.types=bt at *;generalize zFY x.frm s.blocks=bf at *;clear hz hf hnum key hz' hty;generalize x.args.length=la at *;generalize x.frm.length=lf at *;generalize x.a=a at *;generalize x.b=b at *;generalize x.n=n at *;generalize x.ty=ty at *;cases Z<;>simp only[Qq,Qp,QU,Qg,Qk,JL,false_and,not_false_eq_true,Bool.true_eq_false,Qd,QU,true_and];cases R
 ·cases A<;>cases B<;>cases N<;>cases G<;>cases S<;>simp<;>(constructor<;>intro h<;>simp_all<;>omega)
 ·cases A<;>cases B<;>cases N<;>cases G<;>cases S<;>simp<;>(constructor<;>intro h<;>simp_all<;>omega)
theorem zPh {x:LEnd} {s:LSz}:zA6 x s=true↔(x.kind=1/\x.a=0/\x.els=0/\Btw [x.to] s.blocks)\/(x.kind=2/\Btw [x.a] s.regs/\Btw [x.to,x.els] s.blocks)\/(x.kind=3/\x.to=0/\x.els=0/\Btw [x.a] s.regs):=by
 have h2:Btw [x.to,x.els] s.blocks↔zW x.to s.blocks=true/\zW x.els s.blocks=true:=by unfold Btw zW;simp
 rw[h2,zDs,zDs];unfold zA6;by_cases k1:x.kind=1
 ·simp[k1,and_assoc]
 by_cases k2:x.kind=2
 ·simp[k2,and_assoc]
 by_cases k3:x.kind=3
 ·simp[k3,and_assoc]
 ·simp[k1,k2,k3]
def yQ (x:LEnd):List Int:=if x.kind=2\/x.kind=3 then [x.a] else []
theorem zIA (L:List LBlk) (i:Nat):zt (L.take i)<=zt L:=by
 have h1:zt L=zt (L.take i)+zt (L.drop i):=by
  conv=>lhs;rw[<-Gb i L]
  unfold zt;rw[Gg,List.sum_append]
 have:=ZK (L.drop i);omega
structure FnOk (T:List LType) (F:List LFn) (f:Int) (L:List LBlk) (par:Int):Prop where
 f0:0<=f
 f1:f<(F.length:Int)
 prog:Zq T F=0
 ask:yl T F f=(par,0)
 isL:L=(F.getD f.toNat default).blocks
 par0:0<=par
 parl:par<=100
 len:1<=L.length/\L.length<=16
 many:zt L<=128
 ins:∀ b∈L,(b.ins.length:Int)<=128
 fn:fnL T F.length (F.getD f.toNat default)=true
def yL (par:Int) (L:List LBlk):Int:=par+zt L
structure InsU (x:LIns) (N n:Int):Prop where
 op:1<=x.op/\x.op<=22
 uses:∀ r∈yg x,0<=r/\r<N
 args:x.args.length<=20
 frm:x.frm.length<=20
 phi:x.op=22->x.frm.length=x.args.length/\(∀ r∈x.args,0<=r/\r<N)/\(∀ b∈x.frm,0<=b/\b<n)
 none:x.op≠22->x.frm.length=0
structure BlkU (b:LBlk) (N n:Int):Prop where
 ins:∀ x∈b.ins,InsU x N n
 ends:∀ r∈yQ b.fin,0<=r/\r<N
 next:∀ k∈Zd b.fin,0<=k/\k<n
theorem zO4 {x:LIns} {s:LSz} (h:zCr x s=true):1<=x.op/\x.op<=22:=by
 by_cases h0:0<=x.op
 ·exact((zEO h0).1 h).op
 ·exfalso;have he:zo x.op=(false,false,false,false,false,false):=by
   unfold zo;rw[show x.op.toNat=0 by omega];rfl
  unfold zCr zSO at h;rw[he]at h;simp at h
theorem zVL {x:LIns} {s:LSz} (h:zCr x s=true):InsU x s.regs s.blocks:=by
 have ho:=zO4 h;have m:=(zEO (by omega)).1 h;have ha:=zCU (op:=x.op) (by omega);have h22:(zo x.op).2.2.2.2.1=true↔x.op=22:=ha.2.2.2.2.1;have hg:(zo x.op).2.2.2.1=true↔zFp x.op:=ha.2.2.1;have hf:=m.frm;have hgl:=m.g;have hargs:(x.args.length:Int)<=16:=by
  split at hf
  ·omega
  ·omega
 have hfrm:(x.frm.length:Int)<=16:=by
  split at hf
  ·omega
  ·omega
 refine⟨ho,m.uses,by omega,by omega,fun e=> ?_,fun e=> ?_⟩
 ·rw[QI (h22.2 e)]at hf;refine⟨by omega,fun r hr=>m.uses r ?_,hf.2.2.2⟩;unfold yg;rw[show (zo x.op).2.2.2.1=true from hg.2 (by unfold zFp;omega),QI rfl];exact Qf.2 (.inr (Qf.2 (.inr hr)))
 ·rw[QD (fun q=>e (h22.1 q))]at hf;omega
theorem zU9 {b:LBlk} {s:LSz} (h:zCo b s=false):BlkU b s.regs s.blocks:=by
 unfold zCo at h;rw[Bool.or_eq_false_iff]at h;obtain⟨h1,h2⟩:=h;have h2:zA6 b.fin s=true:=by simpa using h2
 have he:=zPh.1 h2;refine⟨fun x hx=>zVL ?_,fun r hr=> ?_,fun k hk=> ?_⟩
 ·cases hi:zCr x s with
  |true=>rfl
  |false=>exact absurd h1 (by rw[JD.2 ⟨x,hx,by rw[hi];rfl⟩];simp)
 ·unfold yQ at hr;split at hr
  ·rw[QQ]at hr;subst hr;rcases he with ⟨e,_⟩|⟨e,q,_⟩|⟨e,_,_,q⟩
   ·omega
   ·exact q _ (by simp)
   ·exact q _ (by simp)
  ·cases hr
 ·unfold Zd at hk;rcases he with ⟨e,_,_,q⟩|⟨e,_,q⟩|⟨e,_⟩
  ·rw[QI e]at hk;exact q k hk
  ·rw[QD (by omega),QI e]at hk;split at hk
   ·exact q k (by rw[QQ]at hk;subst hk;simp)
   ·exact q k hk
  ·rw[QD (by omega),QD (by omega)]at hk;cases hk
theorem zUi {T:List LType} {nf:Int} {f:LFn} (h:fnL T nf f=true):∀ b∈f.blocks,BlkU b (yL ((T.getD f.sig.toNat default).parts.length:Int) f.blocks) f.blocks.length:=by
 intro b hb;unfold fnL at h;split at h
 ·cases h
 ·have h:(f.blocks.any fun b=>zCo b (szL T nf f))=false:=by simpa using h
  have:=zU9 (b:=b) (s:=szL T nf f) (by
   cases q:zCo b (szL T nf f)with
   |false=>rfl
   |true=>rw[JD.2 ⟨b,hb,q⟩]at h;cases h)
  exact this
theorem zOE {T:List LType} {n:Int} {f:LFn} (h:fnL T n f=true):1<=f.blocks.length/\f.blocks.length<=16/\zt f.blocks<=128:=by
 unfold fnL at h;split at h
 ·cases h
 ·rename_i hb;unfold zB8 at hb;simp only[GA,Gk,GF,not_or,Bool.not_eq_false]at hb;obtain⟨⟨⟨_,_⟩,h3⟩,h4⟩:=hb;unfold zW at h3;simp at h3;omega
theorem zUL {l:List LBlk} {b:LBlk} (h:b∈l):(b.ins.length:Int)<=zt l:=by
 induction l with
 |nil=>cases h
 |cons c l ih=>
  have hc:zt (c::l)=(c.ins.length:Int)+zt l:=by unfold zt;simp
  have hp:=ZK l;rw[hc];rcases Qj.1 h with rfl|h
  ·omega
  ·have:=ih h;omega
theorem zLE {T:List LType} {F:List LFn} {f:Int} (h:(yl T F f).2=0):0<=f/\f<(F.length:Int)/\Zq T F=0/\yl T F f=(((T.getD (F.getD f.toNat default).sig.toNat default).parts.length:Int),0):=by
 unfold yl at h |-;split at h
 ·rename_i hp;exact absurd h hp
 ·rename_i hp;rw[QD hp];split at h
  ·rename_i hb;rw[QI hb];unfold zW at hb;simp at hb;exact⟨hb.1,hb.2,by omega,rfl⟩
  ·cases h
theorem zRx {T:List LType} {F:List LFn} {f:Int} (sm:Small T F) (h:(yl T F f).2=0):FnOk T F f (F.getD f.toNat default).blocks ((T.getD (F.getD f.toNat default).sig.toNat default).parts.length:Int)/\
  ∀ b∈(F.getD f.toNat default).blocks,BlkU b (yL ((T.getD (F.getD f.toNat default).sig.toNat default).parts.length:Int) (F.getD f.toNat default).blocks) (F.getD f.toNat default).blocks.length:=by
 obtain⟨h0,h1,hp,ha⟩:=zLE h;have hmem:=zH (l:=F) (i:=f.toNat) (by omega);have hfn:=(zAP hp).2.2.2 _ hmem;have hl:=zOE hfn;refine⟨⟨h0,h1,hp,ha,rfl,by omega,?_,⟨hl.1,hl.2.1⟩,hl.2.2,fun b hb=>by have:=zUL hb;omega,hfn⟩,zUi hfn⟩;by_cases q:(F.getD f.toNat default).sig.toNat<T.length
 ·have:=sm.parts _ (zH (l:=T) q);omega
 ·rw[QE,Gy (by omega)];simp;decide
set_option maxRecDepth 100000
def zQs:ACode:=(oV (oR [oX 1 0,oK 2 (.slice none 0 0)]) (oV (oR [oF 0 4 1,oL 5 4,o1 6 43 5,⟨some 3,none,(.alloc [(.bool false),(.bool false),(.bool false),(.bool false),(.bool false),(.bool false)])⟩,oS 6 3 6]) (oV (oV (oR [oF 0 7 3,oL 8 7]) (oJ 8 (oR [oM 9 2,oF 2 10 1,oL 11 10,⟨some 12,none,(.buildSlice 1 1 [(.int .i64 0)] [(0,1,(.tmp 11))])⟩,oY 1 13 9 12,oM 2 13]) .skip)) (oV (oV (oR [oF 1 14 3,oL 15 14]) (oJ 15 (oR [oM 16 2,oF 3 17 1,oL 18 17,⟨some 19,none,(.buildSlice 1 1 [(.int .i64 0)] [(0,1,(.tmp 18))])⟩,oY 1 20 16 19,oM 2 20]) .skip)) (oV (oV (oR [oF 3 21 3,oL 22 21]) (oJ 22 (oR [oM 23 2,oF 5 24 1,oL 25 24,oY 1 26 23 25,oM 2 26]) .skip)) (oV (oR [oM 27 2,oM 2 27]) .ret))))))
theorem zIh (h:AHeap) (x:LIns) (cs:List Value) (hcs:RIns h cs x) (tt:Tbl h) (hx:x.args.length<=20):
  WC Tryz.prog tb 111 [.agg cs.toArray] h fun r h'=>OwnN h h' r (yg x)/\Ext h h':=by
 obtain⟨va,vfr,rfl,sa,sfr,hla,hlf,ho,ho2⟩:=hcs;obtain⟨aa,an,ak,rfl⟩:=SlC.shape sa;obtain⟨fa,fn,fk,rfl⟩:=SlC.shape sfr;refine en 28 [(2,none)] zQs ?_;refine WO.bx ?_;intro p h1 e1 o1;refine go ?_;refine WO.con (zPy h1 x.op (tt.ext e1) ho ho2) ?_;rintro _ h2 ⟨rfl,e2⟩;refine go ?_;refine WO.al ?_;intro p3 h3 e3 o3;refine go ?_;refine WO.stC0 (cs:=YG (zo x.op)) o3 e3 ?_;intro h4 e4 o4 u4;have e14:=e2.trans e4;have o1:=o1.ext e14;have sa4:=SlI.ext sa (e1.trans e14);have o4:=o4.since e2;have o4:=o4.since e1;have e04:=e1.trans e14;clear e1 e2 e3 e4 u4 e14 o3;unfold yg;generalize zo x.op=q at *;obtain⟨qa,qb,qn,qg,qf,qt⟩:=q;simp only;refine go ?_;refine WX.cutA [9,10,11,12,13,2] (by kernel_rfl) (fun t h'=>Ext h4 h'/\∃ w,zB t 2=w/\OwnN h4 h' w (if qa then [x.a] else [])) ?_ ?_
 ·cases qa with
  |true=>
   refine go ?_;refine WO.bl [x.a] ?_;intro v h2 e2 o2;refine go ?_;refine WO.apN (v:= .slice none 0 0) (xs:=[]) (h0:=h4) (.inl ⟨rfl,rfl⟩) o2.sl e2 (by simp) ?_;intro v3 h3 e3 o3;refine go ?_;exact zE ⟨e3,v3,sl_,o3⟩
  |false=>
   refine go ?_;exact zE ⟨Ext.refl _,_,sl_,.inl ⟨rfl,rfl⟩⟩
 rintro t2 h2 hs2 ⟨e2,w2,q2,ow2⟩;have o2:=o1.ext e2;have o42:=o4.ext e2;have l2:(if qa then [x.a] else []).length<=1:=by split<;>simp
 generalize (if qa then [x.a] else [])=lA at *;refine go ?_;refine WX.cutA [16,17,18,19,20,2] (by kernel_rfl) (fun t h'=>Ext h4 h'/\∃ w,zB t 2=w/\OwnN h4 h' w (lA++if qb then [x.b] else [])) ?_ ?_
 ·cases qb with
  |true=>
   refine go ?_;refine WO.bl [x.b] ?_;intro v h3 e3 o3;refine go ?_;refine WO.apN (OwnN.ext ow2 e3) o3.sl (e2.trans e3) (by simp only[Qa];omega) ?_;intro v4 h5 e5 o5;refine go ?_;exact zE ⟨e5,v4,sl_,o5⟩
  |false=>
   refine go ?_;exact zE ⟨e2,_,sl_,by simpa using ow2⟩
 rintro t3 h3 hs3 ⟨e3,w3,q3,ow3⟩;have o3:=o1.ext e3;have o43:=o4.ext e3;have sa3:=SlI.ext sa4 e3;have l3:(lA++if qb then [x.b] else []).length<=2:=by rw[QX];split<;>simp<;>omega
 rw[<-GC];generalize (lA++if qb then [x.b] else [])=lB at *;refine go ?_;cases qg with
 |true=>
  refine go ?_;refine WO.apN ow3 sa3 e3 (by omega) ?_;intro v5 h5 e5 o5;refine gr ?_;exact⟨o5.since e04,e04.trans e5⟩
 |false=>
  refine gr ?_;subst q3;rw[QD (by simp),Gz];exact⟨ow3.since e04,e04.trans e3⟩
def zUU:ACode:=(oV (oR [oX 1 0,oK 2 (.slice none 0 0)]) (oV (oV (oR [oF 0 3 1,oL 4 3,oD .eql 5 4 2,oM 6 5,oH 6 (oF 0 7 1),oH 6 (oL 8 7),oH 6 (oD .eql 9 8 3),oO 10 6 9]) (oJ 10 (oV (oR [oF 1 11 1,oL 12 11,⟨some 13,none,(.buildSlice 1 1 [(.int .i64 0)] [(0,1,(.tmp 12))])⟩,oM 2 13]) .ret) .skip)) (oV (oR [oK 2 (.slice none 0 0)]) .ret)))
theorem zE1 (h:AHeap) (x:LEnd):WC Tryz.prog tb 86 [.agg #[.int .u8 x.kind,I x.a,I x.to,I x.els]] h fun r h'=>OwnN h h' r (yQ x)/\Ext h h':=by
 refine en 14 [(2,none)] zUU ?_;refine WO.bx ?_;intro p h1 e1 o1;unfold yQ;by_cases c2:x.kind=2
 ·rw[QI (.inl c2)];refine go ?_;refine WO.bl [x.a] ?_;intro v h2 e2 o2;refine gr ?_;exact⟨.inr (o2.since e1),e1.trans e2⟩
 by_cases c3:x.kind=3
 ·rw[QI (.inr c3)];refine go ?_;refine WO.bl [x.a] ?_;intro v h2 e2 o2;refine gr ?_;exact⟨.inr (o2.since e1),e1.trans e2⟩
 rw[QD (by simp[c2,c3])];refine gr ?_;exact⟨.inl ⟨rfl,rfl⟩,e1⟩
set_option maxRecDepth 100000
def zTX:ACode:=(oV (oR [oK 2 (.slice none 0 0)]) (oV (oV (oR [oM 3 0,⟨some 4,none,(.isNil 0 false (.tmp 3))⟩]) (oJ 4 (oV (oR [oK 2 (.slice none 0 0)]) .ret) .skip)) (oV (oR [⟨some 5,none,(.buildSlice 0 1 [(.int .i64 0)] [])⟩,oM 6 0,oY 1 7 5 6,oM 2 7]) .ret)))
theorem zIC (h:AHeap) (v:Value) (l:List Int) (s:SlI h v l) (hl:l.length<=1000000):WC Tryz.prog tb 55 [v] h fun r h'=>OwnN h h' r l/\Ext h h':=by
 refine en 8 [(2,none)] zTX ?_;obtain⟨a,n,k,rfl⟩:=SlC.shape s;cases a with
 |none=>
  have hn:l=[]:=by
   rcases s.2 with ⟨h0,_⟩|⟨g,off,row,hv,_⟩
   ·exact Gi.1 h0
   ·cases hv
  subst hn;refine go ?_;refine WX.br (fun hb=> ?_) (fun hb=> ?_)
  ·refine gr ?_;exact⟨.inl ⟨rfl,rfl⟩,Ext.refl _⟩
  ·exact absurd hb (by simp)
 |some a=>
  refine go ?_;refine WX.br (fun hb=> ?_) (fun hb=> ?_)
  ·exact absurd hb (by simp)
  ·refine go ?_;refine WO.bl [] ?_;intro v1 h1 e1 o1;have s1:=SlI.ext s e1;refine go ?_;refine WO.apN (.inr o1) s1 e1 (by simp only[Gh];omega) ?_;intro v2 h2 e2 o2;refine gr ?_;exact⟨o2,e2⟩
set_option maxRecDepth 100000
theorem zJf {k:Int} (h0:0<=k) (h:k<4294967296):zd .and (.int .u64 k) (.int .u64 4294967295)=some (.int .u64 k):=by
 have e:(BitVec.ofInt 64 k&&& BitVec.ofInt 64 4294967295).toNat=k.toNat:=by
  rw[BitVec.toNat_and,show (BitVec.ofInt 64 4294967295).toNat=2 ^ 32 - 1 from rfl,Nat.and_two_pow_sub_one_eq_mod,BitVec.toNat_ofInt];omega
 simp only[zd,ne_eq,not_true_eq_false,Gp];rw[show ((BitVec.ofInt (IntKind.bits .u64) k&&& BitVec.ofInt (IntKind.bits .u64) 4294967295).toNat)=k.toNat from e,show ((k.toNat:Nat):Int)=k by omega,ZM h0 (by omega)];rfl
theorem zEC {k:Int} (h0:0<=k) (h:k<4294967296):zd .shr (.int .u64 k) (.int .u64 32)=some (.int .u64 0):=by
 have e:(min (32:Int).toNat IntKind.u64.bits)=32:=rfl;simp only[zd,e];rw[QD (by decide),Int.fdiv_eq_ediv_of_nonneg _ (by decide),show k / 2 ^ 32=0 by omega]
theorem zD9 {a b c:Int} (e:a * b=c) (h0:0<=c) (h:c<18446744073709551616):zd .mul (.int .u64 a) (.int .u64 b)=some (.int .u64 c):=by
 subst e;simp only[zd,ne_eq,not_true_eq_false,Gp,Qv];rw[ZM h0 h]
theorem zHO {a b c:Int} (e:a+b=c) (h0:0<=c) (h:c<18446744073709551616):zd .add (.int .u64 a) (.int .u64 b)=some (.int .u64 c):=by
 subst e;simp only[zd,ne_eq,not_true_eq_false,Gp,Qv];rw[ZM h0 h]
def zRz:ACode:=(oV (oR [oK 4 (.int .u64 0),oK 5 (.int .u64 0)]) (oV (oR [oM 14 0,⟨some 15,none,(.bin .and (.tmp 14) (.const (.int .u64 4294967295)))⟩,oM 6 15]) (oV (oR [oM 16 0,⟨some 17,none,(.bin .shr (.tmp 16) (.const (.int .u64 32)))⟩,oM 7 17]) (oV (oR [oM 18 1,⟨some 19,none,(.bin .and (.tmp 18) (.const (.int .u64 4294967295)))⟩,oM 8 19]) (oV (oR [oM 20 1,⟨some 21,none,(.bin .shr (.tmp 20) (.const (.int .u64 32)))⟩,oM 9 21]) (oV (oR [oM 22 6,oM 23 8,oB .mul 24 22 23,oM 10 24]) (oV (oR [oM 25 7,oM 26 8,oB .mul 27 25 26,oM 28 10,⟨some 29,none,(.bin .shr (.tmp 28) (.const (.int .u64 32)))⟩,oB .add 30 27 29,oM 11 30]) (oV (oR [oM 31 11,⟨some 32,none,(.bin .and (.tmp 31) (.const (.int .u64 4294967295)))⟩,oM 12 32]) (oV (oR [oM 33 11,⟨some 34,none,(.bin .shr (.tmp 33) (.const (.int .u64 32)))⟩,oM 13 34]) (oV (oR [oM 35 12,oM 36 6,oM 37 9,oB .mul 38 36 37,oB .add 39 35 38,oM 12 39]) (oV (oR [oM 40 7,oM 41 9,oB .mul 42 40 41,oM 43 13,oB .add 44 42 43,oM 45 12,⟨some 46,none,(.bin .shr (.tmp 45) (.const (.int .u64 32)))⟩,oB .add 47 44 46,oM 4 47]) (oV (oR [oM 48 0,oM 49 1,oB .mul 50 48 49,oM 5 50]) .ret))))))))))))
theorem zP2 (h:AHeap) (k:Nat) (hk:k<4294967296):WC Tryz.prog tb 150 [.int .u64 1,.int .u64 k] h fun r h'=>r= .tuple #[.int .u64 0,.int .u64 k]/\h=h':=by
 have k0:(0:Int)<=k:=by omega
 have k1:(k:Int)<4294967296:=by omega
 refine en 51 [(4,none),(5,none)] zRz ?_;refine WO.bin zJ zJ (zJf (by omega) (by omega)) ?_;refine go ?_;refine WO.bin zJ zJ (zEC (by omega) (by omega)) ?_;refine go ?_;refine WO.bin zJ zJ (zJf k0 k1) ?_;refine go ?_;refine WO.bin zJ zJ (zEC k0 k1) ?_;refine go ?_;refine WO.bin zJ zJ (zD9 (Int.one_mul _) k0 (by omega)) ?_;refine go ?_;refine WO.bin zJ zJ (zD9 (Int.zero_mul _) (Qi 0) (by omega)) ?_;refine go ?_;refine WO.bin zJ zJ (zEC k0 k1) ?_;refine go ?_;refine WO.bin zJ zJ (zHO rfl (by omega) (by omega)) ?_;refine go ?_;refine WO.bin zJ zJ (zJf (by omega) (by omega)) ?_;refine go ?_;refine WO.bin zJ zJ (zEC (by omega) (by omega)) ?_;refine go ?_;refine WO.bin zJ zJ (zD9 rfl (by omega) (by omega)) ?_;refine go ?_;refine WO.bin zJ zJ (zHO rfl (by omega) (by omega)) ?_;refine go ?_;refine WO.bin zJ zJ (zD9 rfl (by omega) (by omega)) ?_;refine go ?_;refine WO.bin zJ zJ (zHO rfl (by omega) (by omega)) ?_;refine go ?_;refine WO.bin zJ zJ (zEC (by omega) (by omega)) ?_;refine go ?_;refine WO.bin zJ zJ (zHO rfl (by omega) (by omega)) ?_;refine go ?_;refine WO.bin zJ zJ (zD9 (Int.one_mul _) k0 (by omega)) ?_;refine gr ?_;exact⟨rfl,rfl⟩
def zTN:ACode:=(oV (oR [oK 4 (.int .u64 0),oK 5 (.int .u64 0)]) (oV (.cond (.const (.bool false)) (oV (oR [oM 11 0,⟨some 12,none,(.conv .u32 (.tmp 11))⟩,oM 13 1,⟨some 14,none,(.conv .u32 (.tmp 13))⟩,o2 15 149 12 14,oM 10 15,oE 16 10 0,oE 17 10 1,oM 6 16,oM 7 17]) (oV (oR [oM 18 6,⟨some 19,none,(.conv .u64 (.tmp 18))⟩,oM 20 7,⟨some 21,none,(.conv .u64 (.tmp 20))⟩,oM 4 19,oM 5 21]) .ret)) .skip) (oV (oR [oM 23 0,oM 24 1,o2 25 150 23 24,oM 22 25,oE 26 22 0,oE 27 22 1,oM 8 26,oM 9 27]) (oV (oR [oM 28 8,oM 29 9,oM 4 28,oM 5 29]) .ret))))
theorem zP6 (h:AHeap) (k:Nat) (hk:k<4294967296):WC Tryz.prog tb 94 [.int .u64 1,.int .u64 k] h fun r h'=>r= .tuple #[.int .u64 0,.int .u64 k]/\h=h':=by
 refine en 30 [(4,none),(5,none)] zTN ?_;refine WO.con (zP2 h k hk) ?_;rintro _ _ ⟨rfl,rfl⟩;refine gr ?_;exact⟨rfl,rfl⟩
theorem zGK {z:List Value}:∀ {m n:Nat},m<=n->(zV z n).take (m * z.length)=zV z m
 |0,n,_=>by simp[zV]
 |m+1,0,h=>by omega
 |m+1,n+1,h=>by
  show (z++zV z n).take _=z++zV z m;rw[show (m+1) * z.length=z.length+m * z.length by rw[Gq];omega,List.take_length_add_append,zGK (by omega)]
theorem zBL {z:List Value}:∀ {m n:Nat},(zV z n).drop (m * z.length)=zV z (n - m)
 |0,n=>by simp
 |m+1,0=>by simp[zV]
 |m+1,n+1=>by
  show (z++zV z n).drop _=_;rw[show (m+1) * z.length=z.length+m * z.length by rw[Gq];omega,List.drop_length_add_append,zBL (m:=m) (n:=n),show n+1 - (m+1)=n - m by omega]
theorem zIW {z:List Value}:∀ {m n:Nat},zV z m++zV z n=zV z (m+n)
 |0,n=>by simp[zV]
 |m+1,n=>by
  show (z++zV z m)++zV z n=_;rw[GC,zIW,show m+1+n=(m+n)+1 by omega];rfl
def zAx (z w:List Value) (n k:Nat):List Value:=zV w n++zV z (k - n)
theorem zOM {z w:List Value} {n k m:Nat} (hw:w.length=z.length) (hm:m<=n) (hk:n+m<=k):zX (zAx z w n k) (n * z.length) ((zV w n).take (m * z.length))=zAx z w (n+m) k:=by
 have h1:(zV w n).length=n * z.length:=by rw[zj,hw]
 have h3:(zV w n).take (m * z.length)=zV w m:=by rw[<-hw];exact zGK hm
 have h2:(zV w m).length=m * z.length:=by rw[zj,hw]
 unfold zX zAx;rw[h3,h2];rw[show List.take (n * z.length) (zV w n++zV z (k - n))=zV w n by rw[<-h1];exact List.take_left];rw[show n * z.length+m * z.length=(zV w n).length+m * z.length by rw[h1],List.drop_length_add_append,zBL,<-zIW,show k - n - m=k - (n+m) by omega]
theorem zLR {c g off len n:Nat} (hn:n<=len):ZL c (.slice (some ⟨g,off,none⟩) len c) none (some n) none=some (.slice (some ⟨g,off,none⟩) n c):=by
 have b1:Nat.ble 0 n=true:=QH (QV _);have b2:Nat.ble n len=true:=QH hn;simp only[ZL,Gn,Q7,b1,b2,Qs,Qu,cond_true,Ge,Nat.zero_mul,Nat.add_zero,Nat.sub_zero]
theorem zKf {w:List Value} (h:zN w=true):∀ n,zN (zV w n)=true
 |0=>rfl
 |n+1=>by
  have:=zKf h n;unfold zN at *;show (w++zV w n).all _=true;rw[List.all_append,h,this];rfl
def zOs:ACode:=(oV (oV (oR [oM 34 8,oM 35 7,oQ 36 35,oB .lss 37 34 36]) (oT 37 0)) (o5 1 (o6 [oM 38 8,oM 39 7,oM 40 8,(⟨some 41,none,(.slice 2 (.tmp 39) (some (.tmp 40)) none none)⟩,[]),oM 42 7,oM 43 8,(⟨some 44,none,(.slice 2 (.tmp 42) none (some (.tmp 43)) none)⟩,[]),(⟨some 45,none,(.copy 2 (.tmp 41) (.tmp 44))⟩,[]),oB .add 46 38 45,oM 8 46])))
def zTh:ACode:=(oV (oR [oK 4 (.slice none 0 0)]) (oV (oV (oR [oM 9 1,oC .lss 10 9 0]) (oJ 10 (oR [⟨some 11,none,(.mkIface 9 (.const (.string ⟨#[99,97,110,110,111,116,32,98,101,32,110,101,103,97,116,105,118,101]⟩)))⟩,⟨none,none,.stuck⟩]) .skip)) (oV (oR [oM 13 0,oQ 14 13,⟨some 15,none,(.conv .u64 (.tmp 14))⟩,oM 16 1,⟨some 17,none,(.conv .u64 (.tmp 16))⟩,o2 18 94 15 17,oM 12 18,oE 19 12 0,oE 20 12 1,oM 5 19,oM 6 20]) (oV (oV (oR [oM 21 5,⟨some 22,none,(.bin .gtr (.tmp 21) (.const (.int .u64 0)))⟩,oM 23 22,oH 23 (oM 24 6),⟨some 25,some (23,false),(.bin .gtr (.tmp 24) (.const (.int .u64 9223372036854775807)))⟩,oO 26 23 25]) (oJ 26 (oR [⟨some 27,none,(.mkIface 9 (.const (.string ⟨#[116,104,101,32,114,101,115,117,108,116,32,111,102,32,40,108,101,110,40,120,41,32,42,32,99,111,117,110,116,41,32,111,118,101,114,102,108,111,119,115]⟩)))⟩,⟨none,none,.stuck⟩]) .skip)) (oV (oR [oM 28 6,⟨some 29,none,(.conv .i64 (.tmp 28))⟩,⟨some 30,none,(.mkSlice 2 [(.int .i64 0),(.int .i64 0)] (.tmp 29) (.tmp 29))⟩,oM 7 30]) (oV (oR [oM 31 7,oM 32 0,⟨some 33,none,(.copy 2 (.tmp 31) (.tmp 32))⟩,oM 8 33]) (oV (o5 0 (.loop zOs)) (oV (oR [oM 47 7,oM 4 47]) .ret))))))))
theorem zKF (h:AHeap) (v:Value) (a b:Int) (k:Nat) (s:SlC 2 h v 1 [I a,I b]) (hm:h.mark<=h.n) (hk:k<=100000):
  WC Tryz.prog tb 57 [v,I k] h fun r h'=>(∃ g,h.n<=g/\g<h'.n/\r= .slice (some ⟨g,0,none⟩) k 2/\h'.get g=some (.row (zV [I a,I b] k) true 0))/\Ext h h':=by
 obtain⟨a1,a2,a3,rfl⟩:=SlC.shape s;have hlen:∀ {P:Program} {ih:Ex} {t:Trie Value} {x:Operand},ev t x= .slice a1 a2 a3->aop P ih t h (.len x)=some (I 1,h):=fun hx=>zDq s hx;refine en 48 [(4,none)] zTh ?_;refine WO.op _ _ rfl (hlen (by exact zJ)) ?_;refine go ?_;have hw1:IntKind.wrap .u64 1=1:=rfl;have hwk:IntKind.wrap .u64 (k:Int)=k:=ZM (by omega) (by omega);simp only[hw1,hwk];refine WO.con (zP6 h k (by omega)) ?_;rintro _ _ ⟨rfl,rfl⟩;refine go ?_;refine WO.mkS (n:=k) hk ?_;intro h1 e1 n1 g1;refine go ?_;have s1:=s.ext e1;refine WO.cpM (m:=min 1 k) g1 s1 (by decide) rfl (by rw[zj];show 0+_ * 2<=k * 2;omega) rfl ?_;intro h2 n2 k2 g2 w2 m2 r2 _;have e2:Ext h h2:=⟨by omega,fun j hj=>(k2 j (by omega)).trans (e1.get j hj),fun w=>w2 (e1.wf w),m2.trans e1.mark,fun hm=>(r2 (by rw[e1.mark];exact hm)).trans (e1.wr hm)⟩;have g2:h2.get h.n=some (.row (zAx [I 0,I 0] [I a,I b] (min 1 k) k) true 0):=by
  rw[g2];congr 2;by_cases h0:k=0
  ·subst h0;rfl
  ·have hm1:min 1 k=1:=by omega
   rw[hm1];show zX (zV [I 0,I 0] k) 0 _=zV [I a,I b] 1++zV [I 0,I 0] (k - 1);unfold zX;show _++List.drop (1 * ([I 0,I 0]:List Value).length) _=_;rw[zBL];rfl
 clear g1 k2 w2 m2 r2;refine go ?_;refine WX.loopA [34,35,36,37,38,39,40,41,42,43,44,45,46,8] (by kernel_rfl) (fun i=>k - i) (fun i t h1=>Ext h h1/\zB t 8=I i/\i<=k/\(1<=i\/k=0)/\h.n<h1.n/\h1.get h.n=some (.row (zAx [I 0,I 0] [I a,I b] i k) true 0)) (min 1 k) ?_ ?_
 ·exact⟨e2,sl_,by omega,by omega,by omega,g2⟩
 rintro i t h3 hsame ⟨e3,s8,hi,hi1,n3,g3⟩;have sl3:SlC 2 h3 (.slice (some ⟨h.n,0,none⟩) k 2) k (zAx [I 0,I 0] [I a,I b] i k):=SlC.own n3 g3 (by unfold zAx;rw[QX,zj,zj];show i * 2+(k - i) * 2=k * 2;omega);have hlen3:∀ {P:Program} {ih:Ex} {t:Trie Value} {x:Operand},ev t x= .slice (some ⟨h.n,0,none⟩) k 2->aop P ih t h3 (.len x)=some (I k,h3):=fun hx=>zDq sl3 hx;refine go ?_;refine WO.op _ _ rfl (hlen3 (by exact zJ)) ?_;refine go ?_;refine WX.br (fun hb=> ?_) (fun hb=> ?_)<;>simp only[DB]at hb
 ·have hik:i<k:=by omega
  refine go ?_;refine WX.regionU2 0 rfl rfl ?_;refine goU ?_;refine WO.slLo (i:=i) (hy:=by exact zJ) (zHZ (Nat.le_of_lt hik)) ?_;refine nQ ?_;refine goU ?_;refine WO.slHi (i:=i) (hy:=by exact zJ) (zLR (Nat.le_of_lt hik)) ?_;refine nQ ?_;refine goU ?_;have gX:(inC (zC 0 h3)).get h.n=some (.row (zAx [I 0,I 0] [I a,I b] i k) true 0):=g3;have sX:SlC 2 (inC (zC 0 h3)) (.slice (some ⟨h.n,0,none⟩) i 2) i (zV [I a,I b] i):=by
   refine⟨by rw[zj];rfl,.inr ⟨h.n,0,_,rfl,by unfold zk;rw[gX],?_,n3⟩⟩;rw[yo (by unfold zAx;rw[QX,zj,zj];show 0+i * 2<=i * 2+(k - i) * 2;omega)];unfold zAx;rw[Q6,show i * 2=(zV [I a,I b] i).length by rw[zj];rfl,List.take_left]
  refine WO.cpM (m:=min i (k - i)) gX sX (by decide) rfl (by unfold zAx;rw[QX,zj,zj];show 0+i * 2+_ * 2<=i * 2+(k - i) * 2;omega) (zKf rfl i) ?_;intro X' n4 k4 g4 w4 m4 r4 wr4;refine WO.nil (zPr (fun j hj=> ?_) (Nat.le_of_eq n4.symm) fun cl'=> ?_)
  ·rcases wr4 j hj with rfl|h2
   ·rw[e3.mark];exact hm
   ·cases h2
  refine goU ?_;rw[Q4]at g4;have g5:=zOM (z:=[I 0,I 0]) (w:=[I a,I b]) (n:=i) (k:=k) (m:=min i (k - i)) rfl (by omega) (by omega);rw[show ([I 0,I 0]:List Value).length=2 from rfl]at g5;rw[g5]at g4;have hcast:(i:Int)+(min i (k - i):Nat)=((i+min i (k - i):Nat):Int):=by omega
  rw[hcast];refine zA (i+min i (k - i)) (by omega) ⟨⟨?_,?_,?_,?_,?_⟩,sl_,by omega,by omega,?_,g4⟩
  ·show h.n<=X'.n;rw[n4];exact Nat.le_of_lt n3
  ·intro j hj;exact(k4 j (by omega)).trans (e3.get j hj)
  ·intro w;exact w4 (e3.wf w)
  ·exact e3.mark
  ·exact e3.wr
  ·show h.n<X'.n;rw[n4];exact n3
 ·have hik:i=k:=by omega
  subst hik;refine gr ?_;refine⟨⟨h.n,QF _,n3,rfl,?_⟩,e3⟩;rw[g3];unfold zAx;rw[Nat.sub_self];simp[zV]
def InT (T:List LType) (t:Int):Prop:=t= -1\/(0<=t/\t<(T.length:Int))
def isT (T:List LType) (k t:Int):Bool:=decide (t≠ -1)&&decide ((T.getD t.toNat default).kind=k)
def isL (T:List LType) (k:Int) (l:List Int):Bool:=l.all (isT T k)
def zIw (T:List LType) (t:Int):Bool:=isT T 1 t||isT T 2 t||isT T 3 t
def toT (T:List LType) (t:Int):Int:=if isT T 2 t then (T.getD t.toNat default).elem else -1
def zAD (T:List LType) (s n:Int):Int:=
 if s= -1 then -1 else if isT T 4 s&&decide (n<((T.getD s.toNat default).parts.length:Int)) then (T.getD s.toNat default).parts.getD n.toNat 0 else if isT T 5 s then (T.getD s.toNat default).elem else -1
def zKQ (T:List LType) (from' t n:Int):Bool:=decide (zAD T (toT T from') n≠ -1)&&decide (toT T t=zAD T (toT T from') n)
def zKq (T:List LType) (sig:Int) (args:List Int) (t:Int):Bool:=isT T 3 sig&&decide ((T.getD sig.toNat default).parts=args)&&decide ((T.getD sig.toNat default).elem=t)
def zSi (T:List LType) (x:LIns) (l:List Int):Bool:=
 if x.op=14 then isT T 4 (toT T (l.getD 0 0))&&zKQ T (l.getD 0 0) x.ty x.n
 else if x.op=15 then isT T 5 (toT T (l.getD 0 0))&&isT T 1 (l.getD 1 0)&&zKQ T (l.getD 0 0) x.ty 0
 else if x.op=16 then zIw T (toT T (l.getD 0 0))&&decide (x.ty=toT T (l.getD 0 0))
 else zIw T (toT T (l.getD 0 0))&&decide (l.getD 1 0=toT T (l.getD 0 0))
def sigF (F:List LFn) (n:Int):Int:=(F.getD n.toNat default).sig
def zGc (T:List LType) (F:List LFn) (x:LIns) (l:List Int):Bool:=
 if x.op=2 then isT T 2 x.ty||isT T 3 x.ty
 else if x.op=3 then decide (x.ty=sigF F x.n)
 else if x.op=10 then isL T 2 l&&decide (l.getD 0 0=l.getD 1 0)&&isT T 1 x.ty
 else if x.op=11\/x.op=12 then isT T 2 x.ty
 else if x.op=13 then isL T 2 l
 else if x.op=14\/x.op=15\/x.op=16\/x.op=17 then zSi T x l
 else if x.op=18 then zKq T (sigF F x.n) l x.ty
 else if x.op=19 then zKq T (l.getD 0 0) (l.drop 1) x.ty
 else if x.op=22 then zIw T x.ty&&l.all (fun t=>decide (t=x.ty))
 else if x.op=21 then isL T 1 l
 else isL T 1 l&&isT T 1 x.ty
def zBf (x:LIns):Int:=if (zo x.op).2.2.2.2.2 then x.ty else -1
def YN (L:List LBlk):List Int:=L.flatMap fun b=>b.ins.map zBf
def zHV (par:List Int) (L:List LBlk):List Int:=par++YN L
def yX (L:List LBlk):Nat->List (Int×Int)
 |0=>[]
 |n+1=>yX L n++(List.range (L.getD n default).ins.length).map fun (i:Nat)=>((n:Int),(i:Int))
def zDu (par:Nat) (L:List LBlk):List (Int×Int):=List.replicate par (-1,-1)++yX L L.length
theorem zBA {L:List LBlk} {n:Nat} (h:n<L.length):YN (L.take (n+1))=YN (L.take n)++(L.getD n default).ins.map zBf:=by
 unfold YN;rw[GI,QB h,List.flatMap_append,show L.getD n default=L[n] by rw[QE,QB h];rfl];simp
theorem zGz {T:List LType} (h:ZR T=0) {t:Int} (h0:0<=t) (h1:t<(T.length:Int)):zBX T t.toNat:=by
 rw[zI2]at h;split at h
 ·cases h
 ·split at h
  ·rename_i hl;exact(hl t.toNat (by omega)).1
  ·cases h
theorem zI6 {T:List LType} (h:ZR T=0) {t:Int} (ht:InT T t):InT T (toT T t):=by
 unfold toT;split
 ·rename_i hk;unfold isT at hk;simp only[QJ,Qb]at hk;rcases ht with rfl|⟨h0,h1⟩
  ·exact absurd rfl hk.1
  ·have:=zGz h h0 h1;rcases this with ⟨k,_⟩|⟨_,e0,e1,_⟩|⟨k,_⟩|⟨k,_⟩|⟨k,_⟩
   ·omega
   ·exact .inr ⟨e0,e1⟩
   ·omega
   ·omega
   ·omega
 ·exact .inl rfl
theorem zL5 {T:List LType} (h:ZR T=0) {s n:Int} (hs:InT T s) (hn:0<=n):InT T (zAD T s n):=by
 unfold zAD;split
 ·exact .inl rfl
 rename_i hs1;have ⟨h0,h1⟩:=hs.resolve_left hs1;have hm:=zGz h h0 h1;split
 ·rename_i hk;unfold isT at hk;simp only[QJ,Qb]at hk;rcases hm with ⟨k,_⟩|⟨k,_⟩|⟨k,_⟩|⟨_,_,_,_,_,hp⟩|⟨k,_⟩
  ·omega
  ·omega
  ·omega
  ·have hlt:n.toNat<(T.getD s.toNat default).parts.length:=by omega
   have:=hp _ (yS hlt);exact .inr ⟨this.1,by omega⟩
  ·omega
 ·split
  ·rename_i hk;unfold isT at hk;simp only[QJ,Qb]at hk;rcases hm with ⟨k,_⟩|⟨k,_⟩|⟨k,_⟩|⟨k,_⟩|⟨_,e0,e1,_⟩
   ·omega
   ·omega
   ·omega
   ·omega
   ·exact .inr ⟨e0,by omega⟩
  ·exact .inl rfl
theorem zPv {T:List LType} {k t:Int} (h:isT T k t=true):t≠ -1:=by
 unfold isT at h;simp only[QJ,Qb]at h;exact h.1
end
end Go.Proofs.YteekipjpghikkaaGreatDoor
