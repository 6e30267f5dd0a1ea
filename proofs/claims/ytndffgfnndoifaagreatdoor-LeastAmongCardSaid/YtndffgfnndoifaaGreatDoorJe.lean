/- Walks of functions, plain laws; proves no statement. -/
import Derived.Test.YtndffgfnndoifaaGreatDoorJd
set_option linter.all false
set_option maxHeartbeats 1500000
set_option maxRecDepth 100000
namespace Go.Proofs.YtndffgfnndoifaaGreatDoor
open Go.Am
def zLW{k:Int}(h0:0<=k)(h:k<4294967296):zj .and (.int .u64 k) (.int .u64 4294967295)=some (.int .u64 k):=by
 have e:(BitVec.ofInt 64 k&&& BitVec.ofInt 64 4294967295).toNat=k.toNat:=by
  rw[BitVec.toNat_and,show(BitVec.ofInt 64 4294967295).toNat=2 ^ 32-1 from rfl,Nat.and_two_pow_sub_one_eq_mod,BitVec.toNat_ofInt];omega
 simp only[zj,ne_eq,not_true_eq_false,Gt];rw[show((BitVec.ofInt (IntKind.bits .u64) k&&& BitVec.ofInt (IntKind.bits .u64) 4294967295).toNat)=k.toNat from e,show((k.toNat:Nat):Int)=k by omega,Ze h0 ω];rfl
def zGE{k:Int}(h0:0<=k)(h:k<4294967296):zj .shr (.int .u64 k) (.int .u64 32)=some (.int .u64 0):=by
 have e:(min (32:Int).toNat IntKind.u64.bits)=32:=rfl;simp only[zj,e];rw[QC (by decide),Int.fdiv_eq_ediv_of_nonneg _ (by decide),show k / 2 ^ 32=0 by omega]
def zFk{a b c:Int}(e:a*b=c)(h0:0<=c)(h:c<18446744073709551616):zj .mul (.int .u64 a) (.int .u64 b)=some (.int .u64 c):=by
 subst e;simp only[zj,ne_eq,not_true_eq_false,Gt,Qz];rw[Ze h0 h]
def zIK{a b c:Int}(e:a+b=c)(h0:0<=c)(h:c<18446744073709551616):zj .add (.int .u64 a) (.int .u64 b)=some (.int .u64 c):=by
 subst e;simp only[zj,ne_eq,not_true_eq_false,Gt,Qz];rw[Ze h0 h]
def zPd(h:WA)(k:Nat)(hk:k<4294967296):G0 310 [.int .u64 1,.int .u64 k] h fun r h'=>r=.tuple #[.int .u64 0,.int .u64 k]/\h=h':=by
 have k0:(0:Int)<=k:=ω
 have k1:(k:Int)<4294967296:=ω
 refine en ?_;refine WO.bin zN zN (zLW ω ω) ?_;refine go ?_;refine WO.bin zN zN (zGE ω ω) ?_;refine go ?_;refine WO.bin zN zN (zLW k0 k1) ?_;refine go ?_;refine WO.bin zN zN (zGE k0 k1) ?_;refine go ?_;refine WO.bin zN zN (zFk (Int.one_mul _) k0 ω) ?_;refine go ?_;refine WO.bin zN zN (zFk (Int.zero_mul _) (Q1 0) ω) ?_;refine go ?_;refine WO.bin zN zN (zGE k0 k1) ?_;refine go ?_;refine WO.bin zN zN (zIK rfl ω ω) ?_;refine go ?_;refine WO.bin zN zN (zLW ω ω) ?_;refine go ?_;refine WO.bin zN zN (zGE ω ω) ?_;refine go ?_;refine WO.bin zN zN (zFk rfl ω ω) ?_;refine go ?_;refine WO.bin zN zN (zIK rfl ω ω) ?_;refine go ?_;refine WO.bin zN zN (zFk rfl ω ω) ?_;refine go ?_;refine WO.bin zN zN (zIK rfl ω ω) ?_;refine go ?_;refine WO.bin zN zN (zGE ω ω) ?_;refine go ?_;refine WO.bin zN zN (zIK rfl ω ω) ?_;refine go ?_;refine WO.bin zN zN (zFk (Int.one_mul _) k0 ω) ?_;refine gr ?_;exact⟨rfl,rfl⟩
def zSs(h:WA)(k:Nat)(hk:k<4294967296):G0 292 [.int .u64 1,.int .u64 k] h fun r h'=>r=.tuple #[.int .u64 0,.int .u64 k]/\h=h':=by
 refine en ?_;refine VA (zPd h k hk) ?_;rintro _ _ ⟨rfl,rfl⟩;refine gr ?_;exact⟨rfl,rfl⟩
def zHS{z:List Value}:∀ {m n:Nat},m<=n->(zi z n).take (m*z.length)=zi z m
 |0,n,_=>by simp[zi]
 |m+1,0,h=>by omega
 |m+1,n+1,h=>by
  show(z++zi z n).take _=z++zi z m;rw[show(m+1)*z.length=z.length+m*z.length by rw[Gx];omega,List.take_length_add_append,zHS ω]
def zCQ{z:List Value}:∀ {m n:Nat},(zi z n).drop (m*z.length)=zi z (n-m)
 |0,n=>by simp
 |m+1,0=>by simp[zi]
 |m+1,n+1=>by
  show(z++zi z n).drop _=_;rw[show(m+1)*z.length=z.length+m*z.length by rw[Gx];omega,List.drop_length_add_append,zCQ (m:=m) (n:=n),show n+1-(m+1)=n-m by omega]
def zJI{z:List Value}:∀ {m n:Nat},zi z m++zi z n=zi z (m+n)
 |0,n=>by simp[zi]
 |m+1,n=>by
  show(z++zi z m)++zi z n=_;rw[Qd,zJI,show m+1+n=(m+n)+1 by omega];rfl
def zBm(z w:List Value)(n k:Nat):List Value:=zi w n++zi z (k-n)
def zQE{z w:List Value}{n k m:Nat}(hw:w.length=z.length)(hm:m<=n)(hk:n+m<=k):zX (zBm z w n k) (n*z.length) ((zi w n).take (m*z.length))=zBm z w (n+m) k:=by
 have h1:(zi w n).length=n*z.length:=by rw[yA,hw]
 have h3:(zi w n).take (m*z.length)=zi w m:=by rw[<-hw];exact zHS hm
 have h2:(zi w m).length=m*z.length:=by rw[yA,hw]
 unfold zX zBm;rw[h3,h2];rw[show List.take (n*z.length) (zi w n++zi z (k-n))=zi w n by rw[<-h1];exact List.take_left];rw[show n*z.length+m*z.length=(zi w n).length+m*z.length by rw[h1],List.drop_length_add_append,zCQ,<-zJI,show k-n-m=k-(n+m) by omega]
def zNE{c g off len n:Nat}(hn:n<=len):Zk c (.slice (some ⟨g,off,none⟩) len c) none (some n) none=some (.slice (some ⟨g,off,none⟩) n c):=by
 have b1:Nat.ble 0 n=true:=QK (QQ _);have b2:Nat.ble n len=true:=QK hn;simp only[Zk,Gv,GG,b1,b2,Q2,GC,cond_true,Gl,Nat.zero_mul,JQ,Nat.sub_zero]
def zMs{w:List Value}(h:zK w=true):∀ n,zK (zi w n)=true
 |0=>rfl
 |n+1=>by
  have:=zMs h n;unfold zK at *;show(w++zi w n).all _=true;rw[List.all_append,h,this];rfl
def zLK(h:WA)(v:Value)(a b:Int)(k:Nat)(s:Wm 2 h v 1 [I a,I b])(hm:h.mark<=h.n)(hk:k<=100000):
  G0 268 [v,I k] h fun r h'=>(∃ g,h.n<=g/\g<h'.n/\r=.slice (some ⟨g,0,none⟩) k 2/\h'.get g=some (.row (zi [I a,I b] k) true 0))/\WH h h':=by
 obtain⟨a1,a2,a3,rfl⟩:=Wm.shape s;have hlen:∀ {P:Program} {ih:Ex} {t:WG Value} {x:Operand},ev t x=.slice a1 a2 a3->WK P ih t h (.len x)=some (I 1,h):=fun hx=>zFG s hx;refine en ?_;refine WO.op _ _ rfl (hlen (by exact zN)) ?_;refine go ?_;have Ae:IntKind.wrap .u64 1=1:=rfl;have Nb:IntKind.wrap .u64 (k:Int)=k:=Ze ω ω;simp only[Ae,Nb];refine VA (zSs h k ω) ?_;rintro _ _ ⟨rfl,rfl⟩;refine go ?_;refine Xv (n:=k) hk ?_;intro h1 e1 n1 g1;refine go ?_;have s1:=s.ext e1;refine Xn (m:=min 1 k) g1 s1 (by decide) rfl (by rw[yA];show 0+_*2<=k*2;omega) rfl ?_;intro h2 n2 k2 g2 w2 m2 r2 _;have e2:WH h h2:=⟨ω,fun j hj=>(k2 j ω).trans (e1.get j hj),fun w=>w2 (e1.wf w),m2.trans e1.mark,fun hm=>(r2 (by rw[e1.mark];exact hm)).trans (e1.wr hm)⟩;have g2:h2.get h.n=some (.row (zBm [I 0,I 0] [I a,I b] (min 1 k) k) true 0):=by
  rw[g2];congr 2;by_cases h0:k=0
  ·subst h0;rfl
  ·have cC:min 1 k=1:=ω
   rw[cC];show zX (zi [I 0,I 0] k) 0 _=zi [I a,I b] 1++zi [I 0,I 0] (k-1);unfold zX;show _++List.drop (1*([I 0,I 0]:List Value).length) _=_;rw[zCQ];rfl
 clear g1 k2 w2 m2 r2;refine go ?_;refine VD (fun i=>k-i) (fun i t h1=>WH h h1/\zC t 8=I i/\i<=k/\(1<=i\/k=0)/\h.n<h1.n/\h1.get h.n=some (.row (zBm [I 0,I 0] [I a,I b] i k) true 0)) (min 1 k) ?_ ?_
 ·exact⟨e2,WJ,ω,ω,ω,g2⟩
 rintro i t h3 ab ⟨e3,s8,hi,nR,n3,g3⟩;have DM:Wm 2 h3 (.slice (some ⟨h.n,0,none⟩) k 2) k (zBm [I 0,I 0] [I a,I b] i k):=Wm.own n3 g3 (by unfold zBm;rw[QH,yA,yA];show i*2+(k-i)*2=k*2;omega);have vC:∀ {P:Program} {ih:Ex} {t:WG Value} {x:Operand},ev t x=.slice (some ⟨h.n,0,none⟩) k 2->WK P ih t h3 (.len x)=some (I k,h3):=fun hx=>zFG DM hx;refine go ?_;refine WO.op _ _ rfl (vC (by exact zN)) ?_;refine F0 ?_ ?_<;>intro hb
 ·have fh:i<k:=ω
  refine go ?_;refine VC 0 rfl rfl ?_;refine WU ?_;refine VT (i:=i) (hy:=by exact zN) (zJR (Nat.le_of_lt fh)) ?_;refine nQ ?_;refine WU ?_;refine V7 (i:=i) (hy:=by exact zN) (zNE (Nat.le_of_lt fh)) ?_;refine nQ ?_;refine WU ?_;have gX:(inC (zB 0 h3)).get h.n=some (.row (zBm [I 0,I 0] [I a,I b] i k) true 0):=g3;have sX:Wm 2 (inC (zB 0 h3)) (.slice (some ⟨h.n,0,none⟩) i 2) i (zi [I a,I b] i):=by
   refine⟨by rw[yA];rfl,.inr ⟨h.n,0,_,rfl,by unfold z0;rw[gX],?_,n3⟩⟩;rw[yz (by unfold zBm;rw[QH,yA,yA];show 0+i*2<=i*2+(k-i)*2;omega)];unfold zBm;rw[GI,show i*2=(zi [I a,I b] i).length by rw[yA];rfl,List.take_left]
  refine Xn (m:=min i (k-i)) gX sX (by decide) rfl (by unfold zBm;rw[QH,yA,yA];show 0+i*2+_*2<=i*2+(k-i)*2;omega) (zMs rfl i) ?_;intro X' n4 k4 g4 w4 m4 r4 Nc;refine WO.nil (zL2 (fun j hj=> ?_) (Nat.le_of_eq n4.symm) fun bV=> ?_)
  ·rcases Nc j hj with rfl|h2
   ·rw[e3.mark];exact hm
   ·cases h2
  refine WU ?_;rw[Q8]at g4;have g5:=zQE (z:=[I 0,I 0]) (w:=[I a,I b]) (n:=i) (k:=k) (m:=min i (k-i)) rfl ω ω;rw[show([I 0,I 0]:List Value).length=2 from rfl]at g5;rw[g5]at g4;have vD:(i:Int)+(min i (k-i):Nat)=((i+min i (k-i):Nat):Int):=ω
  rw[vD];refine zA (i+min i (k-i)) ω ⟨⟨?_,?_,?_,?_,?_⟩,WJ,ω,ω,?_,g4⟩
  ·show h.n<=X'.n;rw[n4];exact Nat.le_of_lt n3
  ·intro j hj;exact(k4 j ω).trans (e3.get j hj)
  ·intro w;exact w4 (e3.wf w)
  ·exact e3.mark
  ·exact e3.wr
  ·show h.n<X'.n;rw[n4];exact n3
 ·have fh:i=k:=ω
  subst fh;refine gr ?_;refine⟨⟨h.n,QF _,n3,rfl,?_⟩,e3⟩;rw[g3];unfold zBm;rw[JI];simp[zi]
def Bj(T:List WF)(t:Int):Prop:=t= -1\/(0<=t/\t<(T.length:Int))
def BD(T:List WF)(k t:Int):Bool:=decide (t≠ -1)&&decide ((T.getD t.toNat default).kind=k)
def isL(T:List WF)(k:Int)(l:List Int):Bool:=l.all (BD T k)
def zGj(T:List WF)(t:Int):Bool:=BD T 1 t||BD T 2 t||BD T 3 t
def Bq(T:List WF)(t:Int):Int:=if BD T 2 t then(T.getD t.toNat default).elem else -1
def zAa(T:List WF)(s n:Int):Int:=
 if s= -1 then -1 else if BD T 4 s&&decide (n<((T.getD s.toNat default).parts.length:Int))then(T.getD s.toNat default).parts.getD n.toNat 0 else if BD T 5 s then(T.getD s.toNat default).elem else -1
def zJS(T:List WF)(oa t n:Int):Bool:=decide (zAa T (Bq T oa) n≠ -1)&&decide (Bq T t=zAa T (Bq T oa) n)
def zHg(T:List WF)(sig:Int)(args:List Int)(t:Int):Bool:=BD T 3 sig&&decide ((T.getD sig.toNat default).parts=args)&&decide ((T.getD sig.toNat default).elem=t)
def zNY(T:List WF)(x:Wu)(l:List Int):Bool:=
 if x.op=14 then BD T 4 (Bq T (l.getD 0 0))&&zJS T (l.getD 0 0) x.ty x.n
 else if x.op=15 then BD T 5 (Bq T (l.getD 0 0))&&BD T 1 (l.getD 1 0)&&zJS T (l.getD 0 0) x.ty 0
 else if x.op=16 then zGj T (Bq T (l.getD 0 0))&&decide (x.ty=Bq T (l.getD 0 0))
 else zGj T (Bq T (l.getD 0 0))&&decide (l.getD 1 0=Bq T (l.getD 0 0))
def sigF(F:List We)(n:Int):Int:=(F.getD n.toNat default).sig
def zB4(T:List WF)(F:List We)(x:Wu)(l:List Int):Bool:=
 if x.op=2 then BD T 2 x.ty||BD T 3 x.ty
 else if x.op=3 then decide (x.ty=sigF F x.n)
 else if x.op=10 then isL T 2 l&&decide (l.getD 0 0=l.getD 1 0)&&BD T 1 x.ty
 else if x.op=11\/x.op=12 then BD T 2 x.ty
 else if x.op=13 then isL T 2 l
 else if x.op=14\/x.op=15\/x.op=16\/x.op=17 then zNY T x l
 else if x.op=18 then zHg T (sigF F x.n) l x.ty
 else if x.op=19 then zHg T (l.getD 0 0) (l.drop 1) x.ty
 else if x.op=22 then zGj T x.ty&&l.all (fun t=>decide (t=x.ty))
 else if x.op=21 then isL T 1 l
 else isL T 1 l&&BD T 1 x.ty
def zBk(x:Wu):Int:=if(zl x.op).2.2.2.2.2 then x.ty else -1
def Zd(L:List Wk):List Int:=L.flatMap fun b=>b.ins.map zBk
def zEF(par:List Int)(L:List Wk):List Int:=par++Zd L
def Zl(L:List Wk):Nat->List (Int×Int)
 |0=>[]
 |n+1=>Zl L n++(List.range (L.getD n default).ins.length).map fun(i:Nat)=>((n:Int),(i:Int))
def zIB(par:Nat)(L:List Wk):List (Int×Int):=List.replicate par (-1,-1)++Zl L L.length
def zCB{L:List Wk}{n:Nat}(h:n<L.length):Zd (L.take (n+1))=Zd (L.take n)++(L.getD n default).ins.map zBk:=by
 unfold Zd;rw[GF,QB h,List.flatMap_append,show L.getD n default=L[n] by rw[QD,QB h];rfl];simp
def zBY{T:List WF}(h:y8 T=0){t:Int}(h0:0<=t)(h1:t<(T.length:Int)):ZY T t.toNat:=by
 rw[zCy]at h;split at h
 ·cases h
 ·split at h
  ·rename_i hl;exact(hl t.toNat ω).1
  ·cases h
def zGU{T:List WF}(h:y8 T=0){t:Int}(ht:Bj T t):Bj T (Bq T t):=by
 unfold Bq;split
 ·rename_i hk;unfold BD at hk;simp only[QI,Qc]at hk;rcases ht with rfl|⟨h0,h1⟩
  ·exact absurd rfl hk.1
  ·have:=zBY h h0 h1;rcases this with⟨k,_⟩|⟨_,e0,e1,_⟩|⟨k,_⟩|⟨k,_⟩|⟨k,_⟩
   ·omega
   ·exact .inr ⟨e0,e1⟩
   ·omega
   ·omega
   ·omega
 ·exact .inl rfl
def zOe{T:List WF}(h:y8 T=0){s n:Int}(hs:Bj T s)(hn:0<=n):Bj T (zAa T s n):=by
 unfold zAa;split
 ·exact .inl rfl
 rename_i iQ;have⟨h0,h1⟩:=hs.resolve_left iQ;have hm:=zBY h h0 h1;split
 ·rename_i hk;unfold BD at hk;simp only[QI,Qc]at hk;rcases hm with⟨k,_⟩|⟨k,_⟩|⟨k,_⟩|⟨_,_,_,_,_,hp⟩|⟨k,_⟩
  ·omega
  ·omega
  ·omega
  ·have aD:n.toNat<(T.getD s.toNat default).parts.length:=ω
   have:=hp _ (zd aD);exact .inr ⟨this.1,ω⟩
  ·omega
 ·split
  ·rename_i hk;unfold BD at hk;simp only[QI,Qc]at hk;rcases hm with⟨k,_⟩|⟨k,_⟩|⟨k,_⟩|⟨k,_⟩|⟨_,e0,e1,_⟩
   ·omega
   ·omega
   ·omega
   ·omega
   ·exact .inr ⟨e0,ω⟩
  ·exact .inl rfl
def zLR{T:List WF}{k t:Int}(h:BD T k t=true):t≠ -1:=by
 unfold BD at h;simp only[QI,Qc]at h;exact h.1
def RPl(_:WA)(cs:List Value)(x:Int×Int):Prop:=cs=[I x.1,I x.2]
structure BT(h:WA)(g:Nat)(vt vf:Value)(T:List WF)(F:List We)(f:Int)(ks:List Int)(ps:List (Int×Int))(rs:List Int):Prop where
 own:∃ hB vk vp vr,WB hB h (.pointer (some ⟨g,0,none⟩)) [vt,vf,I f,vk,vp,vr]/\Wc h vk ks/\W7 2 RPl h vp ps/\Wc h vr rs
 st:BB h vt T
 sf:BA h vf F
 hm:h.mark<=h.n
def BT.ext{h h':WA}{g:Nat}{vt vf:Value}{T:List WF}{F:List We}{f:Int}{ks:List Int}{ps:List (Int×Int)}{rs:List Int}(M:BT h g vt vf T F f ks ps rs)(e:WH h h'):BT h' g vt vf T F f ks ps rs:=by
 obtain⟨⟨hB,vk,vp,vr,o,a,b,c⟩,st,sf,hm⟩:=M;exact⟨⟨hB,vk,vp,vr,o.ext e,a.ext e,W7.ext (h:=h) (h':=h') (fun cs a (r:RPl h cs a)=>(r:RPl h' cs a)) b e,c.ext e⟩,st.ext e,BA.ext sf e,yV e hm⟩
def zN9{A B:List Int}(hl:A.length=B.length)(h:∀ i,i<A.length->A.getD i 0=B.getD i 0):A=B:=by
 refine List.ext_getElem hl fun i h1 h2=> ?_;have:=h i h1;rwa [QD,QD,QB h1,QB h2]at this
def zHb(h:WA)(va vb:Value)(A B:List Int)(ka:Wc h va A)(kb:Wc h vb B)(la:(A.length:Int)<=9223372036854775807):G0 303 [va,vb] h fun r h'=>r=.bool (decide (A=B))/\h=h':=by
 refine en ?_;by_cases hl:A.length=B.length;case neg=>
  refine gr ?_;exact⟨by rw[QY (fun e=>hl (by rw[e]))];rfl,rfl⟩
 refine go ?_;refine VD (fun i=>A.length-i) (fun i t h1=>h=h1/\zC t 13=I i/\i<=A.length/\Wi (∀ j,j<i->A.getD j 0=B.getD j 0)) 0 ?_ ?_
 ·exact⟨rfl,WJ,QQ _,⟨fun j hj=>absurd hj (GJ _)⟩⟩
 rintro i t _ ab ⟨rfl,Nd,hi,hI⟩;refine F0 ?_ ?_<;>intro hb
 ·have Af:i<A.length:=ω
  have Hu:i<B.length:=ω
  refine F0 ?_ ?_<;>intro hb<;>refine go ?_
  ·refine rt ?_;refine⟨?_,rfl⟩;rw[QY (fun e=>by subst e;exact hb rfl)];rfl
  ·refine zA (i+1) ω ⟨rfl,Wy,ω,⟨fun j hj=> ?_⟩⟩;by_cases e:j=i
   ·subst e;exact hb
   ·exact hI.out j ω
 ·refine gr ?_;exact⟨by rw[Qa (zN9 hl fun j hj=>hI.out j ω)];rfl,rfl⟩
section
variable {vt vf:Value}{T:List WF}{F:List We}{f:Int}{ks:List Int}{ps:List (Int×Int)}{rs:List Int}{g:Nat}
def zSo(h h0 jl:WA)(p1 p2:Value)(k t:Int)(M:BT h g vt vf T F f ks ps rs)(o1:WB h0 h p1 [.pointer (some ⟨g,0,none⟩)])(o2:WB jl h p2 [.int .u8 k])(ht:Bj T t):
  G0 273 [I t,p1,p2] h fun r h'=>r=.bool (!BD T k t)/\WH h h':=by
 obtain⟨⟨hB,vk,vp,vr,o,a,b,c⟩,st,sf,hm⟩:=M;refine en ?_;by_cases h1:t= -1
 ·refine gr ?_;refine⟨?_,WH.refl h⟩;subst h1;rfl
 ·obtain⟨t0,t1⟩:=ht.resolve_left h1;obtain⟨cs,⟨va,rfl,sa,dP⟩,pc,hs⟩:=ZX (i:=t.toNat) st ω;refine gr ?_;refine⟨?_,WH.refl h⟩;unfold BD;rw[Qa h1];simp[one]
def ZB(h:WA)(k:Int)(v:Value)(l:List Int)(M:BT h g vt vf T F f ks ps rs)(s:Wc h v l)(hl:l.length<=1000)(aq:∀ t∈l,Bj T t):
  G0 231 [.pointer (some ⟨g,0,none⟩),.int .u8 k,v] h fun r h'=>r=.bool (isL T k l)/\WH h h':=by
 refine en ?_;refine VH ?_;intro p1 h1 e1 o1;refine go ?_;refine VH ?_;intro p2 h2 e2 o2;have o1:=o1.ext e2;have aQ:=e1.trans e2;have M2:=M.ext aQ;have s2:=s.ext aQ;refine go ?_;refine VA (zAi h2 v _ l (fun t=> !BD T k t) s2 ω ?_) ?_
 ·intro t ht h3 e3;exact WV.func (zSo h3 h h1 p1 p2 k t (M2.ext e3) (o1.ext e3) (o2.ext e3) (aq t ht))
 rintro _ h3 ⟨rfl,e3⟩;refine gr ?_;refine⟨?_,aQ.trans e3⟩;show Value.bool _=_;rw[List.not_any_eq_all_not];simp[isL]
def ZI(T:List WF)(k t:Int):isL T k [t]=BD T k t:=by simp[isL]
def zCu(h:WA)(t:Int)(M:BT h g vt vf T F f ks ps rs)(ht:Bj T t):
  G0 301 [.pointer (some ⟨g,0,none⟩),I t] h fun r h'=>r=.bool (zGj T t)/\WH h h':=by
 have aq:∀ x∈[t],Bj T x:=fun x hx=>by rw[QO.1 hx];exact ht
 unfold zGj;refine en ?_;refine WO.bl [t] ?_;intro v1 h1 e1 o1;have M1:=M.ext e1;refine go ?_;refine VA (ZB h1 1 v1 [t] M1 o1.sl (by simp) aq) ?_;rintro _ h2 ⟨rfl,e2⟩;rw[ZI];cases c1:BD T 1 t with
 |true=>
  refine gr ?_;exact⟨rfl,e1.trans e2⟩
 |false=>
  have M2:=M1.ext e2;refine go ?_;refine WO.bl [t] ?_;intro v3 h3 e3 o3;have M3:=M2.ext e3;refine go ?_;refine VA (ZB h3 2 v3 [t] M3 o3.sl (by simp) aq) ?_;rintro _ h4 ⟨rfl,e4⟩;rw[ZI];have cg:=e1.trans (e2.trans (e3.trans e4));cases c2:BD T 2 t with
  |true=>
   refine gr ?_;exact⟨rfl,cg⟩
  |false=>
   have M4:=M3.ext e4;refine go ?_;refine WO.bl [t] ?_;intro v5 h5 e5 o5;have M5:=M4.ext e5;refine go ?_;refine VA (ZB h5 3 v5 [t] M5 o5.sl (by simp) aq) ?_;rintro _ h6 ⟨rfl,e6⟩;rw[ZI];refine gr ?_;exact⟨by cases BD T 3 t<;>rfl,cg.trans (e5.trans e6)⟩
def zA4(h:WA)(t:Int)(M:BT h g vt vf T F f ks ps rs)(ht:Bj T t):
  G0 313 [.pointer (some ⟨g,0,none⟩),I t] h fun r h'=>r=I (Bq T t)/\WH h h':=by
 have aq:∀ x∈[t],Bj T x:=fun x hx=>by rw[QO.1 hx];exact ht
 unfold Bq;refine en ?_;refine WO.bl [t] ?_;intro v1 h1 e1 o1;have M1:=M.ext e1;refine go ?_;refine VA (ZB h1 2 v1 [t] M1 o1.sl (by simp) aq) ?_;rintro _ h2 ⟨rfl,e2⟩;rw[ZI];cases c1:BD T 2 t with
 |false=>
  refine gr ?_;exact⟨rfl,e1.trans e2⟩
 |true=>
  obtain⟨⟨hB,vk,vp,vr,o,a,b,c⟩,st,sf,hm⟩:=M1.ext e2;obtain⟨t0,t1⟩:=ht.resolve_left (zLR c1);obtain⟨cs,⟨va,rfl,sa,dP⟩,pc,hs⟩:=ZX (i:=t.toNat) st ω;refine gr ?_;exact⟨rfl,e1.trans e2⟩
def zPR(h:WA)(v:Value)(l:List Int)(M:BT h g vt vf T F f ks ps rs)(s:Wc h v l)(hl:l.length<=1000)(aq:∀ r∈l,0<=r/\r<(ks.length:Int)):
  G0 275 [.pointer (some ⟨g,0,none⟩),v] h fun r h'=>WP h h' r (l.map fun r=>ks.getD r.toNat 0)/\WH h h':=by
 refine en ?_;refine VD (fun i=>l.length-i) (fun i t h1=>WH h h1/\zC t 9=I i/\i<=l.length/\∃ w,zC t 4=w/\WP h h1 w ((l.take i).map fun r=>ks.getD r.toNat 0)) 0 ?_ ?_
 ·exact⟨WH.refl _,WJ,QQ _,_,WJ,.inl ⟨rfl,rfl⟩⟩
 rintro i t h1 ab ⟨e1,s9,hi,w,s4,ow⟩;obtain⟨⟨hB,vk,vp,vr,o,a,b,c⟩,st,sf,hm⟩:=M.ext e1;have s1:=s.ext e1;refine F0 ?_ ?_<;>intro hb
 ·have af:i<l.length:=ω
  have hr:=aq _ (zd af);have bq:(l.take (i+1)).map (fun r=>ks.getD r.toNat 0)=(l.take i).map (fun r=>ks.getD r.toNat 0)++[ks.getD (l.getD i 0).toNat 0]:=by
   rw[GF,QB af,Q5,show l.getD i 0=l[i] by rw[QD,QB af];rfl];rfl
  refine go ?_;refine WO.bl [ks.getD (l.getD i 0).toNat 0] ?_;intro v2 h2 e2 o2;refine go ?_;refine Vc (ow.ext e2) (Wq.sl o2) (e1.trans e2) (by simp only[Qr,Qp,Qb];omega) ?_;intro v3 h3 e3 o3;refine go ?_;exact zA (i+1) ω ⟨e3,Wy,ω,_,WJ,by rw[bq];exact o3⟩
 ·have bj:i=l.length:=ω
  subst bj;rw[Qs]at ow;refine gr ?_;exact⟨ow,e1⟩
def zHe(h:WA)(sig t:Int)(v:Value)(l:List Int)(M:BT h g vt vf T F f ks ps rs)(gx:Bj T sig)(s:Wc h v l)(hl:l.length<=1000):
  G0 300 [.pointer (some ⟨g,0,none⟩),I sig,v,I t] h fun r h'=>r=.bool (zHg T sig l t)/\WH h h':=by
 have aq:∀ x∈[sig],Bj T x:=fun x hx=>by rw[QO.1 hx];exact gx
 unfold zHg;refine en ?_;refine WO.bl [sig] ?_;intro v1 h1 e1 o1;have M1:=M.ext e1;refine go ?_;refine VA (ZB h1 3 v1 [sig] M1 o1.sl (by simp) aq) ?_;rintro _ h2 ⟨rfl,e2⟩;rw[ZI];cases c1:BD T 3 sig with
 |false=>
  refine gr ?_;exact⟨rfl,e1.trans e2⟩
 |true=>
  obtain⟨⟨hB,vk,vp,vr,o,a,b,c⟩,st,sf,hm⟩:=M1.ext e2;obtain⟨t0,t1⟩:=gx.resolve_left (zLR c1);have s2:=s.ext (e1.trans e2);obtain⟨cs,⟨va,rfl,sa,dP⟩,pc,hs⟩:=ZX (i:=sig.toNat) st ω;refine go ?_;refine VA (zHb h2 va v _ l sa s2 ω) ?_;rintro _ _ ⟨rfl,rfl⟩;cases c2:decide ((T.getD sig.toNat default).parts=l)with
  |false=>
   refine gr ?_;exact⟨rfl,e1.trans e2⟩
  |true=>
   refine gr ?_;exact⟨rfl,e1.trans e2⟩
def zJK(h:WA)(a t n:Int)(M:BT h g vt vf T F f ks ps rs)(hc:y8 T=0)(ha:Bj T a)(ht:Bj T t)(hn:0<=n):
  G0 314 [.pointer (some ⟨g,0,none⟩),I a,I t,I n] h fun r h'=>r=.bool (zJS T a t n)/\WH h h':=by
 unfold zJS;refine en ?_;refine VA (zA4 h a M ha) ?_;rintro _ h1 ⟨rfl,e1⟩;have hs:=zGU hc ha;have lF:=zOe hc hs hn;generalize Bq T a=s at *;have M1:=M.ext e1;have TJ:=zGU hc ht;by_cases iQ:s= -1
 ·have hp:zAa T s n= -1:=by unfold zAa;rw[QJ iQ]
  rw[hp];refine gr ?_;exact⟨rfl,e1⟩
 have aq:∀ x∈[s],Bj T x:=fun x hx=>by rw[QO.1 hx];exact hs
 obtain⟨s0,sL⟩:=hs.resolve_left iQ;refine go ?_;refine WO.bl [s] ?_;intro v2 h2 e2 o2;have M2:=M1.ext e2;refine go ?_;refine VA (ZB h2 4 v2 [s] M2 o2.sl (by simp) aq) ?_;rintro _ h3 ⟨rfl,e3⟩;rw[ZI];have M3:=M2.ext e3;have bQ:=e1.trans (e2.trans e3);obtain⟨⟨hB,vk,vp,vr,o,ka,kb,kc⟩,st,sf,hm⟩:=id M3;obtain⟨cs,⟨va,rfl,sa,dP⟩,pc,bP⟩:=ZX (i:=s.toNat) st ω;have other:BD T 4 s=false\/¬n<((T.getD s.toNat default).parts.length:Int)->zAa T s n=if BD T 5 s then(T.getD s.toNat default).elem else -1:=fun h=>by
  unfold zAa;rw[QC iQ,QC];rcases h with h|h
  ·rw[h];simp
  ·rw[QY h];simp
 cases c4:BD T 4 s with
 |true=>
  by_cases aD:n<((T.getD s.toNat default).parts.length:Int)
  ·have hp:zAa T s n=(T.getD s.toNat default).parts.getD n.toNat 0:=by unfold zAa;rw[QC iQ,c4,Qa aD];rfl
   rw[hp]at lF |-;have Nf:n.toNat<(T.getD s.toNat default).parts.length:=ω
   obtain⟨pp,dG⟩:∃ pp,(T.getD s.toNat default).parts.getD n.toNat 0=pp:=⟨_,rfl⟩;rw[dG]at lF |-;by_cases ig:pp= -1
   ·rw[ig];refine gr ?_;exact⟨rfl,bQ⟩
   have hd:decide (pp≠ -1)=true:=Qa ig;rw[hd];refine go ?_;refine VA (zA4 h3 t M3 ht) ?_;rintro _ h9 ⟨rfl,e9⟩;refine gr ?_;exact⟨by rw[Qh,<-dG];rfl,bQ.trans e9⟩
  ·have hp:=other (.inr aD);refine go ?_;refine WO.bl [s] ?_;intro v4 h4 e4 o4;have M4:=M3.ext e4;refine go ?_;refine VA (ZB h4 5 v4 [s] M4 o4.sl (by simp) aq) ?_;rintro _ h5 ⟨rfl,e5⟩;rw[ZI];have M5:=M4.ext e5;have bh:=bQ.trans (e4.trans e5);rw[hp]at lF |-;cases c5:BD T 5 s with
   |false=>
    refine gr ?_;exact⟨rfl,bh⟩
   |true=>
    rw[c5,QJ rfl]at lF;obtain⟨⟨Iq,qK,Ir,Is,o',Ng,Nh,Ni⟩,pC,Nj,iO⟩:=id M5;obtain⟨kV,⟨dH,rfl,Nk,DN⟩,ix,mL⟩:=ZX (i:=s.toNat) pC ω;obtain⟨pp,dG⟩:∃ pp,(T.getD s.toNat default).elem=pp:=⟨_,rfl⟩;rw[QJ rfl];rw[dG]at lF |- ix;by_cases ig:pp= -1
    ·rw[ig];refine gr ?_;exact⟨rfl,bh⟩
    have hd:decide (pp≠ -1)=true:=Qa ig;rw[hd];refine go ?_;refine VA (zA4 h5 t M5 ht) ?_;rintro _ h9 ⟨rfl,e9⟩;refine gr ?_;exact⟨by rw[Qh,show decide (Bq T t=pp)=(Bq T t == pp)from rfl];rfl,(bh).trans e9⟩
 |false=>
  have hp:=other (.inl c4);refine go ?_;refine WO.bl [s] ?_;intro v4 h4 e4 o4;have M4:=M3.ext e4;refine go ?_;refine VA (ZB h4 5 v4 [s] M4 o4.sl (by simp) aq) ?_;rintro _ h5 ⟨rfl,e5⟩;rw[ZI];have M5:=M4.ext e5;have bh:=bQ.trans (e4.trans e5);rw[hp]at lF |-;cases c5:BD T 5 s with
  |false=>
   refine gr ?_;exact⟨rfl,bh⟩
  |true=>
   rw[c5,QJ rfl]at lF;obtain⟨⟨Iq,qK,Ir,Is,o',Ng,Nh,Ni⟩,pC,Nj,iO⟩:=id M5;obtain⟨kV,⟨dH,rfl,Nk,DN⟩,ix,mL⟩:=ZX (i:=s.toNat) pC ω;obtain⟨pp,dG⟩:∃ pp,(T.getD s.toNat default).elem=pp:=⟨_,rfl⟩;rw[QJ rfl];rw[dG]at lF |- ix;by_cases ig:pp= -1
   ·rw[ig];refine gr ?_;exact⟨rfl,bh⟩
   have hd:decide (pp≠ -1)=true:=Qa ig;rw[hd];refine go ?_;refine VA (zA4 h5 t M5 ht) ?_;rintro _ h9 ⟨rfl,e9⟩;refine gr ?_;exact⟨by rw[Qh,show decide (Bq T t=pp)=(Bq T t == pp)from rfl];rfl,(bh).trans e9⟩
end
def zK5{k g:Nat}{hS X X':WA}{ob:Wp}(eX:WH (inC (zB k hS)) X)(hn:X'.n=X.n)(hg:∀ j,X'.get j=if j=g then some ob else X.get j)(h1:hS.n<=g)(h2:g<X.n):WH hS {X' with mark:=hS.mark,wr:=hS.wr}:=by
 have n1:=eX.n;have n1:hS.n+k<=X.n:=n1;refine⟨by show hS.n<=X'.n;omega,fun j hj=> ?_,fun w j hj=> ?_,rfl,fun _=>rfl⟩
 ·show X'.get j=_;rw[hg,QC ω];exact eX.get j (QG hj (JP _ _))
 ·have hj:X'.n<=j:=hj;show X'.get j=_;rw[hg,QC ω];exact eX.wf (fun i hi=>w i (Nat.le_of_add_right_le hi)) j ω
def zE6{g:Nat}{hS X X':WA}{ob:Wp}(e:WH hS (z9 hS X))(hn:X'.n=X.n)(hg:∀ j,X'.get j=if j=g then some ob else X.get j)(h1:hS.n<=g)(h2:g<X.n):WH hS (z9 hS X'):=by
 have n1:hS.n<=X.n:=e.n;refine⟨by show hS.n<=X'.n;omega,fun j hj=> ?_,fun w j hj=> ?_,rfl,fun _=>rfl⟩
 ·show X'.get j=_;rw[hg,QC ω];exact e.get j hj
 ·have hj:X'.n<=j:=hj;show X'.get j=_;rw[hg,QC ω];exact e.wf w j (by show X.n<=j;omega)
def zC7{P:Program}{tab:Ws}{m N0 g:Nat}{o:WE}{l:List (WE×List Nat)}{x:WE×List Nat}{fr:WM}{h h':WA}{Q:WM->WA->Prop}{t:WG Value}(e:WH (inC h) h')(hx:Wb P tab m N0 (x::l) g false fr (inC h') Q):uK2 P tab m N0 [] t o (inC h) (x::l) g false Q fr h':=by
 have hw:=e.wrnil;exact⟨⟨fun g hg=>(by rw[hw]at hg;cases hg),e.n,.inl rfl⟩,hx⟩
def Vx{h0 h X:WA}{p:Value}{cs:List Value}(o:WB h0 (z9 h X) p cs):WB h0 (inC X) p cs:=o
def Vl{h0 X:WA}{p:Value}{cs:List Value}(o:WB h0 X p cs):WB h0 (inC X) p cs:=o
def Vr{h X:WA}{p:Value}{cs:List Int}(o:Wc (z9 h X) p cs):Wc (inC X) p cs:=o
def Vd{X:WA}{p:Value}{cs:List Int}(o:Wc X p cs):Wc (inC X) p cs:=o
def ZA{h X Y:WA}(e:WH (inC X) Y):WH (z9 h X) (z9 h Y):=by
 have h1:(z9 h X).n=X.n:=rfl;refine⟨e.n,e.get,fun w=>e.wf w,rfl,fun _=>rfl⟩
section
variable {vt vf:Value}{T:List WF}{F:List We}{f:Int}{ks:List Int}{ps:List (Int×Int)}{rs:List Int}{g:Nat}
def VO{h:WA}{m:Nat}{w:List Nat}(M:BT {h with mark:=m,wr:=w} g vt vf T F f ks ps rs):BT (inC h) g vt vf T F f ks ps rs:=⟨M.own,M.st,M.sf,QF _⟩
def BT.inC{h:WA}(M:BT h g vt vf T F f ks ps rs):BT (inC h) g vt vf T F f ks ps rs:=⟨M.own,M.st,M.sf,QF _⟩
def BT.aside{h:WA}(k:Nat)(M:BT h g vt vf T F f ks ps rs):BT (Am.inC (zB k h)) g vt vf T F f ks ps rs:=(M.ext (zG k h)).inC
def BT.made{k g':Nat}{hS X X':WA}{ob:Wp}(M:BT hS g vt vf T F f ks ps rs)(eX:WH (Am.inC (zB k hS)) X)(hn:X'.n=X.n)(hg:∀ j,X'.get j=if j=g' then some ob else X.get j)(h1:hS.n<=g')(h2:g'<X.n):BT (Am.inC X') g vt vf T F f ks ps rs:=VO (M.ext (zK5 eX hn hg h1 h2))
def zDm{X':WA}{g':Nat}{xs:List Int}(h:X'.get g'=some (.row (xs.map I) true 0))(h2:g'<X'.n):Wc (Am.inC X') (.slice (some ⟨g',0,none⟩) xs.length 1) xs:=Wc.own h2 h
def zLS{l:List Int}(h:∀ t∈l,Bj T t){i:Nat}(hi:i<l.length):Bj T (l.getD i 0):=h _ (zd hi)
def zK8(h:WA)(x:Wu)(cs:List Value)(v:Value)(l:List Int)(M:BT h g vt vf T F f ks ps rs)(hc:y8 T=0)(hR:Bn h cs x)(s:Wc h v l)(hl:l.length<=1000)(aq:∀ t∈l,Bj T t)(cD:Bj T x.ty)(cE:x.op=14\/x.op=15\/x.op=16\/x.op=17)(hn:x.op=14->0<=x.n)(h1:1<=l.length)(h2:x.op=15\/x.op=17->2<=l.length):
  G0 299 [.pointer (some ⟨g,0,none⟩),.agg cs.toArray,v] h fun r h'=>r=.bool (zNY T x l)/\WH h h':=by
 obtain⟨xa,xf,rfl,fW,gy,dP,mw,ho⟩:=hR;obtain⟨a1,a2,a3,rfl⟩:=Wm.shape fW;obtain⟨f1,f2,f3,rfl⟩:=Wm.shape gy;obtain⟨b1,b2,b3,rfl⟩:=Wm.shape s;have ht0:=zLS aq (show 0<l.length by omega);have qh:=zGU hc ht0;have vE:∀ y∈[Bq T (l.getD 0 0)],Bj T y:=fun y hy=>by rw[QO.1 hy];exact qh
 refine en ?_;refine VH ?_;intro p h3 e3 o3;have M3:=M.ext e3;have s3:=s.ext e3;unfold zNY;by_cases lG:x.op=14
 ·rw[QJ lG];refine go ?_;refine VC 1 rfl rfl ?_;have ea:=zG 1 h3;have sX:=Vd (s3.ext ea);refine WU ?_;refine VA (zA4 _ _ (M3.aside 1) ht0) ?_;rintro _ X4 ⟨rfl,e4⟩;refine nE e4 ?_;have aD:h3.n<X4.n:=e4.n;refine WU ?_;refine Vi [Bq T (l.getD 0 0)] M3.hm ?_;intro X5 n5 g5;have e5:WH h3 (z9 h3 X5):=zK5 e4 n5 g5 (QF _) aD;have jj:=zDm (xs:=[Bq T (l.getD 0 0)]) (by rw[g5,QJ rfl]) (by omega:h3.n<X5.n);refine WU ?_;refine VA (ZB _ 4 _ [Bq T (l.getD 0 0)] (M3.made e4 n5 g5 (QF _) aD) jj (by simp) vE) ?_;rintro _ X6 ⟨rfl,e6⟩;rw[ZI];have fE:=e5.trans (ZA (h:=h3) e6);refine WO.nil ?_;refine zC7 e6 ?_;cases c4:BD T 4 (Bq T (l.getD 0 0))with
  |false=>
   refine gUr ?_;exact⟨rfl,e3.trans fE⟩
  |true=>
   have s6:=Vr (s3.ext fE);have o6:=Vx (o3.ext fE);refine WU ?_;refine VA (zJK _ _ _ _ (VO (M3.ext fE)) hc ht0 cD (hn lG)) ?_;rintro _ X7 ⟨rfl,e7⟩;refine WO.nil ?_;refine zC7 e7 ?_;have Ag:=fE.trans (ZA (h:=h3) e7);refine gUr ?_;exact⟨rfl,e3.trans Ag⟩
 rw[QC lG];refine go ?_;by_cases vG:x.op=15
 ·have h2:=h2 (.inl vG);have ht1:=zLS aq (show 1<l.length by omega);have DO:∀ y∈[l.getD 1 0],Bj T y:=fun y hy=>by rw[QO.1 hy];exact ht1
  rw[QJ vG];refine go ?_;refine VC 2 rfl rfl ?_;have ea:=zG 2 h3;have sX:=Vd (s3.ext ea);refine WU ?_;refine VA (zA4 _ _ (M3.aside 2) ht0) ?_;rintro _ X4 ⟨rfl,e4⟩;refine nE e4 ?_;have aD:h3.n+1<X4.n:=e4.n;refine WU ?_;refine Vi [Bq T (l.getD 0 0)] M3.hm ?_;intro X5 n5 g5;have e5:WH h3 (z9 h3 X5):=zK5 e4 n5 g5 (QF _) ω;have jj:=zDm (xs:=[Bq T (l.getD 0 0)]) (by rw[g5,QJ rfl]) (by omega:h3.n<X5.n);refine WU ?_;refine VA (ZB _ 5 _ [Bq T (l.getD 0 0)] (M3.made e4 n5 g5 (QF _) ω) jj (by simp) vE) ?_;rintro _ X6 ⟨rfl,e6⟩;rw[ZI];have fE:=e5.trans (ZA (h:=h3) e6);refine WO.nil ?_;refine zC7 e6 ?_;cases c5:BD T 5 (Bq T (l.getD 0 0))with
  |false=>
   refine WU ?_;refine Wb.no ?_;refine gUr ?_;exact⟨rfl,e3.trans fE⟩
  |true=>
   have s6:=Vr (s3.ext fE);have n6:X5.n<=X6.n:=e6.n;refine WU ?_;refine Vi [l.getD 1 0] (by have:=M3.hm;omega) ?_;intro X7 n7 g7;have Ag:=zE6 fE n7 g7 ω ω;have Nl:=zDm (xs:=[l.getD 1 0]) (by rw[g7,QJ rfl]) (by omega:h3.n+1<X7.n);refine WU ?_;refine VA (ZB _ 1 _ [l.getD 1 0] (VO (M3.ext Ag)) Nl (by simp) DO) ?_;rintro _ X8 ⟨rfl,e8⟩;rw[ZI];have od:=Ag.trans (ZA (h:=h3) e8);refine WO.nil ?_;refine zC7 e8 ?_;cases c1:BD T 1 (l.getD 1 0)with
   |false=>
    refine gUr ?_;exact⟨rfl,e3.trans od⟩
   |true=>
    have s8:=Vr (s3.ext od);have o8:=Vx (o3.ext od);refine WU ?_;rw[show Value.int .i64 0=I 0 from rfl];refine VA (zJK _ _ _ _ (VO (M3.ext od)) hc ht0 cD (Q1 0)) ?_;rintro _ X9 ⟨rfl,e9⟩;have DP:=od.trans (ZA (h:=h3) e9);refine WO.nil ?_;refine zC7 e9 ?_;refine gUr ?_;exact⟨rfl,e3.trans DP⟩
 rw[QC vG];refine go ?_;by_cases Ah:x.op=16
 ·rw[QJ Ah];refine go ?_;refine VC 0 rfl rfl ?_;have ea:=zG 0 h3;have sX:=Vd (s3.ext ea);refine WU ?_;refine VA (zA4 _ _ (M3.aside 0) ht0) ?_;rintro _ X4 ⟨rfl,e4⟩;refine nE e4 ?_;refine WU ?_;have fq:=ea.trans (ZA (h:=h3) e4);refine VA (zCu _ _ (VO (M3.ext fq)) qh) ?_;rintro _ X5 ⟨rfl,e5⟩;refine nE e5 ?_;have gS:=fq.trans (ZA e5);cases c6:zGj T (Bq T (l.getD 0 0))with
  |false=>
   refine WU ?_;refine zDj (fun g hg=>by cases hg) ?_;refine gUr ?_;exact⟨rfl,e3.trans gS⟩
  |true=>
   have s5:=Vr (s3.ext gS);have o5:=Vx (o3.ext gS);refine WU ?_;refine VA (zA4 _ _ (VO (M3.ext gS)) ht0) ?_;rintro _ X6 ⟨rfl,e6⟩;refine nE e6 ?_;have fE:=gS.trans (ZA e6);refine gUr ?_;exact⟨rfl,e3.trans fE⟩
 ·rw[QC Ah];have h2:=h2 (.inr ω);refine go ?_;refine VC 0 rfl rfl ?_;have ea:=zG 0 h3;have sX:=Vd (s3.ext ea);refine WU ?_;refine VA (zA4 _ _ (M3.aside 0) ht0) ?_;rintro _ X4 ⟨rfl,e4⟩;refine nE e4 ?_;refine WU ?_;have fq:=ea.trans (ZA (h:=h3) e4);refine VA (zCu _ _ (VO (M3.ext fq)) qh) ?_;rintro _ X5 ⟨rfl,e5⟩;refine nE e5 ?_;have gS:=fq.trans (ZA e5);cases c6:zGj T (Bq T (l.getD 0 0))with
  |false=>
   refine WU ?_;refine zDj (fun g hg=>by cases hg) ?_;refine gUr ?_;exact⟨rfl,e3.trans gS⟩
  |true=>
   have s5:=Vr (s3.ext gS);refine WU ?_;refine VA (zA4 _ _ (VO (M3.ext gS)) ht0) ?_;rintro _ X6 ⟨rfl,e6⟩;refine nE e6 ?_;have fE:=gS.trans (ZA e6);refine gUr ?_;exact⟨rfl,e3.trans fE⟩
end
def zK2(h h0:WA)(p u:Value)(c:List Value)(t ty:Int)(o:WB h0 h p (u::I ty::c)):G0 302 [I t,p] h fun r h'=>r=.bool (!decide (t=ty))/\h=h':=by
 refine en ?_;refine rt ?_;exact⟨by simp[one],rfl⟩
def zQP{i:Nat}{h:WA}{v:Value}{l:List Int}(s:Wc h v l)(hl:0<l.length)(hi:i<=l.length):∃ r,Zk 1 v (some i) none none=some r/\Wc h r (l.drop i):=by
 obtain⟨h1,⟨h2,_⟩|⟨g,off,row,rfl,h3,h4,h5⟩⟩:=s
 ·omega
 have hlen:(l.drop i).length=l.length-i:=Ga ..;refine⟨.slice (some ⟨g,off+i,none⟩) (l.length-i) 1,?_,by simp,.inr ⟨g,off+i,row,by rw[hlen],h3,?_,h5⟩⟩
 ·have b1:Nat.ble i l.length=true:=QK hi;have b2:Nat.ble l.length l.length=true:=QK (QF _);simp only[Zk,Gv,GG,b1,b2,Q2,GC,cond_true,Gl,G7]
 ·obtain⟨c1,c2⟩:=zEE h4;rw[yz (by rw[hlen];omega),List.map_drop,c2,List.drop_take,JF,hlen];congr 2;omega
section
variable {vt vf:Value}{T:List WF}{F:List We}{f:Int}{ks:List Int}{ps:List (Int×Int)}{rs:List Int}{g:Nat}
def zNs(h:WA)(x:Wu)(cs:List Value)(v:Value)(l:List Int)(M:BT h g vt vf T F f ks ps rs)(hc:y8 T=0)(hR:Bn h cs x)(s:Wc h v l)(hl:l.length<=1000)(aq:∀ t∈l,Bj T t)(cD:Bj T x.ty)
  (hF:∀ f∈F,Bj T f.sig) (hn:x.op=14->0<=x.n) (iJ:x.op=3\/x.op=18->0<=x.n/\x.n<(F.length:Int)) (h1:(x.op=14\/x.op=15\/x.op=16\/x.op=17\/x.op=19)->1<=l.length) (h2:x.op=15\/x.op=17\/x.op=10->2<=l.length):
  G0 277 [.pointer (some ⟨g,0,none⟩),.agg cs.toArray,v] h fun r h'=>r=.bool (zB4 T F x l)/\WH h h':=by
 obtain⟨xa,xf,rfl,fW,gy,dP,mw,ho⟩:=id hR;obtain⟨a1,a2,a3,rfl⟩:=Wm.shape fW;obtain⟨f1,f2,f3,rfl⟩:=Wm.shape gy;obtain⟨b1,b2,b3,rfl⟩:=Wm.shape s;have kl:∀ y∈[x.ty],Bj T y:=fun y hy=>by rw[QO.1 hy];exact cD
 refine en ?_;refine VH ?_;intro p h3 e3 o3;have M3:=M.ext e3;have s3:=s.ext e3;have ea:=zG 0 h3;have sX:=Vd (s3.ext ea);have oX:=Vl (o3.ext ea);unfold zB4;by_cases c2:x.op=2
 ·rw[QJ c2];refine go ?_;refine WO.bl [x.ty] ?_;intro v4 h4 e4 o4;have M4:=M3.ext e4;have It:=o3.ext e4;refine go ?_;refine VA (ZB h4 2 v4 [x.ty] M4 o4.sl (by simp) kl) ?_;rintro _ h5 ⟨rfl,e5⟩;rw[ZI];have vH:=e3.trans (e4.trans e5);cases k2:BD T 2 x.ty with
  |true=>
   refine gr ?_;exact⟨rfl,vH⟩
  |false=>
   have M5:=M4.ext e5;have Iu:=It.ext e5;refine go ?_;refine WO.bl [x.ty] ?_;intro v6 h6 e6 o6;have M6:=M5.ext e6;refine go ?_;refine VA (ZB h6 3 v6 [x.ty] M6 o6.sl (by simp) kl) ?_;rintro _ h7 ⟨rfl,e7⟩;rw[ZI];refine gr ?_;exact⟨rfl,vH.trans (e6.trans e7)⟩
 rw[QC c2];refine go ?_;by_cases c3:x.op=3
 ·rw[QJ c3];refine go ?_;obtain⟨⟨hB,vk,vp,vr,o,a,b,c⟩,st,sf,hm⟩:=M3;obtain⟨n0,n1⟩:=iJ (.inl c3);obtain⟨cs,⟨vb,rfl,sb,fC⟩,pc,bP⟩:=zq (i:=x.n.toNat) sf ω;have jq:=(pc h3 (WH.refl _)).1;refine gr ?_;exact⟨rfl,e3⟩
 rw[QC c3];refine go ?_;by_cases c10:x.op=10
 ·rw[QJ c10];have dK:=h2 (.inr (.inr c10));refine go ?_;refine VC 1 rfl rfl ?_;have Iv:=zG 1 h3;have Nm:=Vd (s3.ext Iv);refine WU ?_;refine VA (ZB _ 2 _ l (M3.aside 1) Nm hl aq) ?_;rintro _ X4 ⟨rfl,e4⟩;refine nE e4 ?_;have aD:h3.n<X4.n:=e4.n;have fq:=Iv.trans (ZA (h:=h3) e4);have o4:=Vx (o3.ext fq);have s4:=Vr (s3.ext fq);cases k2:isL T 2 l with
  |false=>
   refine WU ?_;refine Wb.no ?_;refine gUr ?_;exact⟨rfl,e3.trans fq⟩
  |true=>
   cases k3:decide (l.getD 0 0=l.getD 1 0)with
   |false=>
    refine WU ?_;rw[k3];refine Wb.no ?_;refine gUr ?_;exact⟨rfl,e3.trans fq⟩
   |true=>
   refine WU ?_;rw[k3];refine Vi [x.ty] M3.hm ?_;intro X5 n5 g5;have gS:=zE6 fq n5 g5 (QF _) aD;have jj:=zDm (xs:=[x.ty]) (by rw[g5,QJ rfl]) (by omega:h3.n<X5.n);refine WU ?_;refine VA (ZB _ 1 _ [x.ty] (VO (M3.ext gS)) jj (by simp) kl) ?_;rintro _ X6 ⟨rfl,e6⟩;rw[ZI];have fE:=gS.trans (ZA (h:=h3) e6);refine WO.nil ?_;refine zC7 e6 ?_;refine gUr ?_;exact⟨rfl,e3.trans fE⟩
 rw[QC c10];by_cases sQ:x.op=11\/x.op=12
 ·rw[QJ sQ];have fin:∀ (w:Value) (h4:WA) (e4:WH h3 h4),Wq h3 h4 w [x.ty]->G0 231 [.pointer (some ⟨g,0,none⟩),.int .u8 2,w] h4 fun r h'=>r=.bool (BD T 2 x.ty)/\WH h h':=fun w h4 e4 o4=>WC.mono (ZB h4 2 w [x.ty] (M3.ext e4) o4.sl (by simp) kl) fun r h5 ⟨hr,e5⟩=>⟨by rw[hr,ZI],e3.trans (e4.trans e5)⟩;rcases sQ with sQ|Nn
  ·refine go ?_;refine WO.bl [x.ty] ?_;intro v4 h4 e4 o4;refine go ?_;refine VA (fin v4 h4 e4 o4) ?_;rintro _ h5 ⟨rfl,e5⟩;refine gr ?_;exact⟨rfl,e5⟩
  ·have sQ:¬x.op=11:=ω
   refine go ?_;refine WO.bl [x.ty] ?_;intro v4 h4 e4 o4;refine go ?_;refine VA (fin v4 h4 e4 o4) ?_;rintro _ h5 ⟨rfl,e5⟩;refine gr ?_;exact⟨rfl,e5⟩
 rw[QC sQ];obtain⟨sQ,Nn⟩:¬x.op=11/\¬x.op=12:=ω
 refine go ?_;by_cases c13:x.op=13
 ·rw[QJ c13];refine go ?_;refine VA (ZB h3 2 _ l M3 s3 hl aq) ?_;rintro _ h5 ⟨rfl,e5⟩;refine gr ?_;exact⟨rfl,e3.trans e5⟩
 rw[QC c13];refine go ?_;by_cases lG:x.op=14\/x.op=15\/x.op=16\/x.op=17
 ·rw[QJ lG];have fin:=zK8 h3 x _ _ l M3 hc (hR.ext e3) s3 hl aq cD lG hn (h1 ω) (fun c=>h2 ω);have fin:=WC.mono (Q':=fun r h'=>r=.bool (zNY T x l)/\WH h h') fin fun r h' ⟨hr,e⟩=>⟨hr,e3.trans e⟩;rcases lG with lG|vG|Ah|No
  ·refine go ?_;refine VA fin ?_;rintro _ h5 ⟨rfl,e5⟩;refine gr ?_;exact⟨rfl,e5⟩
  ·have qL:¬x.op=14:=ω
   refine go ?_;refine VA fin ?_;rintro _ h5 ⟨rfl,e5⟩;refine gr ?_;exact⟨rfl,e5⟩
  ·have qL:¬x.op=14:=ω
   have Np:¬x.op=15:=ω
   refine go ?_;refine VA fin ?_;rintro _ h5 ⟨rfl,e5⟩;refine gr ?_;exact⟨rfl,e5⟩
  ·have qL:¬x.op=14:=ω
   have Np:¬x.op=15:=ω
   have Iw:¬x.op=16:=ω
   refine go ?_;refine VA fin ?_;rintro _ h5 ⟨rfl,e5⟩;refine gr ?_;exact⟨rfl,e5⟩
 rw[QC lG];obtain⟨lG,vG,Ah,No⟩:¬x.op=14/\¬x.op=15/\¬x.op=16/\¬x.op=17:=ω
 refine go ?_;by_cases qM:x.op=18
 ·rw[QJ qM];refine go ?_;refine VC 0 rfl rfl ?_;obtain⟨⟨hB,vk,vp,vr,o,a,b,c⟩,st,sf,hm⟩:=M3.aside 0;obtain⟨n0,n1⟩:=iJ (.inr qM);obtain⟨cs,⟨vb,rfl,sb,fC⟩,pc,bP⟩:=zq (i:=x.n.toNat) sf ω;have jq:=(pc _ (WH.refl _)).1;refine WU ?_;refine VA (zHe _ (F.getD x.n.toNat default).sig x.ty _ l (M3.aside 0) ((by refine hF _ ?_;rw[QD,QB (show x.n.toNat<F.length by omega)];exact JE _)) sX hl) ?_;rintro _ X4 ⟨rfl,e4⟩;refine nE e4 ?_;have fq:=ea.trans (ZA (h:=h3) e4);refine gUr ?_;exact⟨rfl,e3.trans fq⟩
 rw[QC qM];refine go ?_;by_cases c19:x.op=19
 ·rw[QJ c19];have fw:=h1 ω;refine go ?_;refine VC 0 rfl rfl ?_;obtain⟨r,bP,sr⟩:=zQP (i:=1) sX ω fw;refine WU ?_;refine VT (i:=1) (hy:=rfl) bP ?_;refine WU ?_;refine VA (zHe _ (l.getD 0 0) x.ty _ (l.drop 1) (M3.aside 0) (zLS aq ω) sr (by simp;omega)) ?_;rintro _ X4 ⟨rfl,e4⟩;refine nE e4 ?_;have fq:=ea.trans (ZA (h:=h3) e4);refine gUr ?_;exact⟨rfl,e3.trans fq⟩
 rw[QC c19];refine go ?_;by_cases c22:x.op=22
 ·rw[QJ c22];refine go ?_;refine VA (zCu h3 x.ty M3 cD) ?_;rintro _ h4 ⟨rfl,e4⟩;have cg:=e3.trans e4;cases k1:zGj T x.ty with
  |false=>
   refine gr ?_;exact⟨rfl,cg⟩
  |true=>
   have s4:=s3.ext e4;have o4:=o3.ext e4;refine go ?_;refine VA (zAi h4 _ _ l (fun t=> !decide (t=x.ty)) s4 ω ?_) ?_
   ·intro t ht h5 e5;exact WV.func (WC.mono (zK2 h5 _ p _ _ t x.ty (o4.ext e5)) fun r h6 ⟨hr,he⟩=>⟨hr,he▸WH.refl _⟩)
   rintro _ h5 ⟨rfl,e5⟩;refine gr ?_;refine⟨?_,cg.trans e5⟩;show Value.bool _=_;rw[List.not_any_eq_all_not];simp
 rw[QC c22];refine go ?_;by_cases c21:x.op=21
 ·rw[QJ c21];refine go ?_;refine VA (ZB h3 1 _ l M3 s3 hl aq) ?_;rintro _ h5 ⟨rfl,e5⟩;refine gr ?_;exact⟨rfl,e3.trans e5⟩
 rw[QC c21];refine go ?_;refine VA (ZB h3 1 _ l M3 s3 hl aq) ?_;rintro _ h5 ⟨rfl,e5⟩;have bh:=e3.trans e5;cases k1:isL T 1 l with
 |false=>
  refine gr ?_;exact⟨rfl,bh⟩
 |true=>
  have M5:=M3.ext e5;have o5:=o3.ext e5;refine go ?_;refine WO.bl [x.ty] ?_;intro v6 h6 e6 o6;refine go ?_;refine VA (ZB h6 1 v6 [x.ty] (M5.ext e6) o6.sl (by simp) kl) ?_;rintro _ h7 ⟨rfl,e7⟩;rw[ZI];refine gr ?_;exact⟨rfl,bh.trans (e6.trans e7)⟩
end
def zTX{xs:List Int}{n:Nat}{c:Int}(h0:0<=c)(h1:c<(n:Int)):(Yk xs n).getD c.toNat 0=upL xs c:=by
 unfold Yk;rw[QD,GQ,List.getElem?_range ω];show upL xs ((c.toNat:Nat):Int)=_;rw[show((c.toNat:Nat):Int)=c by omega]
section
variable {vt vf:Value}{T:List WF}{F:List We}{f:Int}{ks:List Int}{ps:List (Int×Int)}{xs:List Int}{n:Nat}{g:Nat}{nx:Int->List Int}
def zOX(h:WA)(a b:Int)(M:BT h g vt vf T F f ks ps (Yk xs n))(r:Rul nx xs)(w:Wx nx 0 b)(hb:0<=b/\b<16)(aq:∀ c,Wx nx 0 c->0<=c/\c<(n:Int))(ha:0<=a):
  G0 305 [.pointer (some ⟨g,0,none⟩),I a,I b] h fun q h'=>(∃ bb,q=.bool bb/\(bb=true↔BU nx a b))/\h=h':=by
 obtain⟨⟨hB,vk,vp,vr,o,ka,kb,kc⟩,st,sf,hm⟩:=M;have aq:=Wi.mk aq;refine en ?_;refine VD (fun i=>16-i) (fun i t h1=>h=h1/\∃ c,zC t 2=I c/\Wi (Chn nx a b i c false)) 0 ?_ ?_
 ·exact⟨rfl,b,WJ,⟨.inr ⟨w,hb,by have:=zSv nx b;omega,by simp⟩⟩⟩
 rintro i t _ ab ⟨rfl,c,s2,hC⟩;by_cases mJ:c=a
 ·subst mJ;have hd:BU nx c b:=by
   rcases hC.out with⟨h1,_⟩|⟨_,_,_,h2⟩
   ·omega
   ·exact h2.2 (.inr (BU.self nx c))
  refine gr ?_;exact⟨⟨true,by simp[one],by simp[hd]⟩,rfl⟩
 by_cases pt:c= -1
 ·have hd:¬BU nx a b:=by
   rcases hC.out with⟨_,h2⟩|⟨_,h1,_⟩
   ·rw[h2];simp
   ·omega
  have HM:(a == c)=false:=by simp;exact fun e=>mJ e.symm
  refine gr ?_;exact⟨⟨false,by simp[one];exact fun e=>mJ e.symm,by simp[hd]⟩,rfl⟩
 have a8:0<=c:=by
  rcases hC.out with⟨h1,_⟩|⟨_,h1,_⟩
  ·exact absurd h1 pt
  ·exact h1.1
 obtain⟨wc,Nq,Nr⟩:=hC.out.way a8;have ub:=aq.out c wc;have TK:=zOR xs n;have DQ:=zTX (xs:=xs) ub.1 ub.2;have jM:Chn nx a b (i+1) (upL xs c) false:=by
  by_cases hz:c=0
  ·subst hz;have:=hC.out.last;rw[show(false||decide ((0:Int)=a))=false by simp;exact fun e=>mJ e]at this;unfold upL;rw[QJ rfl];exact this
  ·have:=(hC.out.next r (show 0<c by omega)).1;rw[show(false||decide (c=a))=false by simp;exact mJ]at this;unfold upL;rw[QC hz];exact this
 refine go ?_;exact zA (i+1) ω ⟨rfl,upL xs c,by rw[<-DQ];exact WJ,⟨jM⟩⟩
def zGi(nx:Int->List Int)(p:Int×Int)(block at':Int):Prop:=if p.1=block then p.2<at' else p.1= -1\/BU nx p.1 block
def zPr(h h1 h2 h3:WA)(p1 p2 p3:Value)(x block at':Int)(M:BT h g vt vf T F f ks ps (Yk xs n))(r:Rul nx xs)(w:Wx nx 0 block)(hb:0<=block/\block<16)(aq:∀ c,Wx nx 0 c->0<=c/\c<(n:Int))
  (o1:WB h1 h p1 [.pointer (some ⟨g,0,none⟩)]) (o2:WB h2 h p2 [I block]) (o3:WB h3 h p3 [I at']) (hx:0<=x/\x<(ps.length:Int)) (hp:(ps.getD x.toNat default).1= -1\/0<=(ps.getD x.toNat default).1):
  G0 304 [I x,p1,p2,p3] h fun q h'=>(∃ bb,q=.bool bb/\(bb=true↔¬zGi nx (ps.getD x.toNat default) block at'))/\WH h h':=by
 obtain⟨⟨hB,vk,vp,vr,o,ka,kb,kc⟩,st,sf,hm⟩:=id M;obtain⟨cs,rfl,pc,hs⟩:=zq (i:=x.toNat) kb ω;have jq:=(pc h (WH.refl _)).1;obtain⟨_,_,_,rfl⟩:=zD kb;generalize hq:ps.getD x.toNat default=q at *;obtain⟨q1,q2⟩:=q;unfold zGi;refine en ?_;refine WO.al ?_;intro p4 h4 e4 o4;refine go ?_;refine VG (cs:=[I q1,I q2]) o4 e4 ?_;intro h5 e5 o5 u5;have o1:=o1.ext e5;have o2:=o2.ext e5;have o3:=o3.ext e5;have M5:=M.ext e5;by_cases c1:q1=block
 ·subst c1;refine gr ?_;refine⟨⟨_,rfl,?_⟩,e5⟩;simp
 ·have pt:(q1 == block)=false:=by simp;exact c1
  by_cases c2:q1= -1
  ·refine gr ?_;exact⟨⟨_,rfl,by rw[QC c1];simp[c2]⟩,e5⟩
  ·refine go ?_;refine VA (zOX h5 q1 block M5 r w hb aq (by rcases hp with h|h;exact absurd h c2;exact h)) ?_;rintro _ _ ⟨⟨bb,rfl,aR⟩,rfl⟩;refine gr ?_;refine⟨⟨!bb,rfl,?_⟩,e5⟩;rw[QC c1];cases bb
   ·simp at aR;simp[aR,c2]
   ·simp at aR;simp[aR]
def zIX(h:WA)(v:Value)(l:List Int)(block at':Int)(M:BT h g vt vf T F f ks ps (Yk xs n))(r:Rul nx xs)(w:Wx nx 0 block)(hb:0<=block/\block<16)(aq:∀ c,Wx nx 0 c->0<=c/\c<(n:Int))
  (s:Wc h v l) (hl:l.length<=1000) (hx:∀ x∈l,0<=x/\x<(ps.length:Int)) (hp:∀ i,i<ps.length->(ps.getD i default).1= -1\/0<=(ps.getD i default).1):
  G0 279 [.pointer (some ⟨g,0,none⟩),I block,I at',v] h fun q h'=>(∃ bb,q=.bool bb/\(bb=true↔∀ x∈l,zGi nx (ps.getD x.toNat default) block at'))/\WH h h':=by
 refine en ?_;refine VH ?_;intro p1 h1 e1 o1;refine go ?_;refine VH ?_;intro p2 h2 e2 o2;refine go ?_;refine VH ?_;intro p3 h3 e3 o3;have bQ:=e1.trans (e2.trans e3);have o1:=o1.ext (e2.trans e3);have o2:=o2.ext e3;have M3:=M.ext bQ;have s3:=s.ext bQ;refine go ?_;refine VA (zAi h3 v _ l (fun x=>open Classical in decide (¬zGi nx (ps.getD x.toNat default) block at')) s3 ω ?_) ?_
 ·intro x Ix h4 e4;refine WV.func (WC.mono (zPr h4 h h1 h2 p1 p2 p3 x block at' (M3.ext e4) r w hb aq (o1.ext e4) (o2.ext e4) (o3.ext e4) (hx x Ix) (hp _ (by have:=hx x Ix;omega))) ?_);rintro _ h5 ⟨⟨bb,rfl,aR⟩,e5⟩;refine⟨?_,e5⟩;congr 1;cases bb<;>simp_all
 rintro _ h4 ⟨rfl,e4⟩;refine gr ?_;refine⟨⟨_,rfl,?_⟩,bQ.trans e4⟩;simp
end
structure Gr(F:List We)(f:Int)(nx:Int->List Int)(xs:List Int)(ps:List (Int×Int))(L:List Wk):Prop where
 hf:0<=f/\f<(F.length:Int)
 hL:(F.getD f.toNat default).blocks=L
 n:L.length<=16
 r:Rul nx xs
 way:∀ c,0<=c->c<(L.length:Int)->Wx nx 0 c
 inn:∀ c,Wx nx 0 c->0<=c/\c<(L.length:Int)
 pl:∀ i,i<ps.length->(ps.getD i default).1= -1\/0<=(ps.getD i default).1
def zUt(nx:Int->List Int)(ps:List (Int×Int))(L:List Wk)(frm args:List Int):Prop:=∀ i,i<frm.length->zGi nx (ps.getD (args.getD i 0).toNat default) (frm.getD i 0) ((L.getD (frm.getD i 0).toNat default).ins.length)
section
variable {vt vf:Value}{T:List WF}{F:List We}{f:Int}{ks:List Int}{ps:List (Int×Int)}{xs:List Int}{g:Nat}{nx:Int->List Int}{L:List Wk}
def zSa(h:WA)(x:Wu)(cs:List Value)(v:Value)(l:List Int)(M:BT h g vt vf T F f ks ps (Yk xs L.length))(G:Gr F f nx xs ps L)(hR:Bn h cs x)(s:Wc h v l)
  (jG:∀ i,i<x.frm.length->0<=x.frm.getD i 0/\x.frm.getD i 0<(L.length:Int)) (hlen:x.frm.length<=x.args.length) (hx:∀ i,i<x.args.length->0<=x.args.getD i 0/\x.args.getD i 0<(ps.length:Int)):
  G0 278 [.pointer (some ⟨g,0,none⟩),.agg cs.toArray,v] h fun q h'=>(∃ bb,q=.bool bb/\(bb=true↔x.frm=l/\zUt nx ps L x.frm x.args))/\WH h h':=by
 have jG:=Wi.mk jG;have hx:=Wi.mk hx;obtain⟨xa,xf,rfl,fW,gy,dP,mw,ho⟩:=id hR;obtain⟨a1,a2,a3,rfl⟩:=Wm.shape fW;obtain⟨f1,f2,f3,rfl⟩:=Wm.shape gy;refine en ?_;refine VH ?_;intro p h3 e3 o3;have nP:=gy.ext e3;have s3:=s.ext e3;refine go ?_;refine VA (zHb h3 _ _ x.frm l nP s3 ω) ?_;rintro _ _ ⟨rfl,rfl⟩;by_cases bF:x.frm=l;case neg=>
  rw[QY bF];refine gr ?_;exact⟨⟨false,rfl,by simp[bF]⟩,e3⟩
 rw[Qa bF];refine go ?_;refine VD (fun i=>x.frm.length-i) (fun i t h1=>WH h3 h1/\zC t 17=I i/\i<=x.frm.length/\Wi (∀ j,j<i->zGi nx (ps.getD (x.args.getD j 0).toNat default) (x.frm.getD j 0) ((L.getD (x.frm.getD j 0).toNat default).ins.length))) 0 ?_ ?_
 ·exact⟨WH.refl _,WJ,QQ _,⟨fun j hj=>absurd hj (GJ _)⟩⟩
 rintro i t h4 ab ⟨e4,TM,hi,hI⟩;have sx:=e3.trans e4;have vI:=nP.ext e4;have o4:=o3.ext e4;refine F0 ?_ ?_<;>intro hb
 ·have Iy:i<x.frm.length:=ω
  have Af:i<x.args.length:=ω
  have vJ:=jG.out i Iy;have pI:=hx.out i Af;have hG:=G.hf;have DR:=G.hL;have M4:=M.ext sx;refine go ?_;refine VC 1 rfl rfl ?_;have ea:=zG 1 h4;have Ad:=Vd (fW.ext (sx.trans ea));have xY:=Vl (o4.ext ea);obtain⟨⟨hB,vk,vp,vr,o,a,b,c⟩,st,sf,hm⟩:=M4.aside 1;obtain⟨cs,⟨vb,rfl,sb,fC⟩,pc,bP⟩:=zq (i:=f.toNat) sf ω;have jq:=(pc _ (WH.refl _)).1;rw[DR]at sb;obtain⟨DT,⟨vi,rfl,si,qo⟩,ix,mL⟩:=zq (i:=(x.frm.getD i 0).toNat) sb ω;have Ai:=(ix _ (WH.refl _)).1;refine WU ?_;refine Vi [x.args.getD i 0] M4.hm ?_;intro X5 n5 g5;have TN:X5.n=h4.n+1:=n5;have e5:WH h4 (z9 h4 X5):=zE6 (X:=zB 1 h4) ea n5 g5 (QF _) (Q9 _);have jj:=zDm (xs:=[x.args.getD i 0]) (by rw[g5,QJ rfl]) (by omega:h4.n<X5.n);have M5:=VO (M4.ext e5);clear o st sf hm c b a;refine WU ?_;refine VA (zIX _ _ [x.args.getD i 0] (x.frm.getD i 0) ((L.getD (x.frm.getD i 0).toNat default).ins.length) M5 G.r (G.way _ vJ.1 vJ.2) (by have:=G.n;omega) G.inn jj (by simp) (fun y hy=>by rw[QO.1 hy];exact pI) G.pl) ?_;rintro _ X6 ⟨⟨bb,rfl,aR⟩,e6⟩;simp only[QO,forall_eq]at aR;have fE:=e5.trans (ZA (h:=h4) e6);refine WO.nil ?_;refine zC7 e6 ?_;refine WU ?_;cases bb with
  |false=>
   refine gr ?_;refine⟨⟨false,rfl,?_⟩,sx.trans fE⟩;simp only[Qy,JW,not_and];intro _ aP;exact absurd (aR.2 (aP i Iy)) Bool.noConfusion
  |true=>
   refine go ?_;refine zA (i+1) ω ⟨e4.trans fE,Wy,ω,⟨fun j hj=> ?_⟩⟩;by_cases e:j=i
   ·subst e;exact aR.1 rfl
   ·exact hI.out j ω
 ·have bj:i=x.frm.length:=ω
  subst bj;refine gr ?_;exact⟨⟨true,rfl,by simp only[true_iff];exact⟨bF,hI.out⟩⟩,sx⟩
end
def VS{P:Program}{tab:Ws}{l:List WE}{t:WG Value}{ds:List Deferred}{rd:Option Nat}{h:WA}{Q:WM->WA->Prop}{d:Nat}{ty:TypeId}{x:Operand}{v:Value}(k:WO P tab l ⟨t.set d (.iface ty v),ds,rd⟩ h Q)(hx:WN t x v:=by exact zN):WO P tab (⟨some d,none,.mkIface ty x⟩::l) ⟨t,ds,rd⟩ h Q:=
 WO.op _ _ rfl (by unfold WN at *;simp only[WK,hx]) k
def ZP{P:Program}{tab:Ws}{m N0 g:Nat}{o:WE}{un:List Nat}{l:List (WE×List Nat)}{fr:WM}{h:WA}{Q:WM->WA->Prop}{t:WG Value}(hr:zc t o=none)(hx:Wb P tab m N0 l g true fr (inC h) Q):uK2 P tab m N0 un t o (inC h) l g true Q fr (inC h):=
 zDj (fun g hg=>by rw[hr]at hg;cases hg) hx
structure InsT(T:List WF)(F:List We)(x:Wu):Prop where
 ty:Bj T x.ty
 n14:x.op=14->0<=x.n
 n2:x.op=3\/x.op=18->0<=x.n/\x.n<(F.length:Int)
 l1:x.op=14\/x.op=15\/x.op=16\/x.op=17\/x.op=19->1<=(yc x).length
 l2:x.op=15\/x.op=17\/x.op=10->2<=(yc x).length
def zHJ{x:Wu}{N n:Int}(u:InsU x N n):(yc x).length<=30:=by
 have:=u.args;unfold yc;simp only[QH];have h1:(if(zl x.op).1 then[x.a]else[]).length<=1:=by split<;>simp
 have h2:(if(zl x.op).2.1 then[x.b]else[]).length<=1:=by split<;>simp
 have h3:(if(zl x.op).2.2.2.1 then x.args else[]).length<=20:=by
  split
  ·exact this
  ·exact QQ _
 omega
def zUX{T:List WF}{F:List We}{f:We}{x:Wu}(hT:0<T.length)(h:zDK x (szL T F.length f)=true):InsT T F x:=by
 have ho:=zQ6 h;have m:=(zFQ ω).1 h;have ha:=zFD (op:=x.op) ω;have cD:=m.ans;have hn:=m.num;refine⟨?_,fun e=> ?_,fun e=> ?_,fun e=> ?_,fun e=> ?_⟩
 ·split at cD
  ·exact .inr cD
  ·exact .inr ⟨ω,ω⟩
 ·unfold zON at hn;rw[QC ω,QC ω,QJ e]at hn;exact hn.1
 ·unfold zON at hn;rw[QC ω,QJ e]at hn;exact hn
 ·have h1:(zl x.op).1=true:=ha.2.1.2 (by unfold zKO zL8;omega);unfold yc;rw[h1];simp
 ·have h1:(zl x.op).1=true:=ha.2.1.2 (by unfold zKO zL8;omega);have h2:(zl x.op).2.1=true:=ha.1.2 (by unfold zL8;omega);unfold yc;rw[h1,h2];simp
def Yj(ks rs:List Int):List Int:=rs.map fun r=>ks.getD r.toNat 0
def zIM(T:List WF)(F:List We)(ks:List Int)(ps:List (Int×Int))(nx:Int->List Int)(L:List Wk)(P:List Int)(b:Int)(i:Nat)(pre:Prop)(x:Wu):Prop:=
 ¬(-1:Int)∈Yj ks (yc x)/\zB4 T F x (Yj ks (yc x))=true/\(x.op=22->pre/\x.frm=P/\zUt nx ps L x.frm x.args)/\(x.op≠22->∀ r∈yc x,zGi nx (ps.getD r.toNat default) b i)
def Yn(T:List WF)(F:List We)(ks:List Int)(ps:List (Int×Int))(nx:Int->List Int)(L:List Wk)(P:List Int)(b:Int)(i:Nat):Prop:=
 zIM T F ks ps nx L P b i (∀ j,j<i->((L.getD b.toNat default).ins.getD j default).op=22) ((L.getD b.toNat default).ins.getD i default)
def zL6(T:List WF)(F:List We)(f:Int)(ks:List Int)(ps:List (Int×Int))(nx:Int->List Int)(b:Int)(B:Wk):Prop:=
 (¬(-1:Int)∈Yj ks (yr B.fin)/\∀ r∈yr B.fin,zGi nx (ps.getD r.toNat default) b B.ins.length)/\(B.fin.kind=2->isL T 1 (Yj ks (yr B.fin))=true)/\(B.fin.kind=1\/B.fin.kind=2->B.fin.to≠0/\(B.fin.kind=1\/B.fin.aK≠0))/\(B.fin.kind=3->(Yj ks (yr B.fin)).getD 0 0=(T.getD (F.getD f.toNat default).sig.toNat default).elem)
def zAe(T:List WF)(F:List We)(f:Int)(ks:List Int)(ps:List (Int×Int))(nx:Int->List Int)(L:List Wk)(b:Int):Prop:=zL6 T F f ks ps nx b (L.getD b.toNat default)
def tyF:Nat:=286
def SO(f b:Int):Value:= .iface tyF (.agg #[I f,I b,I 120])
section
variable {vt vf:Value}{T:List WF}{F:List We}{f:Int}{ks:List Int}{ps:List (Int×Int)}{xs:List Int}{g:Nat}{nx:Int->List Int}{L:List Wk}
def Uk{X:WA}{v:Value}{l:List Wu}(o:Bx X v l):Bx (inC X) v l:=o
def zQk{h:WA}{vi:Value}{B:Wk}{i:Nat}(s:Bx h vi B.ins)(hi:i<B.ins.length):∃ cs,Bn h cs (B.ins.getD i default)/\(∀ h',WH h h'->Wv h' vi (i*7) cs/\Wv (inC h') vi (i*7) cs)/\zJQ vi:=zq s hi
def zO3:Nat->WT->WT
 |n+1,.seq _ b=>zO3 n b
 |_,c=>c
noncomputable def zNU:WT:=(oV (oR [oB .lss 54 53 52]) (oV (oT 54 0) (oV (o5 1 (oV (oR [oM 55 53,oI 7 56 51 53,oA 7 57 56,⟨some 11,none,(.alloc [(.int .u8 0),(.int .i64 0),(.int .i64 0),(.int .i64 0),(.int .i64 0),(.slice none 0 0),(.slice none 0 0)])⟩,oM 10 55,oS 7 11 57]) (oV (oR [oA 7 58 11,o1 59 257 58,oM 12 59]) (oV (oR [oM 60 0,oM 61 12,o2 62 275 60 61,oM 13 62]) (o5 2 (oV (oR [oM 72 13,⟨some 73,none,(.call (.func 276) [(.tmp 72),(.const (.int .i64 (-1)))])⟩,oM 74 73,oH 74 (oM 75 0),oH 74 (oA 7 76 11),oH 74 (oM 77 13),oH 74 (o3 78 277 75 76 77),oH 74 (oW 79 78),oO 80 74 79,oM 71 80]) (oJ 71 (oV (oR [oA 3 81 8,⟨some 82,none,(.mkIface 286 (.tmp 81))⟩,oM 4 82]) .ret) (oV (oR [oF 0 84 11,oL 85 84,oD .eql 86 85 22,oM 83 86]) (oJ 83 (oV (oR [oM 87 9,oW 88 87,oM 89 88,oH 89 (oM 90 0),oH 89 (oA 7 91 11),oH 89 (oM 92 6),oH 89 (o3 93 278 90 91 92),oH 89 (oW 94 93),oO 95 89 94]) (oJ 95 (oV (oR [oA 3 96 8,⟨some 97,none,(.mkIface 286 (.tmp 96))⟩,oM 4 97]) .ret) .skip)) (oV (oR [oZ 9]) (oV (oR [oM 63 0,oM 64 1,oM 65 10,oM 66 12,o4 67 279 63 64 65 66,oW 68 67]) (oJ 68 (oV (oR [oA 3 69 8,⟨some 70,none,(.mkIface 286 (.tmp 69))⟩,oM 4 70]) .ret) .skip)))))))))))) (oR [oC .add 98 53 1,oM 53 98]))))
noncomputable def zM5:WT:=(oV (oR [⟨some 4,none,(.mov (.const .nilIface))⟩]) (oV (o6 [oM 16 0,(⟨some 17,none,(.nilCheck (.tmp 16))⟩,[]),oF 0 18 17,oF 1 19 18,oL 20 19,oM 21 0,(⟨some 22,none,(.nilCheck (.tmp 21))⟩,[]),oF 2 23 22,oL 24 23,oI 2 25 20 24,oF 1 26 25,oL 27 26,oM 28 1,oI 5 29 27 28,oA 5 30 29,(⟨some 5,none,(.alloc [(.slice none 0 0),(.int .u8 0),(.int .i64 0),(.int .i64 0),(.int .i64 0)])⟩,[]),oS 5 5 30]) (oV (o6 [oM 32 0,(⟨some 33,none,(.nilCheck (.tmp 32))⟩,[]),oF 0 34 33,oA 2 35 34,oM 36 0,(⟨some 37,none,(.nilCheck (.tmp 36))⟩,[]),oF 2 38 37,oL 39 38,oM 40 1,o3 41 274 35 39 40,oM 31 41,oE 42 31 0,oE 43 31 1,oM 6 42,oM 7 43]) (oV (oR [oM 44 0,⟨some 45,none,(.nilCheck (.tmp 44))⟩,oF 2 46 45,oL 47 46,oM 48 1,⟨some 49,none,(.build [(.int .i64 0),(.int .i64 0),(.int .i64 0)] [(0,1,(.tmp 47)),(1,1,(.tmp 48)),(2,1,(.const (.int .i64 120)))])⟩,⟨some 8,none,(.alloc [(.int .i64 0),(.int .i64 0),(.int .i64 0)])⟩,oS 3 8 49]) (oV (oR [oK 9 (.bool true)]) (oV (oV (oR [oF 0 50 5,oL 51 50,oQ 52 51,oN 53 0]) (o5 0 (.loop zNU))) (oV (oR [oM 99 0,oF 1 100 5,oA 4 101 100,o1 102 280 101,o2 103 275 99 102,oM 14 103]) (oV (o6 [oM 104 14,(⟨some 105,none,(.call (.func 276) [(.tmp 104),(.const (.int .i64 (-1)))])⟩,[]),oW 106 105,oM 107 106,oG 107 (oM 108 0),oG 107 (oM 109 1),oG 107 (oF 0 110 5),oG 107 (oL 111 110),oG 107 (oQ 112 111),oG 107 (oF 1 113 5),oG 107 (oA 4 114 113),(oG 107 (o1 115 280 114),[7]),oG 107 (o4 116 279 108 109 112 115),oP 117 107 116,oM 15 117]) (oV (oV (oR [oF 1 118 5,oF 0 119 118,oL 120 119]) (o5 3 (oV (o5 6 (oV (o5 5 (oV (o5 4 (oV (oV (oV (oR [oD .eql 122 120 2,oM 121 122]) (oJ 121 (.exit 4) .skip)) (oV (oV (oR [oD .eql 124 120 1,oM 123 124]) (oJ 123 (.exit 5) .skip)) (oV (oR [oD .eql 126 120 3,oM 125 126]) (oJ 125 (.exit 6) .skip)))) (.exit 3))) (oR [oM 127 15,oM 128 127,oG 128 (oM 129 0),oG 128 (oM 130 14),⟨some 131,some (128,true),(.call (.func 231) [(.tmp 129),(.const (.int .u8 1)),(.tmp 130)])⟩,oP 132 128 131,oM 15 132]))) (oV (oR [oM 133 15,oM 134 133,oG 134 (oF 1 135 5),oG 134 (oF 2 136 135),oG 134 (oL 137 136),oG 134 (oC .neq 138 137 0),oP 139 134 138,oM 140 139,oG 140 (oF 1 141 5),oG 140 (oF 0 142 141),oG 140 (oL 143 142),oG 140 (oD .eql 144 143 1),oG 140 (oM 145 144),oH 145 (oF 1 146 5),oH 145 (oF 3 147 146),oH 145 (oL 148 147),oH 145 (oC .neq 149 148 0),oG 140 (oO 150 145 149),oP 151 140 150,oM 15 151]) (.exit 3)))) (oV (o6 [oM 152 15,oM 153 152,oG 153 (oM 154 14),(⟨some 155,some (153,true),(.idx 1 (.tmp 154) (.const (.int .i64 0)))⟩,[]),oG 153 (oL 156 155),oG 153 (oM 157 0),(⟨some 158,some (153,true),(.nilCheck (.tmp 157))⟩,[]),oG 153 (oF 0 159 158),oG 153 (oF 0 160 159),oG 153 (oL 161 160),oG 153 (oM 162 0),(⟨some 163,some (153,true),(.nilCheck (.tmp 162))⟩,[]),oG 153 (oF 0 164 163),oG 153 (oF 1 165 164),oG 153 (oL 166 165),oG 153 (oM 167 0),(⟨some 168,some (153,true),(.nilCheck (.tmp 167))⟩,[]),oG 153 (oF 2 169 168),oG 153 (oL 170 169),oG 153 (oI 2 171 166 170),oG 153 (oF 0 172 171),oG 153 (oL 173 172),oG 153 (oI 4 174 161 173),oG 153 (oF 1 175 174),oG 153 (oL 176 175),oG 153 (oB .eql 177 156 176),oP 178 153 177,oM 15 178]) (.exit 3))))) (oV (oV (oR [oM 179 15,oW 180 179]) (oJ 180 (oV (oR [oA 3 181 8,⟨some 182,none,(.mkIface 286 (.tmp 181))⟩,oM 4 182]) .ret) .skip)) (oV (oR [⟨some 4,none,(.mov (.const .nilIface))⟩]) .ret)))))))))))
def zLZ(h h8 h0 jl:WA)(t8:WG Value)(b:Int)(B:Wk)(P:List Int)(p5 p8 vl vi:Value)(q:Bool)(gU:WH h h8)(M8:BT h8 g vt vf T F f ks ps (Yk xs L.length))(hG:0<=f/\f<(F.length:Int))(Aj:L.getD b.toNat default=B)
  (dV:0<=(F.getD f.toNat default).sig/\(F.getD f.toNat default).sig<(T.length:Int)) (kn:∀ t∈Yj ks (yr B.fin),Bj T t) (mM:(Yj ks (yr B.fin)).length=(yr B.fin).length) (Iz:(yr B.fin).length<=1)
  (Ns:WB h0 h8 p5 [vi,.int .u8 B.fin.kind,I B.fin.a,I B.fin.to,I B.fin.aK]) (Nt:WB jl h8 p8 [I f,I b,I 120]) (Nu:Wc h8 vl (Yj ks (yr B.fin)))
  (s0:zC t8 0=.pointer (some ⟨g,0,none⟩)) (s1:zC t8 1=I b) (s5:zC t8 5=p5) (s8:zC t8 8=p8) (Ak:zC t8 14=vl) (vz:zC t8 15=.bool q)
  (hI:Wi (∀ j,j<B.ins.length->Yn T F ks ps nx L P b j)) (hq:Wi (q=true↔¬(-1:Int)∈Yj ks (yr B.fin)/\∀ r∈yr B.fin,zGi nx (ps.getD r.toNat default) b B.ins.length)):
  WX Tryz.prog tb (zO3 8 zM5) ⟨t8,[],none⟩ h8 (zGN Tryz.prog tb [(4,none)] fun q h'=>(q=.nilIface/\(∀ i,i<B.ins.length->Yn T F ks ps nx L P b i)/\zAe T F f ks ps nx L b\/q=SO f b/\¬((∀ i,i<B.ins.length->Yn T F ks ps nx L P b i)/\zAe T F f ks ps nx L b))/\WH h h'):=by
 simp only[zO3,oV,zM5];have hE:zAe T F f ks ps nx L b↔zL6 T F f ks ps nx b B:=by unfold zAe;rw[Aj]
 unfold zL6 at hE;rw[<-hq.out]at hE;have eW:∀ {h'},zAe T F f ks ps nx L b->WH h h'->(Value.nilIface=.nilIface/\(∀ i,i<B.ins.length->Yn T F ks ps nx L P b i)/\zAe T F f ks ps nx L b\/Value.nilIface=SO f b/\¬((∀ i,i<B.ins.length->Yn T F ks ps nx L P b i)/\zAe T F f ks ps nx L b))/\WH h h':=fun he e=>⟨.inl ⟨rfl,hI.out,he⟩,e⟩;have dW:∀ {h'},¬zAe T F f ks ps nx L b->WH h h'->(SO f b=.nilIface/\(∀ i,i<B.ins.length->Yn T F ks ps nx L P b i)/\zAe T F f ks ps nx L b\/SO f b=SO f b/\¬((∀ i,i<B.ins.length->Yn T F ks ps nx L P b i)/\zAe T F f ks ps nx L b))/\WH h h':=fun hn e=>⟨.inr ⟨rfl,fun⟨_,a⟩=>hn a⟩,e⟩;have hE:=Wi.mk hE;have eW:=Wi.mk @eW;have dW:=Wi.mk @dW;refine go ?_;by_cases k2:B.fin.kind=2
 ·have k1:¬B.fin.kind=1:=ω
  have k3:¬B.fin.kind=3:=ω
  cases q with
  |false=>
   refine go ?_;refine VS ?_;refine gr ?_;exact dW.out (fun e'=>have e:=hE.out.1 e';absurd e.1 Bool.noConfusion) gU
  |true=>
   refine go ?_;refine VA (ZB h8 1 vl _ M8 Nu ω kn) ?_;rintro _ h9 ⟨rfl,e9⟩;have TO:=Ns.ext e9;have IA:=Nt.ext e9;cases c1:isL T 1 (Yj ks (yr B.fin))with
   |false=>
    refine go ?_;refine VS ?_;refine gr ?_;exact dW.out (fun e'=>have e:=hE.out.1 e';absurd ((e.2.1 k2).symm.trans c1) Bool.noConfusion) (gU.trans e9)
   |true=>
    by_cases ct:B.fin.to=0
    ·have DU:¬B.fin.to≠0:=fun h=>h ct;refine go ?_;refine VS ?_;refine gr ?_;exact dW.out (fun e'=>have e:=hE.out.1 e';(e.2.2.1 (.inr k2)).1 ct) (gU.trans e9)
    ·have DU:B.fin.to≠0:=ct;by_cases ce:B.fin.aK=0
     ·have Nv:¬B.fin.aK≠0:=fun h=>h ce;refine go ?_;refine VS ?_;refine gr ?_;exact dW.out (fun e'=>have e:=hE.out.1 e';(e.2.2.1 (.inr k2)).2.elim k1 (fun h=>h ce)) (gU.trans e9)
     ·have Nv:B.fin.aK≠0:=ce;refine go ?_;rw[QY ce];refine gr ?_;exact eW.out (hE.out.2 ⟨rfl,fun _=>c1,fun _=>⟨ct,.inr ce⟩,fun h=>absurd h k3⟩) (gU.trans e9)
 refine go ?_;by_cases k1:B.fin.kind=1
 ·have k3:¬B.fin.kind=3:=ω
  cases q with
  |false=>
   refine go ?_;refine VS ?_;refine gr ?_;exact dW.out (fun e'=>have e:=hE.out.1 e';absurd e.1 Bool.noConfusion) gU
  |true=>
   by_cases ct:B.fin.to=0
   ·have DU:¬B.fin.to≠0:=fun h=>h ct;refine go ?_;refine VS ?_;refine gr ?_;exact dW.out (fun e'=>have e:=hE.out.1 e';(e.2.2.1 (.inl k1)).1 ct) gU
   ·have DU:B.fin.to≠0:=ct;refine go ?_;rw[QY ct];refine gr ?_;exact eW.out (hE.out.2 ⟨rfl,fun h=>absurd h k2,fun _=>⟨ct,.inl k1⟩,fun h=>absurd h k3⟩) gU
 refine go ?_;by_cases k3:B.fin.kind=3
 ·cases q with
  |false=>
   refine go ?_;refine VS ?_;refine gr ?_;exact dW.out (fun e'=>have e:=hE.out.1 e';absurd e.1 Bool.noConfusion) gU
  |true=>
   have Nw:(Yj ks (yr B.fin)).length=1:=by rw[mM];unfold yr;rw[QJ (.inr k3)];rfl
   obtain⟨⟨Nx,Ny,Nz,NA,om,Al,An,Ao⟩,mr,nP,uG⟩:=id M8;obtain⟨TP,⟨TQ,rfl,TR,NB⟩,NC,ND⟩:=zq (i:=f.toNat) nP ω;have NF:=(NC _ (WH.refl _)).1;obtain⟨IB,⟨DV,rfl,sat,vM⟩,sT,mN⟩:=ZX (i:=(F.getD f.toNat default).sig.toNat) mr ω;by_cases ct:(Yj ks (yr B.fin)).getD 0 0=(T.getD (F.getD f.toNat default).sig.toNat default).elem
   ·have cd:=Qa ct;refine gr ?_;exact eW.out (hE.out.2 ⟨rfl,fun h=>absurd h k2,fun h=>absurd h ω,fun _=>ct⟩) gU
   ·have cd:=QY ct;refine go ?_;refine VS ?_;refine gr ?_;exact dW.out (fun e'=>have e:=hE.out.1 e';absurd (e.2.2.2 k3) ct) gU
 cases q with
 |false=>
  refine go ?_;refine VS ?_;refine gr ?_;exact dW.out (fun e'=>have e:=hE.out.1 e';absurd e.1 Bool.noConfusion) gU
 |true=>
  refine gr ?_;exact eW.out (hE.out.2 ⟨rfl,fun h=>absurd h k2,fun h=>absurd h ω,fun h=>absurd h k3⟩) gU
end
section
variable {vt vf:Value}{T:List WF}{F:List We}{f:Int}{ks:List Int}{ps:List (Int×Int)}{xs:List Int}{g:Nat}{nx:Int->List Int}{L:List Wk}
def zOE(h:WA)(b:Int)(M:BT h g vt vf T F f ks ps (Yk xs L.length))(G:Gr F f nx xs ps L)(E:SE h vt vf T F)(hc:y8 T=0)(Ap:∀ t∈ks,Bj T t)(hF:∀ f∈F,Bj T f.sig)
  (dV:0<=(F.getD f.toNat default).sig/\(F.getD f.toNat default).sig<(T.length:Int)) (hlen:ks.length=ps.length) (U:∀ B∈L,BlkU B ks.length L.length) (V:∀ B∈L,∀ x∈B.ins,InsT T F x) (hb:0<=b/\b<(L.length:Int)) (gb:(L.getD b.toNat default).ins.length<=1000):
  G0 232 [.pointer (some ⟨g,0,none⟩),I b] h fun q h'=>(q=.nilIface/\(∀ i,i<(L.getD b.toNat default).ins.length->Yn T F ks ps nx L (Yp T F f b).1 b i)/\zAe T F f ks ps nx L b\/q=SO f b/\¬((∀ i,i<(L.getD b.toNat default).ins.length->Yn T F ks ps nx L (Yp T F f b).1 b i)/\zAe T F f ks ps nx L b))/\WH h h':=by
 have aW:=hb;have IC:L.getD b.toNat default∈L:=zH ω;have UB:=U _ IC;have VB:=V _ IC;have hG:=G.hf;have DR:=G.hL;refine en ?_;refine VC 1 rfl rfl ?_;have ea:=zG 1 h;obtain⟨⟨hB,vk,vp,vr,o,a,b',c⟩,st,sf,hm⟩:=M.aside 1;obtain⟨cs,⟨vb,rfl,sb,fC⟩,pc,bP⟩:=zq (i:=f.toNat) M.sf ω;have jq:=(pc _ ea).2;rw[DR]at sb;have DW:=Bb.ext sb ea;have DW:Bb (inC (zB 1 h)) vb L:=DW;obtain⟨DT,⟨vi,rfl,si,qo⟩,ix,mL⟩:=zq (i:=b.toNat) sb ω;have Ai:=(ix _ ea).2;obtain⟨ia,iN,ik,rfl⟩:=zD si;refine WU ?_;refine XJ (X:=inC (zB 1 h)) (WH.refl _) E.hm ?_;intro h1 p5 e1 o5;have ID:Bx h1 _ (L.getD b.toNat default).ins:=Bx.ext si e1;have M1:=M.ext e1;have E1:=E.ext e1;clear o a b' c st sf hm sb DW si jq Ai pc ix bP mL ea;refine go ?_;refine VC 0 rfl rfl ?_;obtain⟨⟨Iq,qK,Ir,Is,o,a,b',c⟩,st,sf,hm⟩:=M1.aside 0;refine WU ?_;refine VA (zQw _ vt vf T F f b E1.tt (QF _) E1.sm E1.st E1.sf) ?_;rintro _ X2 ⟨⟨vq,rfl,IE⟩,e2⟩;refine nE e2 ?_;have vN:WH h1 (z9 h1 X2):=(zG 0 h1).trans (ZA (h:=h1) e2);have gC:WH h1 (z9 h1 (inC X2)):=vN;refine WU ?_;have oq:WP h1 (z9 h1 (inC X2)) vq (Yp T F f b).1:=IE;generalize(Yp T F f b).2=eq at *;generalize z9 h1 (inC X2)=h2 at *;generalize hP:(Yp T F f b).1=P at *;clear o a b' c st sf hm IE e2 vN;have M2:=M1.ext gC;have o5:=o5.ext gC;have NG:=Bx.ext ID gC;have aE:=e1.trans gC;obtain⟨⟨TS,TU,TV,TW,om,Al,An,Ao⟩,NH,NI,NJ⟩:=id M2;refine go ?_;refine WO.al ?_;intro p8 h3 e3 o8;refine go ?_;refine VG (cs:=[I f,I b,I 120]) o8 e3 ?_;intro h4 e4 o8 u8;have cg:=aE.trans e4;have M4:=M2.ext e4;have o5:=o5.ext e4;have NK:=Bx.ext NG e4;have NL:=oq.ext e4;clear Al An Ao NH NI NJ om M1 ID E1;have E4:=E.ext cg;generalize Aj:L.getD b.toNat default=B at *;refine go ?_;refine VD (fun i=>B.ins.length-i) (fun i t h1=>WH h4 h1/\zC t 53=I i/\i<=B.ins.length/\(∃ fl,zC t 9=.bool fl/\Wi (fl=true↔∀ j,j<i->(B.ins.getD j default).op=22))/\Wi (∀ j,j<i->Yn T F ks ps nx L P b j)) 0 ?_ ?_
 ·exact⟨WH.refl _,WJ,QQ _,⟨true,WJ,⟨by simp⟩⟩,⟨fun j hj=>absurd hj (GJ _)⟩⟩
 rintro i t h5 ab ⟨e5,TZ,hi,⟨fl,s9,bF⟩,hI⟩;have M5:=M4.ext e5;have vP:=o5.ext e5;have Aq:=o8.ext e5;have DX:=Bx.ext NK e5;have NM:=NL.ext e5;have E5:=E4.ext e5;have bh:=cg.trans e5;refine F0 ?_ ?_<;>intro hb
 ·have af:i<B.ins.length:=ω
  obtain⟨cs,hR,DY,NN⟩:=zQk DX af;have se:B.ins.getD i default∈B.ins:=zH af;generalize hx:B.ins.getD i default=x at *;have aS:Yn T F ks ps nx L P b i↔zIM T F ks ps nx L P b i (∀ j,j<i->(B.ins.getD j default).op=22) x:=by unfold Yn;rw[Aj,hx]
  have ux:=UB.ins x se;have vx:=VB x se;have NO:=(DY h5 (WH.refl _)).1;obtain⟨xa,xf,rfl,fW,gy,dP,mw,ho⟩:=id hR;obtain⟨lI,lJ,lK,rfl⟩:=Wm.shape fW;obtain⟨lM,lN,lO,rfl⟩:=Wm.shape gy;refine go ?_;refine WO.al ?_;intro T3 h6 e6 lE;refine go ?_;refine VG (cs:=[.int .u8 x.op,I x.ty,I x.a,I x.b,I x.n,.slice lI lJ lK,.slice lM lN lO]) lE e6 ?_;intro h7 e7 lE u7;have NP:=hR.ext e7;have E7:=E5.ext e7;refine go ?_;refine VA (zPW h7 x _ NP E7.tt ux.args) ?_;rintro vu h8 ⟨ou,e8⟩;have IF:=e7.trans e8;refine go ?_;refine VA (zPR h8 vu (yc x) (M5.ext IF) ou.sl (by have:=zHJ ux;omega) (fun r hr=>ux.uses r hr)) ?_;rintro vl h9 ⟨ol,e9⟩;have qN:=IF.trans e9;have IG:=bh.trans qN;have bad:∀ {h'},¬Yn T F ks ps nx L P b i->WH h h'->(SO f b=.nilIface/\(∀ i,i<B.ins.length->Yn T F ks ps nx L P b i)/\zAe T F f ks ps nx L b\/SO f b=SO f b/\¬((∀ i,i<B.ins.length->Yn T F ks ps nx L P b i)/\zAe T F f ks ps nx L b))/\WH h h':=fun hn e=>⟨.inr ⟨rfl,fun⟨a,_⟩=>hn (a i af)⟩,e⟩;have bad:=Wi.mk @bad;have aS:=Wi.mk aS;have M9:=M5.ext qN;have IA:=Aq.ext qN;have DZ:=lE.ext (e8.trans e9);have T4:=zHJ ux;have NQ:=ou.sl.ext e9;have xm:(Yj ks (yc x)).length=(yc x).length:=by unfold Yj;simp
  have kn:∀ t∈Yj ks (yc x),Bj T t:=fun t ht=>by
   obtain⟨r,hr,rfl⟩:=Qw.1 ht;have:=ux.uses r hr;exact Ap _ (zd ω)
  replace ol:WP h8 h9 vl (Yj ks (yc x)):=ol;have R9:=hR.ext qN;refine go ?_;refine VA (zA3 h9 vl (Yj ks (yc x)) (-1) ol.sl ω) ?_;rintro _ _ ⟨rfl,rfl⟩;by_cases c1:(-1:Int)∈Yj ks (yc x)
  ·rw[Qa c1];refine go ?_;refine VS ?_;refine gr ?_;exact bad.out (fun q=>(aS.out.1 q).1 c1) IG
  rw[QY c1];refine go ?_;refine VA (zNs h9 x _ vl (Yj ks (yc x)) M9 hc R9 ol.sl ω kn vx.ty hF vx.n14 vx.n2 (fun e=>by have:=vx.l1 e;omega) (fun e=>by have:=vx.l2 e;omega)) ?_;rintro _ gV ⟨rfl,dR⟩;have mO:=IG.trans dR;have qP:=IA.ext dR;have II:=DZ.ext dR;cases c2:zB4 T F x (Yj ks (yc x))with
  |false=>
   refine go ?_;refine VS ?_;refine gr ?_;exact bad.out (fun q=>absurd ((aS.out.1 q).2.1.symm.trans c2) Bool.noConfusion) mO
  |true=>
  have IJ:=M9.ext dR;have D0:=NM.ext (qN.trans dR);have NR:=R9.ext dR;refine go ?_;by_cases c3:x.op=22
  ·cases fl with
   |false=>
    refine go ?_;refine VS ?_;refine gr ?_;exact bad.out (fun q=>absurd (bF.out.2 ((aS.out.1 q).2.2.1 c3).1) Bool.noConfusion) mO
   |true=>
    refine go ?_;have IK:=ux.phi c3;refine VA (zSa gV x _ _ P IJ G NR D0.sl (fun j hj=>IK.2.2 _ (zd hj)) ω (fun j hj=>by have:=IK.2.1 _ (zd hj);omega)) ?_;rintro _ jo ⟨⟨bb,rfl,aR⟩,gj⟩;have qQ:=mO.trans gj;have D1:=qP.ext gj;cases bb with
    |false=>
     refine go ?_;refine VS ?_;refine gr ?_;exact bad.out (fun q=>absurd (aR.2 ((aS.out.1 q).2.2.1 c3).2) Bool.noConfusion) qQ
    |true=>
     refine go ?_;refine zA (i+1) ω ⟨e5.trans (qN.trans (dR.trans gj)),Wy,ω,⟨true,WJ,⟨?_⟩⟩,⟨fun j hj=> ?_⟩⟩
     ·simp only[true_iff];intro j hj;by_cases e:j=i
      ·subst e;rw[hx];exact c3
      ·exact bF.out.1 rfl j ω
     ·by_cases e:j=i
      ·subst e;exact aS.out.2 ⟨c1,c2,fun _=>⟨bF.out.1 rfl,aR.1 rfl⟩,fun h=>absurd c3 h⟩
      ·exact hI.out j ω
  ·refine go ?_;have D3:=NQ.ext dR;refine VA (zIX gV vu (yc x) b i IJ G.r (G.way b aW.1 aW.2) (by have:=G.n;omega) G.inn D3 ω (fun r hr=>by have:=ux.uses r hr;omega) G.pl) ?_;rintro _ jo ⟨⟨bb,rfl,aR⟩,gj⟩;have qQ:=mO.trans gj;have D1:=qP.ext gj;cases bb with
   |false=>
    refine go ?_;refine VS ?_;refine gr ?_;exact bad.out (fun q=>absurd (aR.2 ((aS.out.1 q).2.2.2 c3)) Bool.noConfusion) qQ
   |true=>
    refine go ?_;refine zA (i+1) ω ⟨e5.trans (qN.trans (dR.trans gj)),Wy,ω,⟨false,WJ,⟨?_⟩⟩,⟨fun j hj=> ?_⟩⟩
    ·simp only[Qy,JW];intro aP;have:=aP i ω;rw[hx]at this;exact c3 this
    ·by_cases e:j=i
     ·subst e;exact aS.out.2 ⟨c1,c2,fun h=>absurd h c3,fun _=>aR.1 rfl⟩
     ·exact hI.out j ω
 ·have bj:i=B.ins.length:=ω
  subst bj;obtain⟨⟨Nx,Ny,Nz,NA,om,Al,An,Ao⟩,mr,nP,uG⟩:=id M5;refine go ?_;refine VA (zJF h5 B.fin) ?_;rintro ve h6 ⟨oe,e6⟩;refine go ?_;have Iz:(yr B.fin).length<=1:=by unfold yr;split<;>simp
  refine VA (zPR h6 ve (yr B.fin) (M5.ext e6) oe.sl ω UB.ends) ?_;rintro vl h7 ⟨ol,e7⟩;replace ol:WP h6 h7 vl (Yj ks (yr B.fin)):=ol;have vQ:=e6.trans e7;have Ar:=bh.trans vQ;have mM:(Yj ks (yr B.fin)).length=(yr B.fin).length:=by unfold Yj;simp
  have kn:∀ t∈Yj ks (yr B.fin),Bj T t:=fun t ht=>by
   obtain⟨r,hr,rfl⟩:=Qw.1 ht;have:=UB.ends r hr;exact Ap _ (zd ω)
  have M7:=M5.ext vQ;have NS:=Aq.ext vQ;have IL:=vP.ext vQ;have IM:=Bx.ext DX vQ;clear om Al An Ao mr nP uG;refine go ?_;refine VL (fun t h'=>WH h7 h'/\∃ q,zC t 15=.bool q/\Wi (q=true↔¬(-1:Int)∈Yj ks (yr B.fin)/\∀ r∈yr B.fin,zGi nx (ps.getD r.toNat default) b B.ins.length)) ?_ ?_
  ·refine VC 0 rfl rfl ?_;have ea:=zG 0 h7;have NT:=Vd (ol.sl.ext ea);have Ik:=Vl (IL.ext ea);have T5:=Uk (Bx.ext IM ea);refine WU ?_;refine VA (zA3 _ vl _ (-1) NT ω) ?_;rintro _ _ ⟨rfl,rfl⟩;refine nQ ?_;by_cases c1:(-1:Int)∈Yj ks (yr B.fin)
   ·rw[Qa c1];refine WU ?_;refine ZP za ?_;refine WU ?_;exact zJ ⟨ea,false,WJ,⟨by simp[c1]⟩⟩
   ·rw[QY c1];refine WU ?_;refine VA (zJF _ B.fin) ?_;rintro NU X8 ⟨NW,e8⟩;refine nE e8 ?_;have od:=ea.trans (ZA (h:=h7) (X:=zB 0 h7) (Y:=X8) e8);refine WU ?_;refine VA (zIX _ NU (yr B.fin) b B.ins.length (VO (M7.ext od)) G.r (G.way b aW.1 aW.2) (by have:=G.n;omega) G.inn (Vd NW.sl) ω (fun r hr=>by have:=UB.ends r hr;omega) G.pl) ?_;rintro _ X9 ⟨⟨bb,rfl,aR⟩,e9⟩;refine nE e9 ?_;have DP:=od.trans (ZA (h:=h7) e9);refine WU ?_;exact zJ ⟨DP,bb,WJ,⟨by rw[aR];simp[c1]⟩⟩
  rintro t8 h8 xO ⟨e8,q,vz,hq⟩;refine Yg ?_;exact zLZ (xs:=xs) h h8 _ _ t8 b B P p5 p8 vl _ q (Ar.trans e8) (M7.ext e8) hG Aj dV kn mM Iz (IL.ext e8) (NS.ext e8) (ol.sl.ext e8) (by exact Yd) (by exact Yd) (by exact Yd) (by exact Yd) (by exact Yd) vz hI hq
end
end Go.Proofs.YtndffgfnndoifaaGreatDoor
