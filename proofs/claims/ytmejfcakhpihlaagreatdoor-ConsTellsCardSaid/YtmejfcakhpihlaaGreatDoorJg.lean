/- Walks of functions, plain laws; proves no statement. -/
import Derived.Test.YtmejfcakhpihlaaGreatDoorJf
set_option linter.all false
set_option maxHeartbeats 1000000
set_option maxRecDepth 100000
namespace Go.Proofs.YtmejfcakhpihlaaGreatDoor
open Go.Am
theorem zJG{k:Int}(h0:0<=k)(h:k<4294967296):ZF .and (.int .u64 k) (.int .u64 4294967295)=some (.int .u64 k):=by
 have e:(BitVec.ofInt 64 k&&& BitVec.ofInt 64 4294967295).toNat=k.toNat:=by
  rw[BitVec.toNat_and,show(BitVec.ofInt 64 4294967295).toNat=2 ^ 32-1 from rfl,Nat.and_two_pow_sub_one_eq_mod,BitVec.toNat_ofInt];omega
 simp only[ZF,ne_eq,not_true_eq_false,Gb];rw[show((BitVec.ofInt (IntKind.bits .u64) k&&& BitVec.ofInt (IntKind.bits .u64) 4294967295).toNat)=k.toNat from e,show((k.toNat:Nat):Int)=k by omega,Yx h0 (by omega)];rfl
theorem zE0{k:Int}(h0:0<=k)(h:k<4294967296):ZF .shr (.int .u64 k) (.int .u64 32)=some (.int .u64 0):=by
 have e:(min (32:Int).toNat IntKind.u64.bits)=32:=rfl;simp only[ZF,e];rw[QC (by decide),Int.fdiv_eq_ediv_of_nonneg _ (by decide),show k / 2 ^ 32=0 by omega]
theorem zE9{a b c:Int}(e:a*b=c)(h0:0<=c)(h:c<18446744073709551616):ZF .mul (.int .u64 a) (.int .u64 b)=some (.int .u64 c):=by
 subst e;simp only[ZF,ne_eq,not_true_eq_false,Gb,Q6];rw[Yx h0 h]
theorem zGe{a b c:Int}(e:a+b=c)(h0:0<=c)(h:c<18446744073709551616):ZF .add (.int .u64 a) (.int .u64 b)=some (.int .u64 c):=by
 subst e;simp only[ZF,ne_eq,not_true_eq_false,Gb,Q6];rw[Yx h0 h]
theorem zMG(h:WA)(k:Nat)(hk:k<4294967296):WC Tryz.prog tb 194 [.int .u64 1,.int .u64 k] h fun r h'=>r=.tuple #[.int .u64 0,.int .u64 k]/\h=h':=by
 have k0:(0:Int)<=k:=by omega
 have k1:(k:Int)<4294967296:=by omega
 refine en ?_;refine WO.bin zQ zQ (zJG (by omega) (by omega)) ?_;refine go ?_;refine WO.bin zQ zQ (zE0 (by omega) (by omega)) ?_;refine go ?_;refine WO.bin zQ zQ (zJG k0 k1) ?_;refine go ?_;refine WO.bin zQ zQ (zE0 k0 k1) ?_;refine go ?_;refine WO.bin zQ zQ (zE9 (Int.one_mul _) k0 (by omega)) ?_;refine go ?_;refine WO.bin zQ zQ (zE9 (Int.zero_mul _) (Ql 0) (by omega)) ?_;refine go ?_;refine WO.bin zQ zQ (zE0 k0 k1) ?_;refine go ?_;refine WO.bin zQ zQ (zGe rfl (by omega) (by omega)) ?_;refine go ?_;refine WO.bin zQ zQ (zJG (by omega) (by omega)) ?_;refine go ?_;refine WO.bin zQ zQ (zE0 (by omega) (by omega)) ?_;refine go ?_;refine WO.bin zQ zQ (zE9 rfl (by omega) (by omega)) ?_;refine go ?_;refine WO.bin zQ zQ (zGe rfl (by omega) (by omega)) ?_;refine go ?_;refine WO.bin zQ zQ (zE9 rfl (by omega) (by omega)) ?_;refine go ?_;refine WO.bin zQ zQ (zGe rfl (by omega) (by omega)) ?_;refine go ?_;refine WO.bin zQ zQ (zE0 (by omega) (by omega)) ?_;refine go ?_;refine WO.bin zQ zQ (zGe rfl (by omega) (by omega)) ?_;refine go ?_;refine WO.bin zQ zQ (zE9 (Int.one_mul _) k0 (by omega)) ?_;refine gr ?_;exact⟨rfl,rfl⟩
theorem zO1(h:WA)(k:Nat)(hk:k<4294967296):WC Tryz.prog tb 135 [.int .u64 1,.int .u64 k] h fun r h'=>r=.tuple #[.int .u64 0,.int .u64 k]/\h=h':=by
 refine en ?_;refine VA (zMG h k hk) ?_;rintro _ _ ⟨rfl,rfl⟩;refine gr ?_;exact⟨rfl,rfl⟩
theorem zGC{z:List Value}:∀ {m n:Nat},m<=n->(zo z n).take (m*z.length)=zo z m
 |0,n,_=>by simp[zo]
 |m+1,0,h=>by omega
 |m+1,n+1,h=>by
  show(z++zo z n).take _=z++zo z m;rw[show(m+1)*z.length=z.length+m*z.length by rw[Gv];omega,List.take_length_add_append,zGC (by omega)]
theorem zBo{z:List Value}:∀ {m n:Nat},(zo z n).drop (m*z.length)=zo z (n-m)
 |0,n=>by simp
 |m+1,0=>by simp[zo]
 |m+1,n+1=>by
  show(z++zo z n).drop _=_;rw[show(m+1)*z.length=z.length+m*z.length by rw[Gv];omega,List.drop_length_add_append,zBo (m:=m) (n:=n),show n+1-(m+1)=n-m by omega]
theorem zIZ{z:List Value}:∀ {m n:Nat},zo z m++zo z n=zo z (m+n)
 |0,n=>by simp[zo]
 |m+1,n=>by
  show(z++zo z m)++zo z n=_;rw[QT,zIZ,show m+1+n=(m+n)+1 by omega];rfl
def zBK(z w:List Value)(n k:Nat):List Value:=zo w n++zo z (k-n)
theorem zNV{z w:List Value}{n k m:Nat}(hw:w.length=z.length)(hm:m<=n)(hk:n+m<=k):zh (zBK z w n k) (n*z.length) ((zo w n).take (m*z.length))=zBK z w (n+m) k:=by
 have h1:(zo w n).length=n*z.length:=by rw[yA,hw]
 have h3:(zo w n).take (m*z.length)=zo w m:=by rw[<-hw];exact zGC hm
 have h2:(zo w m).length=m*z.length:=by rw[yA,hw]
 unfold zh zBK;rw[h3,h2];rw[show List.take (n*z.length) (zo w n++zo z (k-n))=zo w n by rw[<-h1];exact List.take_left];rw[show n*z.length+m*z.length=(zo w n).length+m*z.length by rw[h1],List.drop_length_add_append,zBo,<-zIZ,show k-n-m=k-(n+m) by omega]
theorem zLt{c g off len n:Nat}(hn:n<=len):Zp c (.slice (some ⟨g,off,none⟩) len c) none (some n) none=some (.slice (some ⟨g,off,none⟩) n c):=by
 have b1:Nat.ble 0 n=true:=QH (QK _);have b2:Nat.ble n len=true:=QH hn;simp only[Zp,Gu,GB,b1,b2,Qp,Qv,cond_true,GR,Nat.zero_mul,Nat.add_zero,Nat.sub_zero]
theorem zJ8{w:List Value}(h:zL w=true):∀ n,zL (zo w n)=true
 |0=>rfl
 |n+1=>by
  have:=zJ8 h n;unfold zL at *;show(w++zo w n).all _=true;rw[List.all_append,h,this];rfl
theorem zJk(h:WA)(v:Value)(a b:Int)(k:Nat)(s:Wi 2 h v 1 [I a,I b])(hm:h.mark<=h.n)(hk:k<=100000):
  WC Tryz.prog tb 83 [v,I k] h fun r h'=>(∃ g,h.n<=g/\g<h'.n/\r=.slice (some ⟨g,0,none⟩) k 2/\h'.get g=some (.row (zo [I a,I b] k) true 0))/\Ext h h':=by
 obtain⟨a1,a2,a3,rfl⟩:=Wi.shape s;have hlen:∀ {P:Program} {ih:Ex} {t:WG Value} {x:Operand},ev t x=.slice a1 a2 a3->WN P ih t h (.len x)=some (I 1,h):=fun hx=>zEI s hx;refine en ?_;refine WO.op _ _ rfl (hlen (by exact zQ)) ?_;refine go ?_;have C8:IntKind.wrap .u64 1=1:=rfl;have ON:IntKind.wrap .u64 (k:Int)=k:=Yx (by omega) (by omega);simp only[C8,ON];refine VA (zO1 h k (by omega)) ?_;rintro _ _ ⟨rfl,rfl⟩;refine go ?_;refine Uk (n:=k) hk ?_;intro h1 e1 n1 g1;refine go ?_;have s1:=s.ext e1;refine UA (m:=min 1 k) g1 s1 (by decide) rfl (by rw[yA];show 0+_*2<=k*2;omega) rfl ?_;intro h2 n2 k2 g2 w2 m2 r2 _;have e2:Ext h h2:=⟨by omega,fun j hj=>(k2 j (by omega)).trans (e1.get j hj),fun w=>w2 (e1.wf w),m2.trans e1.mark,fun hm=>(r2 (by rw[e1.mark];exact hm)).trans (e1.wr hm)⟩;have g2:h2.get h.n=some (.row (zBK [I 0,I 0] [I a,I b] (min 1 k) k) true 0):=by
  rw[g2];congr 2;by_cases h0:k=0
  ·subst h0;rfl
  ·have cH:min 1 k=1:=by omega
   rw[cH];show zh (zo [I 0,I 0] k) 0 _=zo [I a,I b] 1++zo [I 0,I 0] (k-1);unfold zh;show _++List.drop (1*([I 0,I 0]:List Value).length) _=_;rw[zBo];rfl
 clear g1 k2 w2 m2 r2;refine go ?_;refine VD (fun i=>k-i) (fun i t h1=>Ext h h1/\zC t 8=I i/\i<=k/\(1<=i\/k=0)/\h.n<h1.n/\h1.get h.n=some (.row (zBK [I 0,I 0] [I a,I b] i k) true 0)) (min 1 k) ?_ ?_
 ·exact⟨e2,WH,by omega,by omega,by omega,g2⟩
 rintro i t h3 ab ⟨e3,s8,hi,qT,n3,g3⟩;have KS:Wi 2 h3 (.slice (some ⟨h.n,0,none⟩) k 2) k (zBK [I 0,I 0] [I a,I b] i k):=Wi.own n3 g3 (by unfold zBK;rw[QM,yA,yA];show i*2+(k-i)*2=k*2;omega);have Ai:∀ {P:Program} {ih:Ex} {t:WG Value} {x:Operand},ev t x=.slice (some ⟨h.n,0,none⟩) k 2->WN P ih t h3 (.len x)=some (I k,h3):=fun hx=>zEI KS hx;refine go ?_;refine WO.op _ _ rfl (Ai (by exact zQ)) ?_;refine go ?_;refine VE (fun hb=> ?_) (fun hb=> ?_)<;>simp only[DB]at hb
 ·have gg:i<k:=by omega
  refine go ?_;refine VC 0 rfl rfl ?_;refine WJ ?_;refine Vi (i:=i) (hy:=by exact zQ) (zIb (Nat.le_of_lt gg)) ?_;refine nQ ?_;refine WJ ?_;refine Vu (i:=i) (hy:=by exact zQ) (zLt (Nat.le_of_lt gg)) ?_;refine nQ ?_;refine WJ ?_;have gX:(inC (zB 0 h3)).get h.n=some (.row (zBK [I 0,I 0] [I a,I b] i k) true 0):=g3;have sX:Wi 2 (inC (zB 0 h3)) (.slice (some ⟨h.n,0,none⟩) i 2) i (zo [I a,I b] i):=by
   refine⟨by rw[yA];rfl,.inr ⟨h.n,0,_,rfl,by unfold yj;rw[gX],?_,n3⟩⟩;rw[ZD (by unfold zBK;rw[QM,yA,yA];show 0+i*2<=i*2+(k-i)*2;omega)];unfold zBK;rw[Q2,show i*2=(zo [I a,I b] i).length by rw[yA];rfl,List.take_left]
  refine UA (m:=min i (k-i)) gX sX (by decide) rfl (by unfold zBK;rw[QM,yA,yA];show 0+i*2+_*2<=i*2+(k-i)*2;omega) (zJ8 rfl i) ?_;intro X' n4 k4 g4 w4 m4 r4 OO;refine WO.nil (zMy (fun j hj=> ?_) (Nat.le_of_eq n4.symm) fun cm=> ?_)
  ·rcases OO j hj with rfl|h2
   ·rw[e3.mark];exact hm
   ·cases h2
  refine WJ ?_;rw[GH]at g4;have g5:=zNV (z:=[I 0,I 0]) (w:=[I a,I b]) (n:=i) (k:=k) (m:=min i (k-i)) rfl (by omega) (by omega);rw[show([I 0,I 0]:List Value).length=2 from rfl]at g5;rw[g5]at g4;have rf:(i:Int)+(min i (k-i):Nat)=((i+min i (k-i):Nat):Int):=by omega
  rw[rf];refine zA (i+min i (k-i)) (by omega) ⟨⟨?_,?_,?_,?_,?_⟩,WH,by omega,by omega,?_,g4⟩
  ·show h.n<=X'.n;rw[n4];exact Nat.le_of_lt n3
  ·intro j hj;exact(k4 j (by omega)).trans (e3.get j hj)
  ·intro w;exact w4 (e3.wf w)
  ·exact e3.mark
  ·exact e3.wr
  ·show h.n<X'.n;rw[n4];exact n3
 ·have gg:i=k:=by omega
  subst gg;refine gr ?_;refine⟨⟨h.n,QE _,n3,rfl,?_⟩,e3⟩;rw[g3];unfold zBK;rw[Nat.sub_self];simp[zo]
def W7(T:List WE)(t:Int):Prop:=t= -1\/(0<=t/\t<(T.length:Int))
def Ww(T:List WE)(k t:Int):Bool:=decide (t≠ -1)&&decide ((T.getD t.toNat default).kind=k)
def isL(T:List WE)(k:Int)(l:List Int):Bool:=l.all (Ww T k)
def zBV(T:List WE)(t:Int):Bool:=Ww T 1 t||Ww T 2 t||Ww T 3 t
def BT(T:List WE)(t:Int):Int:=if Ww T 2 t then(T.getD t.toNat default).elem else -1
def Z5(T:List WE)(s n:Int):Int:=
 if s= -1 then -1 else if Ww T 4 s&&decide (n<((T.getD s.toNat default).parts.length:Int))then(T.getD s.toNat default).parts.getD n.toNat 0 else if Ww T 5 s then(T.getD s.toNat default).elem else -1
def zFm(T:List WE)(rh t n:Int):Bool:=decide (Z5 T (BT T rh) n≠ -1)&&decide (BT T t=Z5 T (BT T rh) n)
def zCC(T:List WE)(sig:Int)(args:List Int)(t:Int):Bool:=Ww T 3 sig&&decide ((T.getD sig.toNat default).parts=args)&&decide ((T.getD sig.toNat default).elem=t)
def zGm(T:List WE)(x:Wj)(l:List Int):Bool:=
 if x.op=14 then Ww T 4 (BT T (l.getD 0 0))&&zFm T (l.getD 0 0) x.ty x.n
 else if x.op=15 then Ww T 5 (BT T (l.getD 0 0))&&Ww T 1 (l.getD 1 0)&&zFm T (l.getD 0 0) x.ty 0
 else if x.op=16 then zBV T (BT T (l.getD 0 0))&&decide (x.ty=BT T (l.getD 0 0))
 else zBV T (BT T (l.getD 0 0))&&decide (l.getD 1 0=BT T (l.getD 0 0))
def sigF(F:List Wa)(n:Int):Int:=(F.getD n.toNat default).sig
def yD(T:List WE)(F:List Wa)(x:Wj)(l:List Int):Bool:=
 if x.op=2 then Ww T 2 x.ty||Ww T 3 x.ty
 else if x.op=3 then decide (x.ty=sigF F x.n)
 else if x.op=10 then isL T 2 l&&decide (l.getD 0 0=l.getD 1 0)&&Ww T 1 x.ty
 else if x.op=11\/x.op=12 then Ww T 2 x.ty
 else if x.op=13 then isL T 2 l
 else if x.op=14\/x.op=15\/x.op=16\/x.op=17 then zGm T x l
 else if x.op=18 then zCC T (sigF F x.n) l x.ty
 else if x.op=19 then zCC T (l.getD 0 0) (l.drop 1) x.ty
 else if x.op=22 then zBV T x.ty&&l.all (fun t=>decide (t=x.ty))
 else if x.op=21 then isL T 1 l
 else isL T 1 l&&Ww T 1 x.ty
def Ys(x:Wj):Int:=if(zU x.op).2.2.2.2.2 then x.ty else -1
def ZK(L:List Wc):List Int:=L.flatMap fun b=>b.ins.map Ys
def zCR(par:List Int)(L:List Wc):List Int:=par++ZK L
def yr(L:List Wc):Nat->List (Int×Int)
 |0=>[]
 |n+1=>yr L n++(List.range (L.getD n default).ins.length).map fun(i:Nat)=>((n:Int),(i:Int))
def zEM(par:Nat)(L:List Wc):List (Int×Int):=List.replicate par (-1,-1)++yr L L.length
theorem zBR{L:List Wc}{n:Nat}(h:n<L.length):ZK (L.take (n+1))=ZK (L.take n)++(L.getD n default).ins.map Ys:=by
 unfold ZK;rw[Q1,QB h,List.flatMap_append,show L.getD n default=L[n] by rw[QG,QB h];rfl];simp
theorem zBl{T:List WE}(h:yS T=0){t:Int}(h0:0<=t)(h1:t<(T.length:Int)):ZM T t.toNat:=by
 rw[zAz]at h;split at h
 ·cases h
 ·split at h
  ·rename_i hl;exact(hl t.toNat (by omega)).1
  ·cases h
theorem zDM{T:List WE}(h:yS T=0){t:Int}(ht:W7 T t):W7 T (BT T t):=by
 unfold BT;split
 ·rename_i hk;unfold Ww at hk;simp only[QN,Qd]at hk;rcases ht with rfl|⟨h0,h1⟩
  ·exact absurd rfl hk.1
  ·have:=zBl h h0 h1;rcases this with⟨k,_⟩|⟨_,e0,e1,_⟩|⟨k,_⟩|⟨k,_⟩|⟨k,_⟩
   ·omega
   ·exact .inr ⟨e0,e1⟩
   ·omega
   ·omega
   ·omega
 ·exact .inl rfl
theorem zF3{T:List WE}(h:yS T=0){s n:Int}(hs:W7 T s)(hn:0<=n):W7 T (Z5 T s n):=by
 unfold Z5;split
 ·exact .inl rfl
 rename_i iA;have⟨h0,h1⟩:=hs.resolve_left iA;have hm:=zBl h h0 h1;split
 ·rename_i hk;unfold Ww at hk;simp only[QN,Qd]at hk;rcases hm with⟨k,_⟩|⟨k,_⟩|⟨k,_⟩|⟨_,_,_,_,_,hp⟩|⟨k,_⟩
  ·omega
  ·omega
  ·omega
  ·have aL:n.toNat<(T.getD s.toNat default).parts.length:=by omega
   have:=hp _ (zM aL);exact .inr ⟨this.1,by omega⟩
  ·omega
 ·split
  ·rename_i hk;unfold Ww at hk;simp only[QN,Qd]at hk;rcases hm with⟨k,_⟩|⟨k,_⟩|⟨k,_⟩|⟨k,_⟩|⟨_,e0,e1,_⟩
   ·omega
   ·omega
   ·omega
   ·omega
   ·exact .inr ⟨e0,by omega⟩
  ·exact .inl rfl
theorem zAd{T:List WE}{k t:Int}(h:Ww T k t=true):t≠ -1:=by
 unfold Ww at h;simp only[QN,Qd]at h;exact h.1
end Go.Proofs.YtmejfcakhpihlaaGreatDoor
set_option maxRecDepth 100000
namespace Go.Proofs.YtmejfcakhpihlaaGreatDoor
open Go.Am
def RPl(_:WA)(cs:List Value)(x:Int×Int):Prop:=cs=[I x.1,I x.2]
structure BJ(h:WA)(g:Nat)(vt vf:Value)(T:List WE)(F:List Wa)(f:Int)(ks:List Int)(ps:List (Int×Int))(rs:List Int):Prop where
 own:∃ hB vk vp vr,WB hB h (.pointer (some ⟨g,0,none⟩)) [vt,vf,I f,vk,vp,vr]/\WQ h vk ks/\BE 2 RPl h vp ps/\WQ h vr rs
 st:Wu h vt T
 sf:Wo h vf F
 hm:h.mark<=h.n
theorem BJ.ext{h h':WA}{g:Nat}{vt vf:Value}{T:List WE}{F:List Wa}{f:Int}{ks:List Int}{ps:List (Int×Int)}{rs:List Int}(M:BJ h g vt vf T F f ks ps rs)(e:Ext h h'):BJ h' g vt vf T F f ks ps rs:=by
 obtain⟨⟨hB,vk,vp,vr,o,a,b,c⟩,st,sf,hm⟩:=M;exact⟨⟨hB,vk,vp,vr,o.ext e,a.ext e,BE.ext (h:=h) (h':=h') (fun cs a (r:RPl h cs a)=>(r:RPl h' cs a)) b e,c.ext e⟩,st.ext e,Wo.ext sf e,zp e hm⟩
theorem zK5{A B:List Int}(hl:A.length=B.length)(h:∀ i,i<A.length->A.getD i 0=B.getD i 0):A=B:=by
 refine G6 hl fun i h1 h2=> ?_;have:=h i h1;rwa [QG,QG,QB h1,QB h2]at this
theorem zFx(h:WA)(va vb:Value)(A B:List Int)(ka:WQ h va A)(kb:WQ h vb B)(la:(A.length:Int)<=9223372036854775807):WC Tryz.prog tb 187 [va,vb] h fun r h'=>r=.bool (decide (A=B))/\h=h':=by
 refine en ?_;by_cases hl:A.length=B.length;case neg=>
  refine gr ?_;exact⟨by rw[QY (fun e=>hl (by rw[e]))];rfl,rfl⟩
 refine go ?_;refine VD (fun i=>A.length-i) (fun i t h1=>h=h1/\zC t 13=I i/\i<=A.length/\WK (∀ j,j<i->A.getD j 0=B.getD j 0)) 0 ?_ ?_
 ·exact⟨rfl,WH,QK _,⟨fun j hj=>absurd hj (Qk _)⟩⟩
 rintro i t _ ab ⟨rfl,OP,hi,hI⟩;refine go ?_;refine VE (fun hb=> ?_) (fun hb=> ?_)<;>simp only[DB]at hb
 ·have mE:i<A.length:=by omega
  have J1:i<B.length:=by omega
  refine go ?_;refine VE (fun hb=> ?_) (fun hb=> ?_)<;>simp only[DB]at hb<;>refine go ?_
  ·refine rt ?_;refine⟨?_,rfl⟩;rw[QY (fun e=>by subst e;exact hb rfl)];rfl
  ·refine zA (i+1) (by omega) ⟨rfl,Wn,by omega,⟨fun j hj=> ?_⟩⟩;by_cases e:j=i
   ·subst e;exact hb
   ·exact hI.out j (by omega)
 ·refine gr ?_;exact⟨by rw[Qc (zK5 hl fun j hj=>hI.out j (by omega))];rfl,rfl⟩
section
variable {vt vf:Value}{T:List WE}{F:List Wa}{f:Int}{ks:List Int}{ps:List (Int×Int)}{rs:List Int}{g:Nat}
theorem zOf(h h0 kP:WA)(p1 p2:Value)(k t:Int)(M:BJ h g vt vf T F f ks ps rs)(o1:WB h0 h p1 [.pointer (some ⟨g,0,none⟩)])(o2:WB kP h p2 [.int .u8 k])(ht:W7 T t):
  WC Tryz.prog tb 122 [I t,p1,p2] h fun r h'=>r=.bool (!Ww T k t)/\Ext h h':=by
 obtain⟨⟨hB,vk,vp,vr,o,a,b,c⟩,st,sf,hm⟩:=M;refine en ?_;by_cases h1:t= -1
 ·refine gr ?_;refine⟨?_,Ext.refl h⟩;subst h1;rfl
 ·obtain⟨t0,t1⟩:=ht.resolve_left h1;obtain⟨cs,⟨va,rfl,sa,br⟩,pc,hs⟩:=yM (i:=t.toNat) st (by omega);refine gr ?_;refine⟨?_,Ext.refl h⟩;unfold Ww;rw[Qc h1];simp[one]
theorem ZN(h:WA)(k:Int)(v:Value)(l:List Int)(M:BJ h g vt vf T F f ks ps rs)(s:WQ h v l)(hl:l.length<=1000)(ah:∀ t∈l,W7 T t):
  WC Tryz.prog tb 76 [.pointer (some ⟨g,0,none⟩),.int .u8 k,v] h fun r h'=>r=.bool (isL T k l)/\Ext h h':=by
 refine en ?_;refine VF ?_;intro p1 h1 e1 o1;refine go ?_;refine VF ?_;intro p2 h2 e2 o2;have o1:=o1.ext e2;have az:=e1.trans e2;have M2:=M.ext az;have s2:=s.ext az;refine go ?_;refine VA (zAr h2 v _ l (fun t=> !Ww T k t) s2 (by omega) ?_) ?_
 ·intro t ht h3 e3;exact WV.func (zOf h3 h h1 p1 p2 k t (M2.ext e3) (o1.ext e3) (o2.ext e3) (ah t ht))
 rintro _ h3 ⟨rfl,e3⟩;refine gr ?_;refine⟨?_,az.trans e3⟩;show Value.bool _=_;rw[List.not_any_eq_all_not];simp[isL]
theorem ZR(T:List WE)(k t:Int):isL T k [t]=Ww T k t:=by simp[isL]
theorem zCH(h:WA)(t:Int)(M:BJ h g vt vf T F f ks ps rs)(ht:W7 T t):
  WC Tryz.prog tb 185 [.pointer (some ⟨g,0,none⟩),I t] h fun r h'=>r=.bool (zBV T t)/\Ext h h':=by
 have ah:∀ x∈[t],W7 T x:=fun x hx=>by rw[QZ.1 hx];exact ht
 unfold zBV;refine en ?_;refine WO.bl [t] ?_;intro v1 h1 e1 o1;have M1:=M.ext e1;refine go ?_;refine VA (ZN h1 1 v1 [t] M1 o1.sl (by simp) ah) ?_;rintro _ h2 ⟨rfl,e2⟩;rw[ZR];cases c1:Ww T 1 t with
 |true=>
  refine gr ?_;exact⟨rfl,e1.trans e2⟩
 |false=>
  have M2:=M1.ext e2;refine go ?_;refine WO.bl [t] ?_;intro v3 h3 e3 o3;have M3:=M2.ext e3;refine go ?_;refine VA (ZN h3 2 v3 [t] M3 o3.sl (by simp) ah) ?_;rintro _ h4 ⟨rfl,e4⟩;rw[ZR];have bz:=e1.trans (e2.trans (e3.trans e4));cases c2:Ww T 2 t with
  |true=>
   refine gr ?_;exact⟨rfl,bz⟩
  |false=>
   have M4:=M3.ext e4;refine go ?_;refine WO.bl [t] ?_;intro v5 h5 e5 o5;have M5:=M4.ext e5;refine go ?_;refine VA (ZN h5 3 v5 [t] M5 o5.sl (by simp) ah) ?_;rintro _ h6 ⟨rfl,e6⟩;rw[ZR];refine gr ?_;exact⟨by cases Ww T 3 t<;>rfl,bz.trans (e5.trans e6)⟩
theorem zAf(h:WA)(t:Int)(M:BJ h g vt vf T F f ks ps rs)(ht:W7 T t):
  WC Tryz.prog tb 219 [.pointer (some ⟨g,0,none⟩),I t] h fun r h'=>r=I (BT T t)/\Ext h h':=by
 have ah:∀ x∈[t],W7 T x:=fun x hx=>by rw[QZ.1 hx];exact ht
 unfold BT;refine en ?_;refine WO.bl [t] ?_;intro v1 h1 e1 o1;have M1:=M.ext e1;refine go ?_;refine VA (ZN h1 2 v1 [t] M1 o1.sl (by simp) ah) ?_;rintro _ h2 ⟨rfl,e2⟩;rw[ZR];cases c1:Ww T 2 t with
 |false=>
  refine gr ?_;exact⟨rfl,e1.trans e2⟩
 |true=>
  obtain⟨⟨hB,vk,vp,vr,o,a,b,c⟩,st,sf,hm⟩:=M1.ext e2;obtain⟨t0,t1⟩:=ht.resolve_left (zAd c1);obtain⟨cs,⟨va,rfl,sa,br⟩,pc,hs⟩:=yM (i:=t.toNat) st (by omega);refine gr ?_;exact⟨rfl,e1.trans e2⟩
theorem zMx(h:WA)(v:Value)(l:List Int)(M:BJ h g vt vf T F f ks ps rs)(s:WQ h v l)(hl:l.length<=1000)(ah:∀ r∈l,0<=r/\r<(ks.length:Int)):
  WC Tryz.prog tb 125 [.pointer (some ⟨g,0,none⟩),v] h fun r h'=>WL h h' r (l.map fun r=>ks.getD r.toNat 0)/\Ext h h':=by
 refine en ?_;refine VD (fun i=>l.length-i) (fun i t h1=>Ext h h1/\zC t 9=I i/\i<=l.length/\∃ w,zC t 4=w/\WL h h1 w ((l.take i).map fun r=>ks.getD r.toNat 0)) 0 ?_ ?_
 ·exact⟨Ext.refl _,WH,QK _,_,WH,.inl ⟨rfl,rfl⟩⟩
 rintro i t h1 ab ⟨e1,s9,hi,w,s4,ow⟩;obtain⟨⟨hB,vk,vp,vr,o,a,b,c⟩,st,sf,hm⟩:=M.ext e1;have s1:=s.ext e1;refine go ?_;refine VE (fun hb=> ?_) (fun hb=> ?_)<;>simp only[DB]at hb
 ·have ae:i<l.length:=by omega
  have hr:=ah _ (zM ae);have au:(l.take (i+1)).map (fun r=>ks.getD r.toNat 0)=(l.take i).map (fun r=>ks.getD r.toNat 0)++[ks.getD (l.getD i 0).toNat 0]:=by
   rw[Q1,QB ae,Qx,show l.getD i 0=l[i] by rw[QG,QB ae];rfl];rfl
  refine go ?_;refine WO.bl [ks.getD (l.getD i 0).toNat 0] ?_;intro v2 h2 e2 o2;refine go ?_;refine VN (ow.ext e2) (Wq.sl o2) (e1.trans e2) (by simp only[Qi,Qn,QV];omega) ?_;intro v3 h3 e3 o3;refine go ?_;exact zA (i+1) (by omega) ⟨e3,Wn,by omega,_,WH,by rw[au];exact o3⟩
 ·have aK:i=l.length:=by omega
  subst aK;rw[Qg]at ow;refine gr ?_;exact⟨ow,e1⟩
theorem zF4(h:WA)(sig t:Int)(v:Value)(l:List Int)(M:BJ h g vt vf T F f ks ps rs)(dC:W7 T sig)(s:WQ h v l)(hl:l.length<=1000):
  WC Tryz.prog tb 184 [.pointer (some ⟨g,0,none⟩),I sig,v,I t] h fun r h'=>r=.bool (zCC T sig l t)/\Ext h h':=by
 have ah:∀ x∈[sig],W7 T x:=fun x hx=>by rw[QZ.1 hx];exact dC
 unfold zCC;refine en ?_;refine WO.bl [sig] ?_;intro v1 h1 e1 o1;have M1:=M.ext e1;refine go ?_;refine VA (ZN h1 3 v1 [sig] M1 o1.sl (by simp) ah) ?_;rintro _ h2 ⟨rfl,e2⟩;rw[ZR];cases c1:Ww T 3 sig with
 |false=>
  refine gr ?_;exact⟨rfl,e1.trans e2⟩
 |true=>
  obtain⟨⟨hB,vk,vp,vr,o,a,b,c⟩,st,sf,hm⟩:=M1.ext e2;obtain⟨t0,t1⟩:=dC.resolve_left (zAd c1);have s2:=s.ext (e1.trans e2);obtain⟨cs,⟨va,rfl,sa,br⟩,pc,hs⟩:=yM (i:=sig.toNat) st (by omega);refine go ?_;refine VA (zFx h2 va v _ l sa s2 (by omega)) ?_;rintro _ _ ⟨rfl,rfl⟩;cases c2:decide ((T.getD sig.toNat default).parts=l)with
  |false=>
   refine gr ?_;exact⟨rfl,e1.trans e2⟩
  |true=>
   refine gr ?_;exact⟨rfl,e1.trans e2⟩
theorem zHY(h:WA)(a t n:Int)(M:BJ h g vt vf T F f ks ps rs)(hc:yS T=0)(ha:W7 T a)(ht:W7 T t)(hn:0<=n):
  WC Tryz.prog tb 220 [.pointer (some ⟨g,0,none⟩),I a,I t,I n] h fun r h'=>r=.bool (zFm T a t n)/\Ext h h':=by
 unfold zFm;refine en ?_;refine VA (zAf h a M ha) ?_;rintro _ h1 ⟨rfl,e1⟩;have hs:=zDM hc ha;have gz:=zF3 hc hs hn;generalize BT T a=s at *;have M1:=M.ext e1;have htt:=zDM hc ht;by_cases iA:s= -1
 ·have hp:Z5 T s n= -1:=by unfold Z5;rw[QF iA]
  rw[hp];refine gr ?_;exact⟨rfl,e1⟩
 have ah:∀ x∈[s],W7 T x:=fun x hx=>by rw[QZ.1 hx];exact hs
 obtain⟨s0,sL⟩:=hs.resolve_left iA;refine go ?_;refine WO.bl [s] ?_;intro v2 h2 e2 o2;have M2:=M1.ext e2;refine go ?_;refine VA (ZN h2 4 v2 [s] M2 o2.sl (by simp) ah) ?_;rintro _ h3 ⟨rfl,e3⟩;rw[ZR];have M3:=M2.ext e3;have aN:=e1.trans (e2.trans e3);obtain⟨⟨hB,vk,vp,vr,o,ka,kb,kc⟩,st,sf,hm⟩:=id M3;obtain⟨cs,⟨va,rfl,sa,br⟩,pc,eg⟩:=yM (i:=s.toNat) st (by omega);have other:Ww T 4 s=false\/¬n<((T.getD s.toNat default).parts.length:Int)->Z5 T s n=if Ww T 5 s then(T.getD s.toNat default).elem else -1:=fun h=>by
  unfold Z5;rw[QC iA,QC];rcases h with h|h
  ·rw[h];simp
  ·rw[QY h];simp
 cases c4:Ww T 4 s with
 |true=>
  by_cases aL:n<((T.getD s.toNat default).parts.length:Int)
  ·have hp:Z5 T s n=(T.getD s.toNat default).parts.getD n.toNat 0:=by unfold Z5;rw[QC iA,c4,Qc aL];rfl
   rw[hp]at gz |-;have OQ:n.toNat<(T.getD s.toNat default).parts.length:=by omega
   obtain⟨pp,dv⟩:∃ pp,(T.getD s.toNat default).parts.getD n.toNat 0=pp:=⟨_,rfl⟩;rw[dv]at gz |-;by_cases jx:pp= -1
   ·rw[jx];refine gr ?_;exact⟨rfl,aN⟩
   have hd:decide (pp≠ -1)=true:=Qc jx;rw[hd];refine go ?_;refine VA (zAf h3 t M3 ht) ?_;rintro _ h9 ⟨rfl,e9⟩;refine gr ?_;exact⟨by rw[Qe,<-dv];rfl,aN.trans e9⟩
  ·have hp:=other (.inr aL);refine go ?_;refine WO.bl [s] ?_;intro v4 h4 e4 o4;have M4:=M3.ext e4;refine go ?_;refine VA (ZN h4 5 v4 [s] M4 o4.sl (by simp) ah) ?_;rintro _ h5 ⟨rfl,e5⟩;rw[ZR];have M5:=M4.ext e5;have cq:=aN.trans (e4.trans e5);rw[hp]at gz |-;cases c5:Ww T 5 s with
   |false=>
    refine gr ?_;exact⟨rfl,cq⟩
   |true=>
    rw[c5,QF rfl]at gz;obtain⟨⟨KT,tI,KU,KV,o',OR,OS,OT⟩,sc,OU,kG⟩:=id M5;obtain⟨vC,⟨tJ,rfl,OV,F4⟩,ri,pS⟩:=yM (i:=s.toNat) sc (by omega);obtain⟨pp,dv⟩:∃ pp,(T.getD s.toNat default).elem=pp:=⟨_,rfl⟩;rw[QF rfl];rw[dv]at gz |- ri;by_cases jx:pp= -1
    ·rw[jx];refine gr ?_;exact⟨rfl,cq⟩
    have hd:decide (pp≠ -1)=true:=Qc jx;rw[hd];refine go ?_;refine VA (zAf h5 t M5 ht) ?_;rintro _ h9 ⟨rfl,e9⟩;refine gr ?_;exact⟨by rw[Qe,show decide (BT T t=pp)=(BT T t == pp)from rfl];rfl,(cq).trans e9⟩
 |false=>
  have hp:=other (.inl c4);refine go ?_;refine WO.bl [s] ?_;intro v4 h4 e4 o4;have M4:=M3.ext e4;refine go ?_;refine VA (ZN h4 5 v4 [s] M4 o4.sl (by simp) ah) ?_;rintro _ h5 ⟨rfl,e5⟩;rw[ZR];have M5:=M4.ext e5;have cq:=aN.trans (e4.trans e5);rw[hp]at gz |-;cases c5:Ww T 5 s with
  |false=>
   refine gr ?_;exact⟨rfl,cq⟩
  |true=>
   rw[c5,QF rfl]at gz;obtain⟨⟨KT,tI,KU,KV,o',OR,OS,OT⟩,sc,OU,kG⟩:=id M5;obtain⟨vC,⟨tJ,rfl,OV,F4⟩,ri,pS⟩:=yM (i:=s.toNat) sc (by omega);obtain⟨pp,dv⟩:∃ pp,(T.getD s.toNat default).elem=pp:=⟨_,rfl⟩;rw[QF rfl];rw[dv]at gz |- ri;by_cases jx:pp= -1
   ·rw[jx];refine gr ?_;exact⟨rfl,cq⟩
   have hd:decide (pp≠ -1)=true:=Qc jx;rw[hd];refine go ?_;refine VA (zAf h5 t M5 ht) ?_;rintro _ h9 ⟨rfl,e9⟩;refine gr ?_;exact⟨by rw[Qe,show decide (BT T t=pp)=(BT T t == pp)from rfl];rfl,(cq).trans e9⟩
end
end Go.Proofs.YtmejfcakhpihlaaGreatDoor
set_option maxRecDepth 100000
namespace Go.Proofs.YtmejfcakhpihlaaGreatDoor
open Go.Am
theorem zJF{k g:Nat}{hS X X':WA}{ob:Ws}(eX:Ext (inC (zB k hS)) X)(hn:X'.n=X.n)(hg:∀ j,X'.get j=if j=g then some ob else X.get j)(h1:hS.n<=g)(h2:g<X.n):Ext hS {X' with mark:=hS.mark,wr:=hS.wr}:=by
 have n1:=eX.n;have n1:hS.n+k<=X.n:=n1;refine⟨by show hS.n<=X'.n;omega,fun j hj=> ?_,fun w j hj=> ?_,rfl,fun _=>rfl⟩
 ·show X'.get j=_;rw[hg,QC (by omega)];exact eX.get j (QI hj (JB _ _))
 ·have hj:X'.n<=j:=hj;show X'.get j=_;rw[hg,QC (by omega)];exact eX.wf (fun i hi=>w i (Nat.le_of_add_right_le hi)) j (by omega)
theorem zEN{g:Nat}{hS X X':WA}{ob:Ws}(e:Ext hS (outC hS X))(hn:X'.n=X.n)(hg:∀ j,X'.get j=if j=g then some ob else X.get j)(h1:hS.n<=g)(h2:g<X.n):Ext hS (outC hS X'):=by
 have n1:hS.n<=X.n:=e.n;refine⟨by show hS.n<=X'.n;omega,fun j hj=> ?_,fun w j hj=> ?_,rfl,fun _=>rfl⟩
 ·show X'.get j=_;rw[hg,QC (by omega)];exact e.get j hj
 ·have hj:X'.n<=j:=hj;show X'.get j=_;rw[hg,QC (by omega)];exact e.wf w j (by show X.n<=j;omega)
theorem zCT{P:Program}{tab:Wy}{m N0 g:Nat}{o:WF}{l:List (WF×List Nat)}{x:WF×List Nat}{fr:WR}{h h':WA}{Q:WR->WA->Prop}{t:WG Value}(e:Ext (inC h) h')(hx:Wb P tab m N0 (x::l) g false fr (inC h') Q):uK2 P tab m N0 [] t o (inC h) (x::l) g false Q fr h':=by
 have hw:=e.wrnil;exact⟨⟨fun g hg=>(by rw[hw]at hg;cases hg),e.n,.inl rfl⟩,hx⟩
theorem Vv{h0 h X:WA}{p:Value}{cs:List Value}(o:WB h0 (outC h X) p cs):WB h0 (inC X) p cs:=o
theorem VI{h0 X:WA}{p:Value}{cs:List Value}(o:WB h0 X p cs):WB h0 (inC X) p cs:=o
theorem Vr{h X:WA}{p:Value}{cs:List Int}(o:WQ (outC h X) p cs):WQ (inC X) p cs:=o
theorem VK{X:WA}{p:Value}{cs:List Int}(o:WQ X p cs):WQ (inC X) p cs:=o
theorem zZ{h X Y:WA}(e:Ext (inC X) Y):Ext (outC h X) (outC h Y):=by
 have h1:(outC h X).n=X.n:=rfl;refine⟨e.n,e.get,fun w=>e.wf w,rfl,fun _=>rfl⟩
section
variable {vt vf:Value}{T:List WE}{F:List Wa}{f:Int}{ks:List Int}{ps:List (Int×Int)}{rs:List Int}{g:Nat}
theorem VS{h:WA}{m:Nat}{w:List Nat}(M:BJ {h with mark:=m,wr:=w} g vt vf T F f ks ps rs):BJ (inC h) g vt vf T F f ks ps rs:=⟨M.own,M.st,M.sf,QE _⟩
theorem BJ.inC{h:WA}(M:BJ h g vt vf T F f ks ps rs):BJ (inC h) g vt vf T F f ks ps rs:=⟨M.own,M.st,M.sf,QE _⟩
theorem BJ.aside{h:WA}(k:Nat)(M:BJ h g vt vf T F f ks ps rs):BJ (Am.inC (zB k h)) g vt vf T F f ks ps rs:=(M.ext (zH k h)).inC
theorem BJ.made{k g':Nat}{hS X X':WA}{ob:Ws}(M:BJ hS g vt vf T F f ks ps rs)(eX:Ext (Am.inC (zB k hS)) X)(hn:X'.n=X.n)(hg:∀ j,X'.get j=if j=g' then some ob else X.get j)(h1:hS.n<=g')(h2:g'<X.n):BJ (Am.inC X') g vt vf T F f ks ps rs:=VS (M.ext (zJF eX hn hg h1 h2))
theorem zC5{X':WA}{g':Nat}{xs:List Int}(h:X'.get g'=some (.row (xs.map I) true 0))(h2:g'<X'.n):WQ (Am.inC X') (.slice (some ⟨g',0,none⟩) xs.length 1) xs:=WQ.own h2 h
theorem YY{l:List Int}(h:∀ t∈l,W7 T t){i:Nat}(hi:i<l.length):W7 T (l.getD i 0):=h _ (zM hi)
theorem zJx(h:WA)(x:Wj)(cs:List Value)(v:Value)(l:List Int)(M:BJ h g vt vf T F f ks ps rs)(hc:yS T=0)(hR:W8 h cs x)(s:WQ h v l)(hl:l.length<=1000)(ah:∀ t∈l,W7 T t)(bm:W7 T x.ty)(b7:x.op=14\/x.op=15\/x.op=16\/x.op=17)(hn:x.op=14->0<=x.n)(h1:1<=l.length)(h2:x.op=15\/x.op=17->2<=l.length):
  WC Tryz.prog tb 183 [.pointer (some ⟨g,0,none⟩),.agg cs.toArray,v] h fun r h'=>r=.bool (zGm T x l)/\Ext h h':=by
 obtain⟨xa,xf,rfl,cr,cz,br,dZ,ho⟩:=hR;obtain⟨a1,a2,a3,rfl⟩:=Wi.shape cr;obtain⟨f1,f2,f3,rfl⟩:=Wi.shape cz;obtain⟨b1,b2,b3,rfl⟩:=Wi.shape s;have ht0:=YY ah (show 0<l.length by omega);have gw:=zDM hc ht0;have Aj:∀ y∈[BT T (l.getD 0 0)],W7 T y:=fun y hy=>by rw[QZ.1 hy];exact gw
 refine en ?_;refine VF ?_;intro p h3 e3 o3;have M3:=M.ext e3;have s3:=s.ext e3;unfold zGm;by_cases eG:x.op=14
 ·rw[QF eG];refine go ?_;refine VC 1 rfl rfl ?_;have ea:=zH 1 h3;have sX:=VK (s3.ext ea);refine WJ ?_;refine VA (zAf _ _ (M3.aside 1) ht0) ?_;rintro _ X4 ⟨rfl,e4⟩;refine nE e4 ?_;have aL:h3.n<X4.n:=e4.n;refine WJ ?_;refine Vg [BT T (l.getD 0 0)] M3.hm ?_;intro X5 n5 g5;have e5:Ext h3 (outC h3 X5):=zJF e4 n5 g5 (QE _) aL;have kM:=zC5 (xs:=[BT T (l.getD 0 0)]) (by rw[g5,QF rfl]) (by omega:h3.n<X5.n);refine WJ ?_;refine VA (ZN _ 4 _ [BT T (l.getD 0 0)] (M3.made e4 n5 g5 (QE _) aL) kM (by simp) Aj) ?_;rintro _ X6 ⟨rfl,e6⟩;rw[ZR];have dD:=e5.trans (zZ (h:=h3) e6);refine WO.nil ?_;refine zCT e6 ?_;cases c4:Ww T 4 (BT T (l.getD 0 0))with
  |false=>
   refine BY ?_;exact⟨rfl,e3.trans dD⟩
  |true=>
   have s6:=Vr (s3.ext dD);have o6:=Vv (o3.ext dD);refine WJ ?_;refine VA (zHY _ _ _ _ (VS (M3.ext dD)) hc ht0 bm (hn eG)) ?_;rintro _ X7 ⟨rfl,e7⟩;refine WO.nil ?_;refine zCT e7 ?_;have i9:=dD.trans (zZ (h:=h3) e7);refine BY ?_;exact⟨rfl,e3.trans i9⟩
 rw[QC eG];refine go ?_;by_cases kW:x.op=15
 ·have h2:=h2 (.inl kW);have wj:=YY ah (show 1<l.length by omega);have F5:∀ y∈[l.getD 1 0],W7 T y:=fun y hy=>by rw[QZ.1 hy];exact wj
  rw[QF kW];refine go ?_;refine VC 2 rfl rfl ?_;have ea:=zH 2 h3;have sX:=VK (s3.ext ea);refine WJ ?_;refine VA (zAf _ _ (M3.aside 2) ht0) ?_;rintro _ X4 ⟨rfl,e4⟩;refine nE e4 ?_;have aL:h3.n+1<X4.n:=e4.n;refine WJ ?_;refine Vg [BT T (l.getD 0 0)] M3.hm ?_;intro X5 n5 g5;have e5:Ext h3 (outC h3 X5):=zJF e4 n5 g5 (QE _) (by omega);have kM:=zC5 (xs:=[BT T (l.getD 0 0)]) (by rw[g5,QF rfl]) (by omega:h3.n<X5.n);refine WJ ?_;refine VA (ZN _ 5 _ [BT T (l.getD 0 0)] (M3.made e4 n5 g5 (QE _) (by omega)) kM (by simp) Aj) ?_;rintro _ X6 ⟨rfl,e6⟩;rw[ZR];have dD:=e5.trans (zZ (h:=h3) e6);refine WO.nil ?_;refine zCT e6 ?_;cases c5:Ww T 5 (BT T (l.getD 0 0))with
  |false=>
   refine WJ ?_;refine Wb.no ?_;refine BY ?_;exact⟨rfl,e3.trans dD⟩
  |true=>
   have s6:=Vr (s3.ext dD);have n6:X5.n<=X6.n:=e6.n;refine WJ ?_;refine Vg [l.getD 1 0] (by have:=M3.hm;omega) ?_;intro X7 n7 g7;have i9:=zEN dD n7 g7 (by omega) (by omega);have OW:=zC5 (xs:=[l.getD 1 0]) (by rw[g7,QF rfl]) (by omega:h3.n+1<X7.n);refine WJ ?_;refine VA (ZN _ 1 _ [l.getD 1 0] (VS (M3.ext i9)) OW (by simp) F5) ?_;rintro _ X8 ⟨rfl,e8⟩;rw[ZR];have iD:=i9.trans (zZ (h:=h3) e8);refine WO.nil ?_;refine zCT e8 ?_;cases c1:Ww T 1 (l.getD 1 0)with
   |false=>
    refine BY ?_;exact⟨rfl,e3.trans iD⟩
   |true=>
    have s8:=Vr (s3.ext iD);have o8:=Vv (o3.ext iD);refine WJ ?_;rw[show Value.int .i64 0=I 0 from rfl];refine VA (zHY _ _ _ _ (VS (M3.ext iD)) hc ht0 bm (Ql 0)) ?_;rintro _ X9 ⟨rfl,e9⟩;have kf:=iD.trans (zZ (h:=h3) e9);refine WO.nil ?_;refine zCT e9 ?_;refine BY ?_;exact⟨rfl,e3.trans kf⟩
 rw[QC kW];refine go ?_;by_cases kY:x.op=16
 ·rw[QF kY];refine go ?_;refine VC 0 rfl rfl ?_;have ea:=zH 0 h3;have sX:=VK (s3.ext ea);refine WJ ?_;refine VA (zAf _ _ (M3.aside 0) ht0) ?_;rintro _ X4 ⟨rfl,e4⟩;refine nE e4 ?_;refine WJ ?_;have ff:=ea.trans (zZ (h:=h3) e4);refine VA (zCH _ _ (VS (M3.ext ff)) gw) ?_;rintro _ X5 ⟨rfl,e5⟩;refine nE e5 ?_;have cB:=ff.trans (zZ e5);cases c6:zBV T (BT T (l.getD 0 0))with
  |false=>
   refine WJ ?_;refine zDw (fun g hg=>by cases hg) ?_;refine BY ?_;exact⟨rfl,e3.trans cB⟩
  |true=>
   have s5:=Vr (s3.ext cB);have o5:=Vv (o3.ext cB);refine WJ ?_;refine VA (zAf _ _ (VS (M3.ext cB)) ht0) ?_;rintro _ X6 ⟨rfl,e6⟩;refine nE e6 ?_;have dD:=cB.trans (zZ e6);refine BY ?_;exact⟨rfl,e3.trans dD⟩
 ·rw[QC kY];have h2:=h2 (.inr (by omega));refine go ?_;refine VC 0 rfl rfl ?_;have ea:=zH 0 h3;have sX:=VK (s3.ext ea);refine WJ ?_;refine VA (zAf _ _ (M3.aside 0) ht0) ?_;rintro _ X4 ⟨rfl,e4⟩;refine nE e4 ?_;refine WJ ?_;have ff:=ea.trans (zZ (h:=h3) e4);refine VA (zCH _ _ (VS (M3.ext ff)) gw) ?_;rintro _ X5 ⟨rfl,e5⟩;refine nE e5 ?_;have cB:=ff.trans (zZ e5);cases c6:zBV T (BT T (l.getD 0 0))with
  |false=>
   refine WJ ?_;refine zDw (fun g hg=>by cases hg) ?_;refine BY ?_;exact⟨rfl,e3.trans cB⟩
  |true=>
   have s5:=Vr (s3.ext cB);refine WJ ?_;refine VA (zAf _ _ (VS (M3.ext cB)) ht0) ?_;rintro _ X6 ⟨rfl,e6⟩;refine nE e6 ?_;have dD:=cB.trans (zZ e6);refine BY ?_;exact⟨rfl,e3.trans dD⟩
end
end Go.Proofs.YtmejfcakhpihlaaGreatDoor
set_option maxRecDepth 100000
namespace Go.Proofs.YtmejfcakhpihlaaGreatDoor
open Go.Am
theorem zI4(h h0:WA)(p u:Value)(c:List Value)(t ty:Int)(o:WB h0 h p (u::I ty::c)):WC Tryz.prog tb 186 [I t,p] h fun r h'=>r=.bool (!decide (t=ty))/\h=h':=by
 refine en ?_;refine rt ?_;exact⟨by simp[one],rfl⟩
theorem zIS{i:Nat}{h:WA}{v:Value}{l:List Int}(s:WQ h v l)(hl:0<l.length)(hi:i<=l.length):∃ r,Zp 1 v (some i) none none=some r/\WQ h r (l.drop i):=by
 obtain⟨h1,⟨h2,_⟩|⟨g,off,row,rfl,h3,h4,h5⟩⟩:=s
 ·omega
 have hlen:(l.drop i).length=l.length-i:=List.length_drop ..;refine⟨.slice (some ⟨g,off+i,none⟩) (l.length-i) 1,?_,by simp,.inr ⟨g,off+i,row,by rw[hlen],h3,?_,h5⟩⟩
 ·have b1:Nat.ble i l.length=true:=QH hi;have b2:Nat.ble l.length l.length=true:=QH (QE _);simp only[Zp,Gu,GB,b1,b2,Qp,Qv,cond_true,GR,G4]
 ·obtain⟨c1,c2⟩:=zDV h4;rw[ZD (by rw[hlen];omega),List.map_drop,c2,List.drop_take,List.drop_drop,hlen];congr 2;omega
section
variable {vt vf:Value}{T:List WE}{F:List Wa}{f:Int}{ks:List Int}{ps:List (Int×Int)}{rs:List Int}{g:Nat}
theorem zL1(h:WA)(x:Wj)(cs:List Value)(v:Value)(l:List Int)(M:BJ h g vt vf T F f ks ps rs)(hc:yS T=0)(hR:W8 h cs x)(s:WQ h v l)(hl:l.length<=1000)(ah:∀ t∈l,W7 T t)(bm:W7 T x.ty)
  (hF:∀ f∈F,W7 T f.sig) (hn:x.op=14->0<=x.n) (ez:x.op=3\/x.op=18->0<=x.n/\x.n<(F.length:Int)) (h1:(x.op=14\/x.op=15\/x.op=16\/x.op=17\/x.op=19)->1<=l.length) (h2:x.op=15\/x.op=17\/x.op=10->2<=l.length):
  WC Tryz.prog tb 127 [.pointer (some ⟨g,0,none⟩),.agg cs.toArray,v] h fun r h'=>r=.bool (yD T F x l)/\Ext h h':=by
 obtain⟨xa,xf,rfl,cr,cz,br,dZ,ho⟩:=id hR;obtain⟨a1,a2,a3,rfl⟩:=Wi.shape cr;obtain⟨f1,f2,f3,rfl⟩:=Wi.shape cz;obtain⟨b1,b2,b3,rfl⟩:=Wi.shape s;have mF:∀ y∈[x.ty],W7 T y:=fun y hy=>by rw[QZ.1 hy];exact bm
 refine en ?_;refine VF ?_;intro p h3 e3 o3;have M3:=M.ext e3;have s3:=s.ext e3;have ea:=zH 0 h3;have sX:=VK (s3.ext ea);have oX:=VI (o3.ext ea);unfold yD;by_cases c2:x.op=2
 ·rw[QF c2];refine go ?_;refine WO.bl [x.ty] ?_;intro v4 h4 e4 o4;have M4:=M3.ext e4;have mG:=o3.ext e4;refine go ?_;refine VA (ZN h4 2 v4 [x.ty] M4 o4.sl (by simp) mF) ?_;rintro _ h5 ⟨rfl,e5⟩;rw[ZR];have Ak:=e3.trans (e4.trans e5);cases k2:Ww T 2 x.ty with
  |true=>
   refine gr ?_;exact⟨rfl,Ak⟩
  |false=>
   have M5:=M4.ext e5;have rj:=mG.ext e5;refine go ?_;refine WO.bl [x.ty] ?_;intro v6 h6 e6 o6;have M6:=M5.ext e6;refine go ?_;refine VA (ZN h6 3 v6 [x.ty] M6 o6.sl (by simp) mF) ?_;rintro _ h7 ⟨rfl,e7⟩;rw[ZR];refine gr ?_;exact⟨rfl,Ak.trans (e6.trans e7)⟩
 rw[QC c2];refine go ?_;by_cases c3:x.op=3
 ·rw[QF c3];refine go ?_;obtain⟨⟨hB,vk,vp,vr,o,a,b,c⟩,st,sf,hm⟩:=M3;obtain⟨n0,n1⟩:=ez (.inl c3);obtain⟨cs,⟨vb,rfl,sb,cD⟩,pc,eg⟩:=zP (i:=x.n.toNat) sf (by omega);have eJ:=(pc h3 (Ext.refl _)).1;refine gr ?_;exact⟨rfl,e3⟩
 rw[QC c3];refine go ?_;by_cases wq:x.op=10
 ·rw[QF wq];have df:=h2 (.inr (.inr wq));refine go ?_;refine VC 1 rfl rfl ?_;have KX:=zH 1 h3;have OX:=VK (s3.ext KX);refine WJ ?_;refine VA (ZN _ 2 _ l (M3.aside 1) OX hl ah) ?_;rintro _ X4 ⟨rfl,e4⟩;refine nE e4 ?_;have aL:h3.n<X4.n:=e4.n;have ff:=KX.trans (zZ (h:=h3) e4);have o4:=Vv (o3.ext ff);have s4:=Vr (s3.ext ff);cases k2:isL T 2 l with
  |false=>
   refine WJ ?_;refine Wb.no ?_;refine BY ?_;exact⟨rfl,e3.trans ff⟩
  |true=>
   cases k3:decide (l.getD 0 0=l.getD 1 0)with
   |false=>
    refine WJ ?_;rw[k3];refine Wb.no ?_;refine BY ?_;exact⟨rfl,e3.trans ff⟩
   |true=>
   refine WJ ?_;rw[k3];refine Vg [x.ty] M3.hm ?_;intro X5 n5 g5;have cB:=zEN ff n5 g5 (QE _) aL;have kM:=zC5 (xs:=[x.ty]) (by rw[g5,QF rfl]) (by omega:h3.n<X5.n);refine WJ ?_;refine VA (ZN _ 1 _ [x.ty] (VS (M3.ext cB)) kM (by simp) mF) ?_;rintro _ X6 ⟨rfl,e6⟩;rw[ZR];have dD:=cB.trans (zZ (h:=h3) e6);refine WO.nil ?_;refine zCT e6 ?_;refine BY ?_;exact⟨rfl,e3.trans dD⟩
 rw[QC wq];by_cases kZ:x.op=11\/x.op=12
 ·rw[QF kZ];have fin:∀ (w:Value) (h4:WA) (e4:Ext h3 h4),Wq h3 h4 w [x.ty]->WC Tryz.prog tb 76 [.pointer (some ⟨g,0,none⟩),.int .u8 2,w] h4 fun r h'=>r=.bool (Ww T 2 x.ty)/\Ext h h':=fun w h4 e4 o4=>WC.mono (ZN h4 2 w [x.ty] (M3.ext e4) o4.sl (by simp) mF) fun r h5 ⟨hr,e5⟩=>⟨by rw[hr,ZR],e3.trans (e4.trans e5)⟩;rcases kZ with kZ|C9
  ·refine go ?_;refine WO.bl [x.ty] ?_;intro v4 h4 e4 o4;refine go ?_;refine VA (fin v4 h4 e4 o4) ?_;rintro _ h5 ⟨rfl,e5⟩;refine gr ?_;exact⟨rfl,e5⟩
  ·have kZ:¬x.op=11:=by omega
   refine go ?_;refine WO.bl [x.ty] ?_;intro v4 h4 e4 o4;refine go ?_;refine VA (fin v4 h4 e4 o4) ?_;rintro _ h5 ⟨rfl,e5⟩;refine gr ?_;exact⟨rfl,e5⟩
 rw[QC kZ];obtain⟨kZ,C9⟩:¬x.op=11/\¬x.op=12:=by omega
 refine go ?_;by_cases Al:x.op=13
 ·rw[QF Al];refine go ?_;refine VA (ZN h3 2 _ l M3 s3 hl ah) ?_;rintro _ h5 ⟨rfl,e5⟩;refine gr ?_;exact⟨rfl,e3.trans e5⟩
 rw[QC Al];refine go ?_;by_cases eG:x.op=14\/x.op=15\/x.op=16\/x.op=17
 ·rw[QF eG];have fin:=zJx h3 x _ _ l M3 hc (hR.ext e3) s3 hl ah bm eG hn (h1 (by omega)) (fun c=>h2 (by omega));have fin:=WC.mono (Q':=fun r h'=>r=.bool (zGm T x l)/\Ext h h') fin fun r h' ⟨hr,e⟩=>⟨hr,e3.trans e⟩;rcases eG with eG|kW|kY|tK
  ·refine go ?_;refine VA fin ?_;rintro _ h5 ⟨rfl,e5⟩;refine gr ?_;exact⟨rfl,e5⟩
  ·have nV:¬x.op=14:=by omega
   refine go ?_;refine VA fin ?_;rintro _ h5 ⟨rfl,e5⟩;refine gr ?_;exact⟨rfl,e5⟩
  ·have nV:¬x.op=14:=by omega
   have OY:¬x.op=15:=by omega
   refine go ?_;refine VA fin ?_;rintro _ h5 ⟨rfl,e5⟩;refine gr ?_;exact⟨rfl,e5⟩
  ·have nV:¬x.op=14:=by omega
   have OY:¬x.op=15:=by omega
   have KY:¬x.op=16:=by omega
   refine go ?_;refine VA fin ?_;rintro _ h5 ⟨rfl,e5⟩;refine gr ?_;exact⟨rfl,e5⟩
 rw[QC eG];obtain⟨eG,kW,kY,tK⟩:¬x.op=14/\¬x.op=15/\¬x.op=16/\¬x.op=17:=by omega
 refine go ?_;by_cases iE:x.op=18
 ·rw[QF iE];refine go ?_;refine VC 0 rfl rfl ?_;obtain⟨⟨hB,vk,vp,vr,o,a,b,c⟩,st,sf,hm⟩:=M3.aside 0;obtain⟨n0,n1⟩:=ez (.inr iE);obtain⟨cs,⟨vb,rfl,sb,cD⟩,pc,eg⟩:=zP (i:=x.n.toNat) sf (by omega);have eJ:=(pc _ (Ext.refl _)).1;refine WJ ?_;refine VA (zF4 _ (F.getD x.n.toNat default).sig x.ty _ l (M3.aside 0) ((by refine hF _ ?_;rw[QG,QB (show x.n.toNat<F.length by omega)];exact List.getElem_mem _)) sX hl) ?_;rintro _ X4 ⟨rfl,e4⟩;refine nE e4 ?_;have ff:=ea.trans (zZ (h:=h3) e4);refine BY ?_;exact⟨rfl,e3.trans ff⟩
 rw[QC iE];refine go ?_;by_cases jE:x.op=19
 ·rw[QF jE];have eD:=h1 (by omega);refine go ?_;refine VC 0 rfl rfl ?_;obtain⟨r,eg,sr⟩:=zIS (i:=1) sX (by omega) eD;refine WJ ?_;refine Vi (i:=1) (hy:=rfl) eg ?_;refine WJ ?_;refine VA (zF4 _ (l.getD 0 0) x.ty _ (l.drop 1) (M3.aside 0) (YY ah (by omega)) sr (by simp;omega)) ?_;rintro _ X4 ⟨rfl,e4⟩;refine nE e4 ?_;have ff:=ea.trans (zZ (h:=h3) e4);refine BY ?_;exact⟨rfl,e3.trans ff⟩
 rw[QC jE];refine go ?_;by_cases Da:x.op=22
 ·rw[QF Da];refine go ?_;refine VA (zCH h3 x.ty M3 bm) ?_;rintro _ h4 ⟨rfl,e4⟩;have bz:=e3.trans e4;cases k1:zBV T x.ty with
  |false=>
   refine gr ?_;exact⟨rfl,bz⟩
  |true=>
   have s4:=s3.ext e4;have o4:=o3.ext e4;refine go ?_;refine VA (zAr h4 _ _ l (fun t=> !decide (t=x.ty)) s4 (by omega) ?_) ?_
   ·intro t ht h5 e5;exact WV.func (WC.mono (zI4 h5 _ p _ _ t x.ty (o4.ext e5)) fun r h6 ⟨hr,he⟩=>⟨hr,he▸Ext.refl _⟩)
   rintro _ h5 ⟨rfl,e5⟩;refine gr ?_;refine⟨?_,bz.trans e5⟩;show Value.bool _=_;rw[List.not_any_eq_all_not];simp
 rw[QC Da];refine go ?_;by_cases An:x.op=21
 ·rw[QF An];refine go ?_;refine VA (ZN h3 1 _ l M3 s3 hl ah) ?_;rintro _ h5 ⟨rfl,e5⟩;refine gr ?_;exact⟨rfl,e3.trans e5⟩
 rw[QC An];refine go ?_;refine VA (ZN h3 1 _ l M3 s3 hl ah) ?_;rintro _ h5 ⟨rfl,e5⟩;have cq:=e3.trans e5;cases k1:isL T 1 l with
 |false=>
  refine gr ?_;exact⟨rfl,cq⟩
 |true=>
  have M5:=M3.ext e5;have o5:=o3.ext e5;refine go ?_;refine WO.bl [x.ty] ?_;intro v6 h6 e6 o6;refine go ?_;refine VA (ZN h6 1 v6 [x.ty] (M5.ext e6) o6.sl (by simp) mF) ?_;rintro _ h7 ⟨rfl,e7⟩;rw[ZR];refine gr ?_;exact⟨rfl,cq.trans (e6.trans e7)⟩
end
end Go.Proofs.YtmejfcakhpihlaaGreatDoor
set_option maxRecDepth 100000
namespace Go.Proofs.YtmejfcakhpihlaaGreatDoor
open Go.Am
theorem zQW{xs:List Int}{n:Nat}{c:Int}(h0:0<=c)(h1:c<(n:Int)):(YU xs n).getD c.toNat 0=upL xs c:=by
 unfold YU;rw[QG,GQ,List.getElem?_range (by omega)];show upL xs ((c.toNat:Nat):Int)=_;rw[show((c.toNat:Nat):Int)=c by omega]
section
variable {vt vf:Value}{T:List WE}{F:List Wa}{f:Int}{ks:List Int}{ps:List (Int×Int)}{xs:List Int}{n:Nat}{g:Nat}{nx:Int->List Int}
theorem zLP(h:WA)(a b:Int)(M:BJ h g vt vf T F f ks ps (YU xs n))(r:Rul nx xs)(w:Wl nx 0 b)(hb:0<=b/\b<16)(ah:∀ c,Wl nx 0 c->0<=c/\c<(n:Int))(ha:0<=a):
  WC Tryz.prog tb 189 [.pointer (some ⟨g,0,none⟩),I a,I b] h fun q h'=>(∃ bb,q=.bool bb/\(bb=true↔BH nx a b))/\h=h':=by
 obtain⟨⟨hB,vk,vp,vr,o,ka,kb,kc⟩,st,sf,hm⟩:=M;have ah:=WK.mk ah;refine en ?_;refine VD (fun i=>16-i) (fun i t h1=>h=h1/\∃ c,zC t 2=I c/\WK (Chn nx a b i c false)) 0 ?_ ?_
 ·exact⟨rfl,b,WH,⟨.inr ⟨w,hb,by have:=zOu nx b;omega,by simp⟩⟩⟩
 rintro i t _ ab ⟨rfl,c,s2,hC⟩;by_cases pP:c=a
 ·subst pP;have hd:BH nx c b:=by
   rcases hC.out with⟨h1,_⟩|⟨_,_,_,h2⟩
   ·omega
   ·exact h2.2 (.inr (BH.self nx c))
  refine gr ?_;exact⟨⟨true,by simp[one],by simp[hd]⟩,rfl⟩
 by_cases nB:c= -1
 ·have hd:¬BH nx a b:=by
   rcases hC.out with⟨_,h2⟩|⟨_,h1,_⟩
   ·rw[h2];simp
   ·omega
  have hac:(a == c)=false:=by simp;exact fun e=>pP e.symm
  refine gr ?_;exact⟨⟨false,by simp[one];exact fun e=>pP e.symm,by simp[hd]⟩,rfl⟩
 have aW:0<=c:=by
  rcases hC.out with⟨h1,_⟩|⟨_,h1,_⟩
  ·exact absurd h1 nB
  ·exact h1.1
 obtain⟨wc,OZ,O0⟩:=hC.out.way aW;have xg:=ah.out c wc;have KZ:=zKt xs n;have O1:=zQW (xs:=xs) xg.1 xg.2;have lY:Chn nx a b (i+1) (upL xs c) false:=by
  by_cases hz:c=0
  ·subst hz;have:=hC.out.last;rw[show(false||decide ((0:Int)=a))=false by simp;exact fun e=>pP e]at this;unfold upL;rw[QF rfl];exact this
  ·have:=(hC.out.next r (show 0<c by omega)).1;rw[show(false||decide (c=a))=false by simp;exact pP]at this;unfold upL;rw[QC hz];exact this
 refine go ?_;exact zA (i+1) (by omega) ⟨rfl,upL xs c,by rw[<-O1];exact WH,⟨lY⟩⟩
def zCX(nx:Int->List Int)(p:Int×Int)(block at':Int):Prop:=if p.1=block then p.2<at' else p.1= -1\/BH nx p.1 block
theorem zME(h h1 h2 h3:WA)(p1 p2 p3:Value)(x block at':Int)(M:BJ h g vt vf T F f ks ps (YU xs n))(r:Rul nx xs)(w:Wl nx 0 block)(hb:0<=block/\block<16)(ah:∀ c,Wl nx 0 c->0<=c/\c<(n:Int))
  (o1:WB h1 h p1 [.pointer (some ⟨g,0,none⟩)]) (o2:WB h2 h p2 [I block]) (o3:WB h3 h p3 [I at']) (hx:0<=x/\x<(ps.length:Int)) (hp:(ps.getD x.toNat default).1= -1\/0<=(ps.getD x.toNat default).1):
  WC Tryz.prog tb 188 [I x,p1,p2,p3] h fun q h'=>(∃ bb,q=.bool bb/\(bb=true↔¬zCX nx (ps.getD x.toNat default) block at'))/\Ext h h':=by
 obtain⟨⟨hB,vk,vp,vr,o,ka,kb,kc⟩,st,sf,hm⟩:=id M;obtain⟨cs,rfl,pc,hs⟩:=zP (i:=x.toNat) kb (by omega);have eJ:=(pc h (Ext.refl _)).1;obtain⟨_,_,_,rfl⟩:=zD kb;generalize hq:ps.getD x.toNat default=q at *;obtain⟨q1,q2⟩:=q;unfold zCX;refine en ?_;refine WO.al ?_;intro p4 h4 e4 o4;refine go ?_;refine VH (cs:=[I q1,I q2]) o4 e4 ?_;intro h5 e5 o5 u5;have o1:=o1.ext e5;have o2:=o2.ext e5;have o3:=o3.ext e5;have M5:=M.ext e5;by_cases c1:q1=block
 ·subst c1;refine gr ?_;refine⟨⟨_,rfl,?_⟩,e5⟩;simp
 ·have nB:(q1 == block)=false:=by simp;exact c1
  by_cases c2:q1= -1
  ·refine gr ?_;exact⟨⟨_,rfl,by rw[QC c1];simp[c2]⟩,e5⟩
  ·refine go ?_;refine VA (zLP h5 q1 block M5 r w hb ah (by rcases hp with h|h;exact absurd h c2;exact h)) ?_;rintro _ _ ⟨⟨bb,rfl,aC⟩,rfl⟩;refine gr ?_;refine⟨⟨!bb,rfl,?_⟩,e5⟩;rw[QC c1];cases bb
   ·simp at aC;simp[aC,c2]
   ·simp at aC;simp[aC]
theorem zGa(h:WA)(v:Value)(l:List Int)(block at':Int)(M:BJ h g vt vf T F f ks ps (YU xs n))(r:Rul nx xs)(w:Wl nx 0 block)(hb:0<=block/\block<16)(ah:∀ c,Wl nx 0 c->0<=c/\c<(n:Int))
  (s:WQ h v l) (hl:l.length<=1000) (hx:∀ x∈l,0<=x/\x<(ps.length:Int)) (hp:∀ i,i<ps.length->(ps.getD i default).1= -1\/0<=(ps.getD i default).1):
  WC Tryz.prog tb 129 [.pointer (some ⟨g,0,none⟩),I block,I at',v] h fun q h'=>(∃ bb,q=.bool bb/\(bb=true↔∀ x∈l,zCX nx (ps.getD x.toNat default) block at'))/\Ext h h':=by
 refine en ?_;refine VF ?_;intro p1 h1 e1 o1;refine go ?_;refine VF ?_;intro p2 h2 e2 o2;refine go ?_;refine VF ?_;intro p3 h3 e3 o3;have aN:=e1.trans (e2.trans e3);have o1:=o1.ext (e2.trans e3);have o2:=o2.ext e3;have M3:=M.ext aN;have s3:=s.ext aN;refine go ?_;refine VA (zAr h3 v _ l (fun x=>open Classical in decide (¬zCX nx (ps.getD x.toNat default) block at')) s3 (by omega) ?_) ?_
 ·intro x Db h4 e4;refine WV.func (WC.mono (zME h4 h h1 h2 p1 p2 p3 x block at' (M3.ext e4) r w hb ah (o1.ext e4) (o2.ext e4) (o3.ext e4) (hx x Db) (hp _ (by have:=hx x Db;omega))) ?_);rintro _ h5 ⟨⟨bb,rfl,aC⟩,e5⟩;refine⟨?_,e5⟩;congr 1;cases bb<;>simp_all
 rintro _ h4 ⟨rfl,e4⟩;refine gr ?_;refine⟨⟨_,rfl,?_⟩,aN.trans e4⟩;simp
end
end Go.Proofs.YtmejfcakhpihlaaGreatDoor
set_option maxRecDepth 100000
namespace Go.Proofs.YtmejfcakhpihlaaGreatDoor
open Go.Am
structure Gr(F:List Wa)(f:Int)(nx:Int->List Int)(xs:List Int)(ps:List (Int×Int))(L:List Wc):Prop where
 hf:0<=f/\f<(F.length:Int)
 hL:(F.getD f.toNat default).blocks=L
 n:L.length<=16
 r:Rul nx xs
 way:∀ c,0<=c->c<(L.length:Int)->Wl nx 0 c
 inn:∀ c,Wl nx 0 c->0<=c/\c<(L.length:Int)
 pl:∀ i,i<ps.length->(ps.getD i default).1= -1\/0<=(ps.getD i default).1
def zQt(nx:Int->List Int)(ps:List (Int×Int))(L:List Wc)(frm args:List Int):Prop:=∀ i,i<frm.length->zCX nx (ps.getD (args.getD i 0).toNat default) (frm.getD i 0) ((L.getD (frm.getD i 0).toNat default).ins.length)
section
variable {vt vf:Value}{T:List WE}{F:List Wa}{f:Int}{ks:List Int}{ps:List (Int×Int)}{xs:List Int}{g:Nat}{nx:Int->List Int}{L:List Wc}
theorem zOb(h:WA)(x:Wj)(cs:List Value)(v:Value)(l:List Int)(M:BJ h g vt vf T F f ks ps (YU xs L.length))(G:Gr F f nx xs ps L)(hR:W8 h cs x)(s:WQ h v l)
  (lP:∀ i,i<x.frm.length->0<=x.frm.getD i 0/\x.frm.getD i 0<(L.length:Int)) (hlen:x.frm.length<=x.args.length) (hx:∀ i,i<x.args.length->0<=x.args.getD i 0/\x.args.getD i 0<(ps.length:Int)):
  WC Tryz.prog tb 128 [.pointer (some ⟨g,0,none⟩),.agg cs.toArray,v] h fun q h'=>(∃ bb,q=.bool bb/\(bb=true↔x.frm=l/\zQt nx ps L x.frm x.args))/\Ext h h':=by
 have lP:=WK.mk lP;have hx:=WK.mk hx;obtain⟨xa,xf,rfl,cr,cz,br,dZ,ho⟩:=id hR;obtain⟨a1,a2,a3,rfl⟩:=Wi.shape cr;obtain⟨f1,f2,f3,rfl⟩:=Wi.shape cz;refine en ?_;refine VF ?_;intro p h3 e3 o3;have gT:=cz.ext e3;have s3:=s.ext e3;refine go ?_;refine VA (zFx h3 _ _ x.frm l gT s3 (by omega)) ?_;rintro _ _ ⟨rfl,rfl⟩;by_cases cG:x.frm=l;case neg=>
  rw[QY cG];refine gr ?_;exact⟨⟨false,rfl,by simp[cG]⟩,e3⟩
 rw[Qc cG];refine go ?_;refine VD (fun i=>x.frm.length-i) (fun i t h1=>Ext h3 h1/\zC t 17=I i/\i<=x.frm.length/\WK (∀ j,j<i->zCX nx (ps.getD (x.args.getD j 0).toNat default) (x.frm.getD j 0) ((L.getD (x.frm.getD j 0).toNat default).ins.length))) 0 ?_ ?_
 ·exact⟨Ext.refl _,WH,QK _,⟨fun j hj=>absurd hj (Qk _)⟩⟩
 rintro i t h4 ab ⟨e4,s17,hi,hI⟩;have iZ:=e3.trans e4;have jb:=gT.ext e4;have o4:=o3.ext e4;refine go ?_;refine VE (fun hb=> ?_) (fun hb=> ?_)<;>simp only[DB]at hb
 ·have K0:i<x.frm.length:=by omega
  have mE:i<x.args.length:=by omega
  have Ao:=lP.out i K0;have sy:=hx.out i mE;have hG:=G.hf;have F6:=G.hL;have M4:=M.ext iZ;refine go ?_;refine VC 1 rfl rfl ?_;have ea:=zH 1 h4;have Ah:=VK (cr.ext (iZ.trans ea));have FF:=VI (o4.ext ea);obtain⟨⟨hB,vk,vp,vr,o,a,b,c⟩,st,sf,hm⟩:=M4.aside 1;obtain⟨cs,⟨vb,rfl,sb,cD⟩,pc,eg⟩:=zP (i:=f.toNat) sf (by omega);have eJ:=(pc _ (Ext.refl _)).1;rw[F6]at sb;obtain⟨iy,⟨vi,rfl,si,fc⟩,ri,pS⟩:=zP (i:=(x.frm.getD i 0).toNat) sb (by omega);have nW:=(ri _ (Ext.refl _)).1;refine WJ ?_;refine Vg [x.args.getD i 0] M4.hm ?_;intro X5 n5 g5;have n5':X5.n=h4.n+1:=n5;have e5:Ext h4 (outC h4 X5):=zEN (X:=zB 1 h4) ea n5 g5 (QE _) (Q4 _);have kM:=zC5 (xs:=[x.args.getD i 0]) (by rw[g5,QF rfl]) (by omega:h4.n<X5.n);have M5:=VS (M4.ext e5);clear o st sf hm c b a;refine WJ ?_;refine VA (zGa _ _ [x.args.getD i 0] (x.frm.getD i 0) ((L.getD (x.frm.getD i 0).toNat default).ins.length) M5 G.r (G.way _ Ao.1 Ao.2) (by have:=G.n;omega) G.inn kM (by simp) (fun y hy=>by rw[QZ.1 hy];exact sy) G.pl) ?_;rintro _ X6 ⟨⟨bb,rfl,aC⟩,e6⟩;simp only[QZ,forall_eq]at aC;have dD:=e5.trans (zZ (h:=h4) e6);refine WO.nil ?_;refine zCT e6 ?_;refine WJ ?_;cases bb with
  |false=>
   refine gr ?_;refine⟨⟨false,rfl,?_⟩,iZ.trans dD⟩;simp only[Qa,Gn,not_and];intro _ aF;exact absurd (aC.2 (aF i K0)) Bool.noConfusion
  |true=>
   refine go ?_;refine zA (i+1) (by omega) ⟨e4.trans dD,Wn,by omega,⟨fun j hj=> ?_⟩⟩;by_cases e:j=i
   ·subst e;exact aC.1 rfl
   ·exact hI.out j (by omega)
 ·have aK:i=x.frm.length:=by omega
  subst aK;refine gr ?_;exact⟨⟨true,rfl,by simp only[true_iff];exact⟨cG,hI.out⟩⟩,iZ⟩
end
end Go.Proofs.YtmejfcakhpihlaaGreatDoor
