/- Walks of functions, plain laws; proves no statement. -/
import Derived.Test.YtfnndahpddkniaaGreatDoorJf
set_option linter.all false
set_option maxHeartbeats 1000000
set_option maxRecDepth 100000
namespace Go.Proofs.YtfnndahpddkniaaGreatDoor
open Go.Am
theorem zIO{k:Int}(h0:0<=k)(h:k<4294967296):ye .and (.int .u64 k) (.int .u64 4294967295)=some (.int .u64 k):=by
 have e:(BitVec.ofInt 64 k&&& BitVec.ofInt 64 4294967295).toNat=k.toNat:=by
  rw[BitVec.toNat_and,show(BitVec.ofInt 64 4294967295).toNat=2 ^ 32-1 from rfl,Nat.and_two_pow_sub_one_eq_mod,BitVec.toNat_ofInt];omega
 simp only[ye,ne_eq,not_true_eq_false,GX];rw[show((BitVec.ofInt (IntKind.bits .u64) k&&& BitVec.ofInt (IntKind.bits .u64) 4294967295).toNat)=k.toNat from e,show((k.toNat:Nat):Int)=k by omega,Yb h0 (by omega)];rfl
theorem zEi{k:Int}(h0:0<=k)(h:k<4294967296):ye .shr (.int .u64 k) (.int .u64 32)=some (.int .u64 0):=by
 have e:(min (32:Int).toNat IntKind.u64.bits)=32:=rfl;simp only[ye,e];rw[QC (by decide),Int.fdiv_eq_ediv_of_nonneg _ (by decide),show k / 2 ^ 32=0 by omega]
theorem zEg{a b c:Int}(e:a*b=c)(h0:0<=c)(h:c<18446744073709551616):ye .mul (.int .u64 a) (.int .u64 b)=some (.int .u64 c):=by
 subst e;simp only[ye,ne_eq,not_true_eq_false,GX,Q0];rw[Yb h0 h]
theorem zFu{a b c:Int}(e:a+b=c)(h0:0<=c)(h:c<18446744073709551616):ye .add (.int .u64 a) (.int .u64 b)=some (.int .u64 c):=by
 subst e;simp only[ye,ne_eq,not_true_eq_false,GX,Q0];rw[Yb h0 h]
theorem zMo(h:U0)(k:Nat)(hk:k<4294967296):WC Tryz.prog tb 220 [.int .u64 1,.int .u64 k] h fun r h'=>r=.tuple #[.int .u64 0,.int .u64 k]/\h=h':=by
 have k0:(0:Int)<=k:=by omega
 have k1:(k:Int)<4294967296:=by omega
 refine en ?_;refine WO.bin zP zP (zIO (by omega) (by omega)) ?_;refine go ?_;refine WO.bin zP zP (zEi (by omega) (by omega)) ?_;refine go ?_;refine WO.bin zP zP (zIO k0 k1) ?_;refine go ?_;refine WO.bin zP zP (zEi k0 k1) ?_;refine go ?_;refine WO.bin zP zP (zEg (Int.one_mul _) k0 (by omega)) ?_;refine go ?_;refine WO.bin zP zP (zEg (Int.zero_mul _) (Qe 0) (by omega)) ?_;refine go ?_;refine WO.bin zP zP (zEi k0 k1) ?_;refine go ?_;refine WO.bin zP zP (zFu rfl (by omega) (by omega)) ?_;refine go ?_;refine WO.bin zP zP (zIO (by omega) (by omega)) ?_;refine go ?_;refine WO.bin zP zP (zEi (by omega) (by omega)) ?_;refine go ?_;refine WO.bin zP zP (zEg rfl (by omega) (by omega)) ?_;refine go ?_;refine WO.bin zP zP (zFu rfl (by omega) (by omega)) ?_;refine go ?_;refine WO.bin zP zP (zEg rfl (by omega) (by omega)) ?_;refine go ?_;refine WO.bin zP zP (zFu rfl (by omega) (by omega)) ?_;refine go ?_;refine WO.bin zP zP (zEi (by omega) (by omega)) ?_;refine go ?_;refine WO.bin zP zP (zFu rfl (by omega) (by omega)) ?_;refine go ?_;refine WO.bin zP zP (zEg (Int.one_mul _) k0 (by omega)) ?_;refine gr ?_;exact⟨rfl,rfl⟩
theorem zOY(h:U0)(k:Nat)(hk:k<4294967296):WC Tryz.prog tb 200 [.int .u64 1,.int .u64 k] h fun r h'=>r=.tuple #[.int .u64 0,.int .u64 k]/\h=h':=by
 refine en ?_;refine VA (zMo h k hk) ?_;rintro _ _ ⟨rfl,rfl⟩;refine gr ?_;exact⟨rfl,rfl⟩
theorem zFl{z:List Value}:∀ {m n:Nat},m<=n->(zg z n).take (m*z.length)=zg z m
 |0,n,_=>by simp[zg]
 |m+1,0,h=>by omega
 |m+1,n+1,h=>by
  show(z++zg z n).take _=z++zg z m;rw[show(m+1)*z.length=z.length+m*z.length by rw[Gx];omega,List.take_length_add_append,zFl (by omega)]
theorem zBN{z:List Value}:∀ {m n:Nat},(zg z n).drop (m*z.length)=zg z (n-m)
 |0,n=>by simp
 |m+1,0=>by simp[zg]
 |m+1,n+1=>by
  show(z++zg z n).drop _=_;rw[show(m+1)*z.length=z.length+m*z.length by rw[Gx];omega,List.drop_length_add_append,zBN (m:=m) (n:=n),show n+1-(m+1)=n-m by omega]
theorem zHm{z:List Value}:∀ {m n:Nat},zg z m++zg z n=zg z (m+n)
 |0,n=>by simp[zg]
 |m+1,n=>by
  show(z++zg z m)++zg z n=_;rw[Ql,zHm,show m+1+n=(m+n)+1 by omega];rfl
def zAt(z w:List Value)(n k:Nat):List Value:=zg w n++zg z (k-n)
theorem zM0{z w:List Value}{n k m:Nat}(hw:w.length=z.length)(hm:m<=n)(hk:n+m<=k):zi (zAt z w n k) (n*z.length) ((zg w n).take (m*z.length))=zAt z w (n+m) k:=by
 have h1:(zg w n).length=n*z.length:=by rw[zr,hw]
 have h3:(zg w n).take (m*z.length)=zg w m:=by rw[<-hw];exact zFl hm
 have h2:(zg w m).length=m*z.length:=by rw[zr,hw]
 unfold zi zAt;rw[h3,h2];rw[show List.take (n*z.length) (zg w n++zg z (k-n))=zg w n by rw[<-h1];exact List.take_left];rw[show n*z.length+m*z.length=(zg w n).length+m*z.length by rw[h1],List.drop_length_add_append,zBN,<-zHm,show k-n-m=k-(n+m) by omega]
theorem zLI{c g off len n:Nat}(hn:n<=len):ZY c (.slice (some ⟨g,off,none⟩) len c) none (some n) none=some (.slice (some ⟨g,off,none⟩) n c):=by
 have b1:Nat.ble 0 n=true:=QG (QK _);have b2:Nat.ble n len=true:=QG hn;simp only[ZY,Gq,GD,b1,b2,Qn,Qt,cond_true,GS,Nat.zero_mul,Nat.add_zero,Nat.sub_zero]
theorem zJr{w:List Value}(h:zK w=true):∀ n,zK (zg w n)=true
 |0=>rfl
 |n+1=>by
  have:=zJr h n;unfold zK at *;show(w++zg w n).all _=true;rw[List.all_append,h,this];rfl
theorem zIP(h:U0)(v:Value)(a b:Int)(k:Nat)(s:WW 2 h v 1 [I a,I b])(hm:h.mark<=h.n)(hk:k<=100000):
  WC Tryz.prog tb 172 [v,I k] h fun r h'=>(∃ g,h.n<=g/\g<h'.n/\r=.slice (some ⟨g,0,none⟩) k 2/\h'.get g=some (.row (zg [I a,I b] k) true 0))/\Ext h h':=by
 obtain⟨a1,a2,a3,rfl⟩:=WW.shape s;have hlen:∀ {P:Program} {ih:Ex} {t:U5 Value} {x:Operand},ev t x=.slice a1 a2 a3->U8 P ih t h (.len x)=some (I 1,h):=fun hx=>zDZ s hx;refine en ?_;refine WO.op _ _ rfl (hlen (by exact zP)) ?_;refine go ?_;have hw1:IntKind.wrap .u64 1=1:=rfl;have hwk:IntKind.wrap .u64 (k:Int)=k:=Yb (by omega) (by omega);simp only[hw1,hwk];refine VA (zOY h k (by omega)) ?_;rintro _ _ ⟨rfl,rfl⟩;refine go ?_;refine Ug (n:=k) hk ?_;intro h1 e1 n1 g1;refine go ?_;have s1:=s.ext e1;refine Xm (m:=min 1 k) g1 s1 (by decide) rfl (by rw[zr];show 0+_*2<=k*2;omega) rfl ?_;intro h2 n2 k2 g2 w2 m2 r2 _;have e2:Ext h h2:=⟨by omega,fun j hj=>(k2 j (by omega)).trans (e1.get j hj),fun w=>w2 (e1.wf w),m2.trans e1.mark,fun hm=>(r2 (by rw[e1.mark];exact hm)).trans (e1.wr hm)⟩;have g2:h2.get h.n=some (.row (zAt [I 0,I 0] [I a,I b] (min 1 k) k) true 0):=by
  rw[g2];congr 2;by_cases h0:k=0
  ·subst h0;rfl
  ·have hm1:min 1 k=1:=by omega
   rw[hm1];show zi (zg [I 0,I 0] k) 0 _=zg [I a,I b] 1++zg [I 0,I 0] (k-1);unfold zi;show _++List.drop (1*([I 0,I 0]:List Value).length) _=_;rw[zBN];rfl
 clear g1 k2 w2 m2 r2;refine go ?_;refine VD (fun i=>k-i) (fun i t h1=>Ext h h1/\zB t 8=I i/\i<=k/\(1<=i\/k=0)/\h.n<h1.n/\h1.get h.n=some (.row (zAt [I 0,I 0] [I a,I b] i k) true 0)) (min 1 k) ?_ ?_
 ·exact⟨e2,U6,by omega,by omega,by omega,g2⟩
 rintro i t h3 hsame ⟨e3,s8,hi,hi1,n3,g3⟩;have sl3:WW 2 h3 (.slice (some ⟨h.n,0,none⟩) k 2) k (zAt [I 0,I 0] [I a,I b] i k):=WW.own n3 g3 (by unfold zAt;rw[QR,zr,zr];show i*2+(k-i)*2=k*2;omega);have hlen3:∀ {P:Program} {ih:Ex} {t:U5 Value} {x:Operand},ev t x=.slice (some ⟨h.n,0,none⟩) k 2->U8 P ih t h3 (.len x)=some (I k,h3):=fun hx=>zDZ sl3 hx;refine go ?_;refine WO.op _ _ rfl (hlen3 (by exact zP)) ?_;refine go ?_;refine VE (fun hb=> ?_) (fun hb=> ?_)<;>simp only[DB]at hb
 ·have hik:i<k:=by omega
  refine go ?_;refine VC 0 rfl rfl ?_;refine U9 ?_;refine Vi (i:=i) (hy:=by exact zP) (zHE (Nat.le_of_lt hik)) ?_;refine nQ ?_;refine U9 ?_;refine Vu (i:=i) (hy:=by exact zP) (zLI (Nat.le_of_lt hik)) ?_;refine nQ ?_;refine U9 ?_;have gX:(inC (zC 0 h3)).get h.n=some (.row (zAt [I 0,I 0] [I a,I b] i k) true 0):=g3;have sX:WW 2 (inC (zC 0 h3)) (.slice (some ⟨h.n,0,none⟩) i 2) i (zg [I a,I b] i):=by
   refine⟨by rw[zr];rfl,.inr ⟨h.n,0,_,rfl,by unfold yW;rw[gX],?_,n3⟩⟩;rw[ZG (by unfold zAt;rw[QR,zr,zr];show 0+i*2<=i*2+(k-i)*2;omega)];unfold zAt;rw[Q3,show i*2=(zg [I a,I b] i).length by rw[zr];rfl,List.take_left]
  refine Xm (m:=min i (k-i)) gX sX (by decide) rfl (by unfold zAt;rw[QR,zr,zr];show 0+i*2+_*2<=i*2+(k-i)*2;omega) (zJr rfl i) ?_;intro X' n4 k4 g4 w4 m4 r4 wr4;refine WO.nil (zOy (fun j hj=> ?_) (Nat.le_of_eq n4.symm) fun cl'=> ?_)
  ·rcases wr4 j hj with rfl|h2
   ·rw[e3.mark];exact hm
   ·cases h2
  refine U9 ?_;rw[GC]at g4;have g5:=zM0 (z:=[I 0,I 0]) (w:=[I a,I b]) (n:=i) (k:=k) (m:=min i (k-i)) rfl (by omega) (by omega);rw[show([I 0,I 0]:List Value).length=2 from rfl]at g5;rw[g5]at g4;have hcast:(i:Int)+(min i (k-i):Nat)=((i+min i (k-i):Nat):Int):=by omega
  rw[hcast];refine zA (i+min i (k-i)) (by omega) ⟨⟨?_,?_,?_,?_,?_⟩,U6,by omega,by omega,?_,g4⟩
  ·show h.n<=X'.n;rw[n4];exact Nat.le_of_lt n3
  ·intro j hj;exact(k4 j (by omega)).trans (e3.get j hj)
  ·intro w;exact w4 (e3.wf w)
  ·exact e3.mark
  ·exact e3.wr
  ·show h.n<X'.n;rw[n4];exact n3
 ·have hik:i=k:=by omega
  subst hik;refine gr ?_;refine⟨⟨h.n,QE _,n3,rfl,?_⟩,e3⟩;rw[g3];unfold zAt;rw[Nat.sub_self];simp[zg]
def Wu(T:List U2)(t:Int):Prop:=t= -1\/(0<=t/\t<(T.length:Int))
def Wh(T:List U2)(k t:Int):Bool:=decide (t≠ -1)&&decide ((T.getD t.toNat default).kind=k)
def isL(T:List U2)(k:Int)(l:List Int):Bool:=l.all (Wh T k)
def zBq(T:List U2)(t:Int):Bool:=Wh T 1 t||Wh T 2 t||Wh T 3 t
def BK(T:List U2)(t:Int):Int:=if Wh T 2 t then(T.getD t.toNat default).elem else -1
def Zu(T:List U2)(s n:Int):Int:=
 if s= -1 then -1 else if Wh T 4 s&&decide (n<((T.getD s.toNat default).parts.length:Int))then(T.getD s.toNat default).parts.getD n.toNat 0 else if Wh T 5 s then(T.getD s.toNat default).elem else -1
def zHa(T:List U2)(from' t n:Int):Bool:=decide (Zu T (BK T from') n≠ -1)&&decide (BK T t=Zu T (BK T from') n)
def zC9(T:List U2)(sig:Int)(args:List Int)(t:Int):Bool:=Wh T 3 sig&&decide ((T.getD sig.toNat default).parts=args)&&decide ((T.getD sig.toNat default).elem=t)
def zJF(T:List U2)(x:WY)(l:List Int):Bool:=
 if x.op=14 then Wh T 4 (BK T (l.getD 0 0))&&zHa T (l.getD 0 0) x.ty x.n
 else if x.op=15 then Wh T 5 (BK T (l.getD 0 0))&&Wh T 1 (l.getD 1 0)&&zHa T (l.getD 0 0) x.ty 0
 else if x.op=16 then zBq T (BK T (l.getD 0 0))&&decide (x.ty=BK T (l.getD 0 0))
 else zBq T (BK T (l.getD 0 0))&&decide (l.getD 1 0=BK T (l.getD 0 0))
def sigF(F:List WM)(n:Int):Int:=(F.getD n.toNat default).sig
def z9(T:List U2)(F:List WM)(x:WY)(l:List Int):Bool:=
 if x.op=2 then Wh T 2 x.ty||Wh T 3 x.ty
 else if x.op=3 then decide (x.ty=sigF F x.n)
 else if x.op=10 then isL T 2 l&&decide (l.getD 0 0=l.getD 1 0)&&Wh T 1 x.ty
 else if x.op=11\/x.op=12 then Wh T 2 x.ty
 else if x.op=13 then isL T 2 l
 else if x.op=14\/x.op=15\/x.op=16\/x.op=17 then zJF T x l
 else if x.op=18 then zC9 T (sigF F x.n) l x.ty
 else if x.op=19 then zC9 T (l.getD 0 0) (l.drop 1) x.ty
 else if x.op=22 then zBq T x.ty&&l.all (fun t=>decide (t=x.ty))
 else if x.op=21 then isL T 1 l
 else isL T 1 l&&Wh T 1 x.ty
def Yv(x:WY):Int:=if(zZ x.op).2.2.2.2.2 then x.ty else -1
def Ze(L:List WL):List Int:=L.flatMap fun b=>b.ins.map Yv
def zD8(par:List Int)(L:List WL):List Int:=par++Ze L
def yd(L:List WL):Nat->List (Int×Int)
 |0=>[]
 |n+1=>yd L n++(List.range (L.getD n default).ins.length).map fun(i:Nat)=>((n:Int),(i:Int))
def zDX(par:Nat)(L:List WL):List (Int×Int):=List.replicate par (-1,-1)++yd L L.length
theorem zA9{L:List WL}{n:Nat}(h:n<L.length):Ze (L.take (n+1))=Ze (L.take n)++(L.getD n default).ins.map Yv:=by
 unfold Ze;rw[Q4,QB h,List.flatMap_append,show L.getD n default=L[n] by rw[QH,QB h];rfl];simp
theorem zDj{T:List U2}(h:yQ T=0){t:Int}(h0:0<=t)(h1:t<(T.length:Int)):yz T t.toNat:=by
 rw[zAs]at h;split at h
 ·cases h
 ·split at h
  ·rename_i hl;exact(hl t.toNat (by omega)).1
  ·cases h
theorem zEa{T:List U2}(h:yQ T=0){t:Int}(ht:Wu T t):Wu T (BK T t):=by
 unfold BK;split
 ·rename_i hk;unfold Wh at hk;simp only[QJ,Qc]at hk;rcases ht with rfl|⟨h0,h1⟩
  ·exact absurd rfl hk.1
  ·have:=zDj h h0 h1;rcases this with⟨k,_⟩|⟨_,e0,e1,_⟩|⟨k,_⟩|⟨k,_⟩|⟨k,_⟩
   ·omega
   ·exact .inr ⟨e0,e1⟩
   ·omega
   ·omega
   ·omega
 ·exact .inl rfl
theorem zFX{T:List U2}(h:yQ T=0){s n:Int}(hs:Wu T s)(hn:0<=n):Wu T (Zu T s n):=by
 unfold Zu;split
 ·exact .inl rfl
 rename_i hs1;have⟨h0,h1⟩:=hs.resolve_left hs1;have hm:=zDj h h0 h1;split
 ·rename_i hk;unfold Wh at hk;simp only[QJ,Qc]at hk;rcases hm with⟨k,_⟩|⟨k,_⟩|⟨k,_⟩|⟨_,_,_,_,_,hp⟩|⟨k,_⟩
  ·omega
  ·omega
  ·omega
  ·have hlt:n.toNat<(T.getD s.toNat default).parts.length:=by omega
   have:=hp _ (zO hlt);exact .inr ⟨this.1,by omega⟩
  ·omega
 ·split
  ·rename_i hk;unfold Wh at hk;simp only[QJ,Qc]at hk;rcases hm with⟨k,_⟩|⟨k,_⟩|⟨k,_⟩|⟨k,_⟩|⟨_,e0,e1,_⟩
   ·omega
   ·omega
   ·omega
   ·omega
   ·exact .inr ⟨e0,by omega⟩
  ·exact .inl rfl
theorem zAj{T:List U2}{k t:Int}(h:Wh T k t=true):t≠ -1:=by
 unfold Wh at h;simp only[QJ,Qc]at h;exact h.1
end Go.Proofs.YtfnndahpddkniaaGreatDoor
set_option maxRecDepth 100000
namespace Go.Proofs.YtfnndahpddkniaaGreatDoor
open Go.Am
def RPl(_:U0)(cs:List Value)(x:Int×Int):Prop:=cs=[I x.1,I x.2]
structure BD(h:U0)(g:Nat)(vt vf:Value)(T:List U2)(F:List WM)(f:Int)(ks:List Int)(ps:List (Int×Int))(rs:List Int):Prop where
 own:∃ hB vk vp vr,U1 hB h (.pointer (some ⟨g,0,none⟩)) [vt,vf,I f,vk,vp,vr]/\WJ h vk ks/\Ww 2 RPl h vp ps/\WJ h vr rs
 st:Wp h vt T
 sf:Wd h vf F
 hm:h.mark<=h.n
theorem BD.ext{h h':U0}{g:Nat}{vt vf:Value}{T:List U2}{F:List WM}{f:Int}{ks:List Int}{ps:List (Int×Int)}{rs:List Int}(M:BD h g vt vf T F f ks ps rs)(e:Ext h h'):BD h' g vt vf T F f ks ps rs:=by
 obtain⟨⟨hB,vk,vp,vr,o,a,b,c⟩,st,sf,hm⟩:=M;exact⟨⟨hB,vk,vp,vr,o.ext e,a.ext e,Ww.ext (h:=h) (h':=h') (fun cs a (r:RPl h cs a)=>(r:RPl h' cs a)) b e,c.ext e⟩,st.ext e,Wd.ext sf e,zq e hm⟩
theorem zLA{A B:List Int}(hl:A.length=B.length)(h:∀ i,i<A.length->A.getD i 0=B.getD i 0):A=B:=by
 refine JB hl fun i h1 h2=> ?_;have:=h i h1;rwa [QH,QH,QB h1,QB h2]at this
theorem zFE(h:U0)(va vb:Value)(A B:List Int)(ka:WJ h va A)(kb:WJ h vb B)(la:(A.length:Int)<=9223372036854775807):WC Tryz.prog tb 212 [va,vb] h fun r h'=>r=.bool (decide (A=B))/\h=h':=by
 refine en ?_;by_cases hl:A.length=B.length;case neg=>
  refine gr ?_;exact⟨by rw[QQ (fun e=>hl (by rw[e]))];rfl,rfl⟩
 refine go ?_;refine VD (fun i=>A.length-i) (fun i t h1=>h=h1/\zB t 13=I i/\i<=A.length/\WE (∀ j,j<i->A.getD j 0=B.getD j 0)) 0 ?_ ?_
 ·exact⟨rfl,U6,QK _,⟨fun j hj=>absurd hj (Qh _)⟩⟩
 rintro i t _ hsame ⟨rfl,s13,hi,hI⟩;refine go ?_;refine VE (fun hb=> ?_) (fun hb=> ?_)<;>simp only[DB]at hb
 ·have hia:i<A.length:=by omega
  have hib:i<B.length:=by omega
  refine go ?_;refine VE (fun hb=> ?_) (fun hb=> ?_)<;>simp only[DB]at hb<;>refine go ?_
  ·refine rt ?_;refine⟨?_,rfl⟩;rw[QQ (fun e=>by subst e;exact hb rfl)];rfl
  ·refine zA (i+1) (by omega) ⟨rfl,Wc,by omega,⟨fun j hj=> ?_⟩⟩;by_cases e:j=i
   ·subst e;exact hb
   ·exact hI.out j (by omega)
 ·refine gr ?_;exact⟨by rw[QT (zLA hl fun j hj=>hI.out j (by omega))];rfl,rfl⟩
section
variable {vt vf:Value}{T:List U2}{F:List WM}{f:Int}{ks:List Int}{ps:List (Int×Int)}{rs:List Int}{g:Nat}
theorem zN3(h h0 h00:U0)(p1 p2:Value)(k t:Int)(M:BD h g vt vf T F f ks ps rs)(o1:U1 h0 h p1 [.pointer (some ⟨g,0,none⟩)])(o2:U1 h00 h p2 [.int .u8 k])(ht:Wu T t):
  WC Tryz.prog tb 178 [I t,p1,p2] h fun r h'=>r=.bool (!Wh T k t)/\Ext h h':=by
 obtain⟨⟨hB,vk,vp,vr,o,a,b,c⟩,st,sf,hm⟩:=M;refine en ?_;by_cases h1:t= -1
 ·refine gr ?_;refine⟨?_,Ext.refl h⟩;subst h1;rfl
 ·obtain⟨t0,t1⟩:=ht.resolve_left h1;obtain⟨cs,⟨va,rfl,sa,hla⟩,pc,hs⟩:=yH (i:=t.toNat) st (by omega);refine gr ?_;refine⟨?_,Ext.refl h⟩;unfold Wh;rw[QT h1];simp[one]
theorem y9(h:U0)(k:Int)(v:Value)(l:List Int)(M:BD h g vt vf T F f ks ps rs)(s:WJ h v l)(hl:l.length<=1000)(hin:∀ t∈l,Wu T t):
  WC Tryz.prog tb 137 [.pointer (some ⟨g,0,none⟩),.int .u8 k,v] h fun r h'=>r=.bool (isL T k l)/\Ext h h':=by
 refine en ?_;refine VF ?_;intro p1 h1 e1 o1;refine go ?_;refine VF ?_;intro p2 h2 e2 o2;have o1:=o1.ext e2;have e12:=e1.trans e2;have M2:=M.ext e12;have s2:=s.ext e12;refine go ?_;refine VA (zAP h2 v _ l (fun t=> !Wh T k t) s2 (by omega) ?_) ?_
 ·intro t ht h3 e3;exact WV.func (zN3 h3 h h1 p1 p2 k t (M2.ext e3) (o1.ext e3) (o2.ext e3) (hin t ht))
 rintro _ h3 ⟨rfl,e3⟩;refine gr ?_;refine⟨?_,e12.trans e3⟩;show Value.bool _=_;rw[List.not_any_eq_all_not];simp[isL]
theorem ZD(T:List U2)(k t:Int):isL T k [t]=Wh T k t:=by simp[isL]
theorem zBn(h:U0)(t:Int)(M:BD h g vt vf T F f ks ps rs)(ht:Wu T t):
  WC Tryz.prog tb 210 [.pointer (some ⟨g,0,none⟩),I t] h fun r h'=>r=.bool (zBq T t)/\Ext h h':=by
 have hin:∀ x∈[t],Wu T x:=fun x hx=>by rw[Qb.1 hx];exact ht
 unfold zBq;refine en ?_;refine WO.bl [t] ?_;intro v1 h1 e1 o1;have M1:=M.ext e1;refine go ?_;refine VA (y9 h1 1 v1 [t] M1 o1.sl (by simp) hin) ?_;rintro _ h2 ⟨rfl,e2⟩;rw[ZD];cases c1:Wh T 1 t with
 |true=>
  refine gr ?_;exact⟨rfl,e1.trans e2⟩
 |false=>
  have M2:=M1.ext e2;refine go ?_;refine WO.bl [t] ?_;intro v3 h3 e3 o3;have M3:=M2.ext e3;refine go ?_;refine VA (y9 h3 2 v3 [t] M3 o3.sl (by simp) hin) ?_;rintro _ h4 ⟨rfl,e4⟩;rw[ZD];have e04:=e1.trans (e2.trans (e3.trans e4));cases c2:Wh T 2 t with
  |true=>
   refine gr ?_;exact⟨rfl,e04⟩
  |false=>
   have M4:=M3.ext e4;refine go ?_;refine WO.bl [t] ?_;intro v5 h5 e5 o5;have M5:=M4.ext e5;refine go ?_;refine VA (y9 h5 3 v5 [t] M5 o5.sl (by simp) hin) ?_;rintro _ h6 ⟨rfl,e6⟩;rw[ZD];refine gr ?_;exact⟨by cases Wh T 3 t<;>rfl,e04.trans (e5.trans e6)⟩
theorem zAE(h:U0)(t:Int)(M:BD h g vt vf T F f ks ps rs)(ht:Wu T t):
  WC Tryz.prog tb 225 [.pointer (some ⟨g,0,none⟩),I t] h fun r h'=>r=I (BK T t)/\Ext h h':=by
 have hin:∀ x∈[t],Wu T x:=fun x hx=>by rw[Qb.1 hx];exact ht
 unfold BK;refine en ?_;refine WO.bl [t] ?_;intro v1 h1 e1 o1;have M1:=M.ext e1;refine go ?_;refine VA (y9 h1 2 v1 [t] M1 o1.sl (by simp) hin) ?_;rintro _ h2 ⟨rfl,e2⟩;rw[ZD];cases c1:Wh T 2 t with
 |false=>
  refine gr ?_;exact⟨rfl,e1.trans e2⟩
 |true=>
  obtain⟨⟨hB,vk,vp,vr,o,a,b,c⟩,st,sf,hm⟩:=M1.ext e2;obtain⟨t0,t1⟩:=ht.resolve_left (zAj c1);obtain⟨cs,⟨va,rfl,sa,hla⟩,pc,hs⟩:=yH (i:=t.toNat) st (by omega);refine gr ?_;exact⟨rfl,e1.trans e2⟩
theorem zM9(h:U0)(v:Value)(l:List Int)(M:BD h g vt vf T F f ks ps rs)(s:WJ h v l)(hl:l.length<=1000)(hin:∀ r∈l,0<=r/\r<(ks.length:Int)):
  WC Tryz.prog tb 181 [.pointer (some ⟨g,0,none⟩),v] h fun r h'=>U7 h h' r (l.map fun r=>ks.getD r.toNat 0)/\Ext h h':=by
 refine en ?_;refine VD (fun i=>l.length-i) (fun i t h1=>Ext h h1/\zB t 9=I i/\i<=l.length/\∃ w,zB t 4=w/\U7 h h1 w ((l.take i).map fun r=>ks.getD r.toNat 0)) 0 ?_ ?_
 ·exact⟨Ext.refl _,U6,QK _,_,U6,.inl ⟨rfl,rfl⟩⟩
 rintro i t h1 hsame ⟨e1,s9,hi,w,s4,ow⟩;obtain⟨⟨hB,vk,vp,vr,o,a,b,c⟩,st,sf,hm⟩:=M.ext e1;have s1:=s.ext e1;refine go ?_;refine VE (fun hb=> ?_) (fun hb=> ?_)<;>simp only[DB]at hb
 ·have hi':i<l.length:=by omega
  have hr:=hin _ (zO hi');have hsucc:(l.take (i+1)).map (fun r=>ks.getD r.toNat 0)=(l.take i).map (fun r=>ks.getD r.toNat 0)++[ks.getD (l.getD i 0).toNat 0]:=by
   rw[Q4,QB hi',GB,show l.getD i 0=l[i] by rw[QH,QB hi'];rfl];rfl
  refine go ?_;refine WO.bl [ks.getD (l.getD i 0).toNat 0] ?_;intro v2 h2 e2 o2;refine go ?_;refine VO (ow.ext e2) (WT.sl o2) (e1.trans e2) (by simp only[Qv,Qj,QX];omega) ?_;intro v3 h3 e3 o3;refine go ?_;exact zA (i+1) (by omega) ⟨e3,Wc,by omega,_,U6,by rw[hsucc];exact o3⟩
 ·have hii:i=l.length:=by omega
  subst hii;rw[Qk]at ow;refine gr ?_;exact⟨ow,e1⟩
theorem zFm(h:U0)(sig t:Int)(v:Value)(l:List Int)(M:BD h g vt vf T F f ks ps rs)(hsg:Wu T sig)(s:WJ h v l)(hl:l.length<=1000):
  WC Tryz.prog tb 209 [.pointer (some ⟨g,0,none⟩),I sig,v,I t] h fun r h'=>r=.bool (zC9 T sig l t)/\Ext h h':=by
 have hin:∀ x∈[sig],Wu T x:=fun x hx=>by rw[Qb.1 hx];exact hsg
 unfold zC9;refine en ?_;refine WO.bl [sig] ?_;intro v1 h1 e1 o1;have M1:=M.ext e1;refine go ?_;refine VA (y9 h1 3 v1 [sig] M1 o1.sl (by simp) hin) ?_;rintro _ h2 ⟨rfl,e2⟩;rw[ZD];cases c1:Wh T 3 sig with
 |false=>
  refine gr ?_;exact⟨rfl,e1.trans e2⟩
 |true=>
  obtain⟨⟨hB,vk,vp,vr,o,a,b,c⟩,st,sf,hm⟩:=M1.ext e2;obtain⟨t0,t1⟩:=hsg.resolve_left (zAj c1);have s2:=s.ext (e1.trans e2);obtain⟨cs,⟨va,rfl,sa,hla⟩,pc,hs⟩:=yH (i:=sig.toNat) st (by omega);refine go ?_;refine VA (zFE h2 va v _ l sa s2 (by omega)) ?_;rintro _ _ ⟨rfl,rfl⟩;cases c2:decide ((T.getD sig.toNat default).parts=l)with
  |false=>
   refine gr ?_;exact⟨rfl,e1.trans e2⟩
  |true=>
   refine gr ?_;exact⟨rfl,e1.trans e2⟩
theorem zHF(h:U0)(a t n:Int)(M:BD h g vt vf T F f ks ps rs)(hc:yQ T=0)(ha:Wu T a)(ht:Wu T t)(hn:0<=n):
  WC Tryz.prog tb 226 [.pointer (some ⟨g,0,none⟩),I a,I t,I n] h fun r h'=>r=.bool (zHa T a t n)/\Ext h h':=by
 unfold zHa;refine en ?_;refine VA (zAE h a M ha) ?_;rintro _ h1 ⟨rfl,e1⟩;have hs:=zEa hc ha;have hpn:=zFX hc hs hn;generalize BK T a=s at *;have M1:=M.ext e1;have htt:=zEa hc ht;by_cases hs1:s= -1
 ·have hp:Zu T s n= -1:=by unfold Zu;rw[QF hs1]
  rw[hp];refine gr ?_;exact⟨rfl,e1⟩
 have hin:∀ x∈[s],Wu T x:=fun x hx=>by rw[Qb.1 hx];exact hs
 obtain⟨s0,sL⟩:=hs.resolve_left hs1;refine go ?_;refine WO.bl [s] ?_;intro v2 h2 e2 o2;have M2:=M1.ext e2;refine go ?_;refine VA (y9 h2 4 v2 [s] M2 o2.sl (by simp) hin) ?_;rintro _ h3 ⟨rfl,e3⟩;rw[ZD];have M3:=M2.ext e3;have e03:=e1.trans (e2.trans e3);obtain⟨⟨hB,vk,vp,vr,o,ka,kb,kc⟩,st,sf,hm⟩:=id M3;obtain⟨cs,⟨va,rfl,sa,hla⟩,pc,hsl⟩:=yH (i:=s.toNat) st (by omega);have other:Wh T 4 s=false\/¬n<((T.getD s.toNat default).parts.length:Int)->Zu T s n=if Wh T 5 s then(T.getD s.toNat default).elem else -1:=fun h=>by
  unfold Zu;rw[QC hs1,QC];rcases h with h|h
  ·rw[h];simp
  ·rw[QQ h];simp
 cases c4:Wh T 4 s with
 |true=>
  by_cases hlt:n<((T.getD s.toNat default).parts.length:Int)
  ·have hp:Zu T s n=(T.getD s.toNat default).parts.getD n.toNat 0:=by unfold Zu;rw[QC hs1,c4,QT hlt];rfl
   rw[hp]at hpn |-;have hlt2:n.toNat<(T.getD s.toNat default).parts.length:=by omega
   obtain⟨pp,hpp⟩:∃ pp,(T.getD s.toNat default).parts.getD n.toNat 0=pp:=⟨_,rfl⟩;rw[hpp]at hpn |-;by_cases hp1:pp= -1
   ·rw[hp1];refine gr ?_;exact⟨rfl,e03⟩
   have hd:decide (pp≠ -1)=true:=QT hp1;rw[hd];refine go ?_;refine VA (zAE h3 t M3 ht) ?_;rintro _ h9 ⟨rfl,e9⟩;refine gr ?_;exact⟨by rw[Qd,<-hpp];rfl,e03.trans e9⟩
  ·have hp:=other (.inr hlt);refine go ?_;refine WO.bl [s] ?_;intro v4 h4 e4 o4;have M4:=M3.ext e4;refine go ?_;refine VA (y9 h4 5 v4 [s] M4 o4.sl (by simp) hin) ?_;rintro _ h5 ⟨rfl,e5⟩;rw[ZD];have M5:=M4.ext e5;have e05:=e03.trans (e4.trans e5);rw[hp]at hpn |-;cases c5:Wh T 5 s with
   |false=>
    refine gr ?_;exact⟨rfl,e05⟩
   |true=>
    rw[c5,QF rfl]at hpn;obtain⟨⟨hB',vk',vp',vr',o',ka',kb',kc'⟩,st',sf',hm'⟩:=id M5;obtain⟨cs',⟨va',rfl,sa',hla'⟩,pc',hsl'⟩:=yH (i:=s.toNat) st' (by omega);obtain⟨pp,hpp⟩:∃ pp,(T.getD s.toNat default).elem=pp:=⟨_,rfl⟩;rw[QF rfl];rw[hpp]at hpn |- pc';by_cases hp1:pp= -1
    ·rw[hp1];refine gr ?_;exact⟨rfl,e05⟩
    have hd:decide (pp≠ -1)=true:=QT hp1;rw[hd];refine go ?_;refine VA (zAE h5 t M5 ht) ?_;rintro _ h9 ⟨rfl,e9⟩;refine gr ?_;exact⟨by rw[Qd,show decide (BK T t=pp)=(BK T t == pp)from rfl];rfl,(e05).trans e9⟩
 |false=>
  have hp:=other (.inl c4);refine go ?_;refine WO.bl [s] ?_;intro v4 h4 e4 o4;have M4:=M3.ext e4;refine go ?_;refine VA (y9 h4 5 v4 [s] M4 o4.sl (by simp) hin) ?_;rintro _ h5 ⟨rfl,e5⟩;rw[ZD];have M5:=M4.ext e5;have e05:=e03.trans (e4.trans e5);rw[hp]at hpn |-;cases c5:Wh T 5 s with
  |false=>
   refine gr ?_;exact⟨rfl,e05⟩
  |true=>
   rw[c5,QF rfl]at hpn;obtain⟨⟨hB',vk',vp',vr',o',ka',kb',kc'⟩,st',sf',hm'⟩:=id M5;obtain⟨cs',⟨va',rfl,sa',hla'⟩,pc',hsl'⟩:=yH (i:=s.toNat) st' (by omega);obtain⟨pp,hpp⟩:∃ pp,(T.getD s.toNat default).elem=pp:=⟨_,rfl⟩;rw[QF rfl];rw[hpp]at hpn |- pc';by_cases hp1:pp= -1
   ·rw[hp1];refine gr ?_;exact⟨rfl,e05⟩
   have hd:decide (pp≠ -1)=true:=QT hp1;rw[hd];refine go ?_;refine VA (zAE h5 t M5 ht) ?_;rintro _ h9 ⟨rfl,e9⟩;refine gr ?_;exact⟨by rw[Qd,show decide (BK T t=pp)=(BK T t == pp)from rfl];rfl,(e05).trans e9⟩
end
end Go.Proofs.YtfnndahpddkniaaGreatDoor
set_option maxRecDepth 100000
namespace Go.Proofs.YtfnndahpddkniaaGreatDoor
open Go.Am
theorem zIW{k g:Nat}{hS X X':U0}{ob:Wa}(eX:Ext (inC (zC k hS)) X)(hn:X'.n=X.n)(hg:∀ j,X'.get j=if j=g then some ob else X.get j)(h1:hS.n<=g)(h2:g<X.n):Ext hS {X' with mark:=hS.mark,wr:=hS.wr}:=by
 have n1:=eX.n;have n1:hS.n+k<=X.n:=n1;refine⟨by show hS.n<=X'.n;omega,fun j hj=> ?_,fun w j hj=> ?_,rfl,fun _=>rfl⟩
 ·show X'.get j=_;rw[hg,QC (by omega)];exact eX.get j (QM hj (JA _ _))
 ·have hj:X'.n<=j:=hj;show X'.get j=_;rw[hg,QC (by omega)];exact eX.wf (fun i hi=>w i (Nat.le_of_add_right_le hi)) j (by omega)
theorem zDe{g:Nat}{hS X X':U0}{ob:Wa}(e:Ext hS (outC hS X))(hn:X'.n=X.n)(hg:∀ j,X'.get j=if j=g then some ob else X.get j)(h1:hS.n<=g)(h2:g<X.n):Ext hS (outC hS X'):=by
 have n1:hS.n<=X.n:=e.n;refine⟨by show hS.n<=X'.n;omega,fun j hj=> ?_,fun w j hj=> ?_,rfl,fun _=>rfl⟩
 ·show X'.get j=_;rw[hg,QC (by omega)];exact e.get j hj
 ·have hj:X'.n<=j:=hj;show X'.get j=_;rw[hg,QC (by omega)];exact e.wf w j (by show X.n<=j;omega)
theorem zBm{P:Program}{tab:Wo}{m N0 g:Nat}{o:U3}{l:List (U3×List Nat)}{x:U3×List Nat}{fr:WH}{h h':U0}{Q:WH->U0->Prop}{t:U5 Value}(e:Ext (inC h) h')(hx:WP P tab m N0 (x::l) g false fr (inC h') Q):uK2 P tab m N0 [] t o (inC h) (x::l) g false Q fr h':=by
 have hw:=e.wrnil;exact⟨⟨fun g hg=>(by rw[hw]at hg;cases hg),e.n,.inl rfl⟩,hx⟩
theorem Vt{h0 h X:U0}{p:Value}{cs:List Value}(o:U1 h0 (outC h X) p cs):U1 h0 (inC X) p cs:=o
theorem VG{h0 X:U0}{p:Value}{cs:List Value}(o:U1 h0 X p cs):U1 h0 (inC X) p cs:=o
theorem Vp{h X:U0}{p:Value}{cs:List Int}(o:WJ (outC h X) p cs):WJ (inC X) p cs:=o
theorem VM{X:U0}{p:Value}{cs:List Int}(o:WJ X p cs):WJ (inC X) p cs:=o
theorem zV{h X Y:U0}(e:Ext (inC X) Y):Ext (outC h X) (outC h Y):=by
 have h1:(outC h X).n=X.n:=rfl;refine⟨e.n,e.get,fun w=>e.wf w,rfl,fun _=>rfl⟩
section
variable {vt vf:Value}{T:List U2}{F:List WM}{f:Int}{ks:List Int}{ps:List (Int×Int)}{rs:List Int}{g:Nat}
theorem VS{h:U0}{m:Nat}{w:List Nat}(M:BD {h with mark:=m,wr:=w} g vt vf T F f ks ps rs):BD (inC h) g vt vf T F f ks ps rs:=⟨M.own,M.st,M.sf,QE _⟩
theorem BD.inC{h:U0}(M:BD h g vt vf T F f ks ps rs):BD (inC h) g vt vf T F f ks ps rs:=⟨M.own,M.st,M.sf,QE _⟩
theorem BD.aside{h:U0}(k:Nat)(M:BD h g vt vf T F f ks ps rs):BD (Am.inC (zC k h)) g vt vf T F f ks ps rs:=(M.ext (zI k h)).inC
theorem BD.made{k g':Nat}{hS X X':U0}{ob:Wa}(M:BD hS g vt vf T F f ks ps rs)(eX:Ext (Am.inC (zC k hS)) X)(hn:X'.n=X.n)(hg:∀ j,X'.get j=if j=g' then some ob else X.get j)(h1:hS.n<=g')(h2:g'<X.n):BD (Am.inC X') g vt vf T F f ks ps rs:=VS (M.ext (zIW eX hn hg h1 h2))
theorem zCO{X':U0}{g':Nat}{xs:List Int}(h:X'.get g'=some (.row (xs.map I) true 0))(h2:g'<X'.n):WJ (Am.inC X') (.slice (some ⟨g',0,none⟩) xs.length 1) xs:=WJ.own h2 h
theorem YD{l:List Int}(h:∀ t∈l,Wu T t){i:Nat}(hi:i<l.length):Wu T (l.getD i 0):=h _ (zO hi)
theorem zIR(h:U0)(x:WY)(cs:List Value)(v:Value)(l:List Int)(M:BD h g vt vf T F f ks ps rs)(hc:yQ T=0)(hR:Wt h cs x)(s:WJ h v l)(hl:l.length<=1000)(hin:∀ t∈l,Wu T t)(hty:Wu T x.ty)(hop:x.op=14\/x.op=15\/x.op=16\/x.op=17)(hn:x.op=14->0<=x.n)(h1:1<=l.length)(h2:x.op=15\/x.op=17->2<=l.length):
  WC Tryz.prog tb 208 [.pointer (some ⟨g,0,none⟩),.agg cs.toArray,v] h fun r h'=>r=.bool (zJF T x l)/\Ext h h':=by
 obtain⟨xa,xf,rfl,sxa,sxf,hla,hlf,ho⟩:=hR;obtain⟨a1,a2,a3,rfl⟩:=WW.shape sxa;obtain⟨f1,f2,f3,rfl⟩:=WW.shape sxf;obtain⟨b1,b2,b3,rfl⟩:=WW.shape s;have ht0:=YD hin (show 0<l.length by omega);have hs0:=zEa hc ht0;have hin0:∀ y∈[BK T (l.getD 0 0)],Wu T y:=fun y hy=>by rw[Qb.1 hy];exact hs0
 refine en ?_;refine VF ?_;intro p h3 e3 o3;have M3:=M.ext e3;have s3:=s.ext e3;unfold zJF;by_cases c14:x.op=14
 ·rw[QF c14];refine go ?_;refine VC 1 rfl rfl ?_;have ea:=zI 1 h3;have sX:=VM (s3.ext ea);refine U9 ?_;refine VA (zAE _ _ (M3.aside 1) ht0) ?_;rintro _ X4 ⟨rfl,e4⟩;refine nE e4 ?_;have hlt:h3.n<X4.n:=e4.n;refine U9 ?_;refine Vh [BK T (l.getD 0 0)] M3.hm ?_;intro X5 n5 g5;have e5:Ext h3 (outC h3 X5):=zIW e4 n5 g5 (QE _) hlt;have sv5:=zCO (xs:=[BK T (l.getD 0 0)]) (by rw[g5,QF rfl]) (by omega:h3.n<X5.n);refine U9 ?_;refine VA (y9 _ 4 _ [BK T (l.getD 0 0)] (M3.made e4 n5 g5 (QE _) hlt) sv5 (by simp) hin0) ?_;rintro _ X6 ⟨rfl,e6⟩;rw[ZD];have e6':=e5.trans (zV (h:=h3) e6);refine WO.nil ?_;refine zBm e6 ?_;cases c4:Wh T 4 (BK T (l.getD 0 0))with
  |false=>
   refine BM ?_;exact⟨rfl,e3.trans e6'⟩
  |true=>
   have s6:=Vp (s3.ext e6');have o6:=Vt (o3.ext e6');refine U9 ?_;refine VA (zHF _ _ _ _ (VS (M3.ext e6')) hc ht0 hty (hn c14)) ?_;rintro _ X7 ⟨rfl,e7⟩;refine WO.nil ?_;refine zBm e7 ?_;have e7':=e6'.trans (zV (h:=h3) e7);refine BM ?_;exact⟨rfl,e3.trans e7'⟩
 rw[QC c14];refine go ?_;by_cases c15:x.op=15
 ·have h2:=h2 (.inl c15);have ht1:=YD hin (show 1<l.length by omega);have hin1:∀ y∈[l.getD 1 0],Wu T y:=fun y hy=>by rw[Qb.1 hy];exact ht1
  rw[QF c15];refine go ?_;refine VC 2 rfl rfl ?_;have ea:=zI 2 h3;have sX:=VM (s3.ext ea);refine U9 ?_;refine VA (zAE _ _ (M3.aside 2) ht0) ?_;rintro _ X4 ⟨rfl,e4⟩;refine nE e4 ?_;have hlt:h3.n+1<X4.n:=e4.n;refine U9 ?_;refine Vh [BK T (l.getD 0 0)] M3.hm ?_;intro X5 n5 g5;have e5:Ext h3 (outC h3 X5):=zIW e4 n5 g5 (QE _) (by omega);have sv5:=zCO (xs:=[BK T (l.getD 0 0)]) (by rw[g5,QF rfl]) (by omega:h3.n<X5.n);refine U9 ?_;refine VA (y9 _ 5 _ [BK T (l.getD 0 0)] (M3.made e4 n5 g5 (QE _) (by omega)) sv5 (by simp) hin0) ?_;rintro _ X6 ⟨rfl,e6⟩;rw[ZD];have e6':=e5.trans (zV (h:=h3) e6);refine WO.nil ?_;refine zBm e6 ?_;cases c5:Wh T 5 (BK T (l.getD 0 0))with
  |false=>
   refine U9 ?_;refine WP.no ?_;refine BM ?_;exact⟨rfl,e3.trans e6'⟩
  |true=>
   have s6:=Vp (s3.ext e6');have n6:X5.n<=X6.n:=e6.n;refine U9 ?_;refine Vh [l.getD 1 0] (by have:=M3.hm;omega) ?_;intro X7 n7 g7;have e7':=zDe e6' n7 g7 (by omega) (by omega);have sv7:=zCO (xs:=[l.getD 1 0]) (by rw[g7,QF rfl]) (by omega:h3.n+1<X7.n);refine U9 ?_;refine VA (y9 _ 1 _ [l.getD 1 0] (VS (M3.ext e7')) sv7 (by simp) hin1) ?_;rintro _ X8 ⟨rfl,e8⟩;rw[ZD];have e8':=e7'.trans (zV (h:=h3) e8);refine WO.nil ?_;refine zBm e8 ?_;cases c1:Wh T 1 (l.getD 1 0)with
   |false=>
    refine BM ?_;exact⟨rfl,e3.trans e8'⟩
   |true=>
    have s8:=Vp (s3.ext e8');have o8:=Vt (o3.ext e8');refine U9 ?_;rw[show Value.int .i64 0=I 0 from rfl];refine VA (zHF _ _ _ _ (VS (M3.ext e8')) hc ht0 hty (Qe 0)) ?_;rintro _ X9 ⟨rfl,e9⟩;have e9':=e8'.trans (zV (h:=h3) e9);refine WO.nil ?_;refine zBm e9 ?_;refine BM ?_;exact⟨rfl,e3.trans e9'⟩
 rw[QC c15];refine go ?_;by_cases c16:x.op=16
 ·rw[QF c16];refine go ?_;refine VC 0 rfl rfl ?_;have ea:=zI 0 h3;have sX:=VM (s3.ext ea);refine U9 ?_;refine VA (zAE _ _ (M3.aside 0) ht0) ?_;rintro _ X4 ⟨rfl,e4⟩;refine nE e4 ?_;refine U9 ?_;have e4':=ea.trans (zV (h:=h3) e4);refine VA (zBn _ _ (VS (M3.ext e4')) hs0) ?_;rintro _ X5 ⟨rfl,e5⟩;refine nE e5 ?_;have e5':=e4'.trans (zV e5);cases c6:zBq T (BK T (l.getD 0 0))with
  |false=>
   refine U9 ?_;refine zDB (fun g hg=>by cases hg) ?_;refine BM ?_;exact⟨rfl,e3.trans e5'⟩
  |true=>
   have s5:=Vp (s3.ext e5');have o5:=Vt (o3.ext e5');refine U9 ?_;refine VA (zAE _ _ (VS (M3.ext e5')) ht0) ?_;rintro _ X6 ⟨rfl,e6⟩;refine nE e6 ?_;have e6':=e5'.trans (zV e6);refine BM ?_;exact⟨rfl,e3.trans e6'⟩
 ·rw[QC c16];have h2:=h2 (.inr (by omega));refine go ?_;refine VC 0 rfl rfl ?_;have ea:=zI 0 h3;have sX:=VM (s3.ext ea);refine U9 ?_;refine VA (zAE _ _ (M3.aside 0) ht0) ?_;rintro _ X4 ⟨rfl,e4⟩;refine nE e4 ?_;refine U9 ?_;have e4':=ea.trans (zV (h:=h3) e4);refine VA (zBn _ _ (VS (M3.ext e4')) hs0) ?_;rintro _ X5 ⟨rfl,e5⟩;refine nE e5 ?_;have e5':=e4'.trans (zV e5);cases c6:zBq T (BK T (l.getD 0 0))with
  |false=>
   refine U9 ?_;refine zDB (fun g hg=>by cases hg) ?_;refine BM ?_;exact⟨rfl,e3.trans e5'⟩
  |true=>
   have s5:=Vp (s3.ext e5');refine U9 ?_;refine VA (zAE _ _ (VS (M3.ext e5')) ht0) ?_;rintro _ X6 ⟨rfl,e6⟩;refine nE e6 ?_;have e6':=e5'.trans (zV e6);refine BM ?_;exact⟨rfl,e3.trans e6'⟩
end
end Go.Proofs.YtfnndahpddkniaaGreatDoor
set_option maxRecDepth 100000
namespace Go.Proofs.YtfnndahpddkniaaGreatDoor
open Go.Am
theorem zI3(h h0:U0)(p u:Value)(c:List Value)(t ty:Int)(o:U1 h0 h p (u::I ty::c)):WC Tryz.prog tb 211 [I t,p] h fun r h'=>r=.bool (!decide (t=ty))/\h=h':=by
 refine en ?_;refine rt ?_;exact⟨by simp[one],rfl⟩
theorem zHo{i:Nat}{h:U0}{v:Value}{l:List Int}(s:WJ h v l)(hl:0<l.length)(hi:i<=l.length):∃ r,ZY 1 v (some i) none none=some r/\WJ h r (l.drop i):=by
 obtain⟨h1,⟨h2,_⟩|⟨g,off,row,rfl,h3,h4,h5⟩⟩:=s
 ·omega
 have hlen:(l.drop i).length=l.length-i:=List.length_drop ..;refine⟨.slice (some ⟨g,off+i,none⟩) (l.length-i) 1,?_,by simp,.inr ⟨g,off+i,row,by rw[hlen],h3,?_,h5⟩⟩
 ·have b1:Nat.ble i l.length=true:=QG hi;have b2:Nat.ble l.length l.length=true:=QG (QE _);simp only[ZY,Gq,GD,b1,b2,Qn,Qt,cond_true,GS,JF]
 ·obtain⟨c1,c2⟩:=zDs h4;rw[ZG (by rw[hlen];omega),List.map_drop,c2,List.drop_take,List.drop_drop,hlen];congr 2;omega
section
variable {vt vf:Value}{T:List U2}{F:List WM}{f:Int}{ks:List Int}{ps:List (Int×Int)}{rs:List Int}{g:Nat}
theorem zK3(h:U0)(x:WY)(cs:List Value)(v:Value)(l:List Int)(M:BD h g vt vf T F f ks ps rs)(hc:yQ T=0)(hR:Wt h cs x)(s:WJ h v l)(hl:l.length<=1000)(hin:∀ t∈l,Wu T t)(hty:Wu T x.ty)
  (hF:∀ f∈F,Wu T f.sig) (hn:x.op=14->0<=x.n) (hn2:x.op=3\/x.op=18->0<=x.n/\x.n<(F.length:Int)) (h1:(x.op=14\/x.op=15\/x.op=16\/x.op=17\/x.op=19)->1<=l.length) (h2:x.op=15\/x.op=17\/x.op=10->2<=l.length):
  WC Tryz.prog tb 183 [.pointer (some ⟨g,0,none⟩),.agg cs.toArray,v] h fun r h'=>r=.bool (z9 T F x l)/\Ext h h':=by
 obtain⟨xa,xf,rfl,sxa,sxf,hla,hlf,ho⟩:=id hR;obtain⟨a1,a2,a3,rfl⟩:=WW.shape sxa;obtain⟨f1,f2,f3,rfl⟩:=WW.shape sxf;obtain⟨b1,b2,b3,rfl⟩:=WW.shape s;have hiny:∀ y∈[x.ty],Wu T y:=fun y hy=>by rw[Qb.1 hy];exact hty
 refine en ?_;refine VF ?_;intro p h3 e3 o3;have M3:=M.ext e3;have s3:=s.ext e3;have ea:=zI 0 h3;have sX:=VM (s3.ext ea);have oX:=VG (o3.ext ea);unfold z9;by_cases c2:x.op=2
 ·rw[QF c2];refine go ?_;refine WO.bl [x.ty] ?_;intro v4 h4 e4 o4;have M4:=M3.ext e4;have o34:=o3.ext e4;refine go ?_;refine VA (y9 h4 2 v4 [x.ty] M4 o4.sl (by simp) hiny) ?_;rintro _ h5 ⟨rfl,e5⟩;rw[ZD];have e35:=e3.trans (e4.trans e5);cases k2:Wh T 2 x.ty with
  |true=>
   refine gr ?_;exact⟨rfl,e35⟩
  |false=>
   have M5:=M4.ext e5;have o35:=o34.ext e5;refine go ?_;refine WO.bl [x.ty] ?_;intro v6 h6 e6 o6;have M6:=M5.ext e6;refine go ?_;refine VA (y9 h6 3 v6 [x.ty] M6 o6.sl (by simp) hiny) ?_;rintro _ h7 ⟨rfl,e7⟩;rw[ZD];refine gr ?_;exact⟨rfl,e35.trans (e6.trans e7)⟩
 rw[QC c2];refine go ?_;by_cases c3:x.op=3
 ·rw[QF c3];refine go ?_;obtain⟨⟨hB,vk,vp,vr,o,a,b,c⟩,st,sf,hm⟩:=M3;obtain⟨n0,n1⟩:=hn2 (.inl c3);obtain⟨cs,⟨vb,rfl,sb,hlb⟩,pc,hsl⟩:=zW (i:=x.n.toNat) sf (by omega);have pc1:=(pc h3 (Ext.refl _)).1;refine gr ?_;exact⟨rfl,e3⟩
 rw[QC c3];refine go ?_;by_cases c10:x.op=10
 ·rw[QF c10];have hl2:=h2 (.inr (.inr c10));refine go ?_;refine VC 1 rfl rfl ?_;have ea1:=zI 1 h3;have sX1:=VM (s3.ext ea1);refine U9 ?_;refine VA (y9 _ 2 _ l (M3.aside 1) sX1 hl hin) ?_;rintro _ X4 ⟨rfl,e4⟩;refine nE e4 ?_;have hlt:h3.n<X4.n:=e4.n;have e4':=ea1.trans (zV (h:=h3) e4);have o4:=Vt (o3.ext e4');have s4:=Vp (s3.ext e4');cases k2:isL T 2 l with
  |false=>
   refine U9 ?_;refine WP.no ?_;refine BM ?_;exact⟨rfl,e3.trans e4'⟩
  |true=>
   cases k3:decide (l.getD 0 0=l.getD 1 0)with
   |false=>
    refine U9 ?_;rw[k3];refine WP.no ?_;refine BM ?_;exact⟨rfl,e3.trans e4'⟩
   |true=>
   refine U9 ?_;rw[k3];refine Vh [x.ty] M3.hm ?_;intro X5 n5 g5;have e5':=zDe e4' n5 g5 (QE _) hlt;have sv5:=zCO (xs:=[x.ty]) (by rw[g5,QF rfl]) (by omega:h3.n<X5.n);refine U9 ?_;refine VA (y9 _ 1 _ [x.ty] (VS (M3.ext e5')) sv5 (by simp) hiny) ?_;rintro _ X6 ⟨rfl,e6⟩;rw[ZD];have e6':=e5'.trans (zV (h:=h3) e6);refine WO.nil ?_;refine zBm e6 ?_;refine BM ?_;exact⟨rfl,e3.trans e6'⟩
 rw[QC c10];by_cases c11:x.op=11\/x.op=12
 ·rw[QF c11];have fin:∀ (w:Value) (h4:U0) (e4:Ext h3 h4),WT h3 h4 w [x.ty]->WC Tryz.prog tb 137 [.pointer (some ⟨g,0,none⟩),.int .u8 2,w] h4 fun r h'=>r=.bool (Wh T 2 x.ty)/\Ext h h':=fun w h4 e4 o4=>WC.mono (y9 h4 2 w [x.ty] (M3.ext e4) o4.sl (by simp) hiny) fun r h5 ⟨hr,e5⟩=>⟨by rw[hr,ZD],e3.trans (e4.trans e5)⟩;rcases c11 with c11|c12
  ·refine go ?_;refine WO.bl [x.ty] ?_;intro v4 h4 e4 o4;refine go ?_;refine VA (fin v4 h4 e4 o4) ?_;rintro _ h5 ⟨rfl,e5⟩;refine gr ?_;exact⟨rfl,e5⟩
  ·have c11:¬x.op=11:=by omega
   refine go ?_;refine WO.bl [x.ty] ?_;intro v4 h4 e4 o4;refine go ?_;refine VA (fin v4 h4 e4 o4) ?_;rintro _ h5 ⟨rfl,e5⟩;refine gr ?_;exact⟨rfl,e5⟩
 rw[QC c11];obtain⟨c11,c12⟩:¬x.op=11/\¬x.op=12:=by omega
 refine go ?_;by_cases c13:x.op=13
 ·rw[QF c13];refine go ?_;refine VA (y9 h3 2 _ l M3 s3 hl hin) ?_;rintro _ h5 ⟨rfl,e5⟩;refine gr ?_;exact⟨rfl,e3.trans e5⟩
 rw[QC c13];refine go ?_;by_cases c14:x.op=14\/x.op=15\/x.op=16\/x.op=17
 ·rw[QF c14];have fin:=zIR h3 x _ _ l M3 hc (hR.ext e3) s3 hl hin hty c14 hn (h1 (by omega)) (fun c=>h2 (by omega));have fin:=WC.mono (Q':=fun r h'=>r=.bool (zJF T x l)/\Ext h h') fin fun r h' ⟨hr,e⟩=>⟨hr,e3.trans e⟩;rcases c14 with c14|c15|c16|c17
  ·refine go ?_;refine VA fin ?_;rintro _ h5 ⟨rfl,e5⟩;refine gr ?_;exact⟨rfl,e5⟩
  ·have k14:¬x.op=14:=by omega
   refine go ?_;refine VA fin ?_;rintro _ h5 ⟨rfl,e5⟩;refine gr ?_;exact⟨rfl,e5⟩
  ·have k14:¬x.op=14:=by omega
   have k15:¬x.op=15:=by omega
   refine go ?_;refine VA fin ?_;rintro _ h5 ⟨rfl,e5⟩;refine gr ?_;exact⟨rfl,e5⟩
  ·have k14:¬x.op=14:=by omega
   have k15:¬x.op=15:=by omega
   have k16:¬x.op=16:=by omega
   refine go ?_;refine VA fin ?_;rintro _ h5 ⟨rfl,e5⟩;refine gr ?_;exact⟨rfl,e5⟩
 rw[QC c14];obtain⟨c14,c15,c16,c17⟩:¬x.op=14/\¬x.op=15/\¬x.op=16/\¬x.op=17:=by omega
 refine go ?_;by_cases c18:x.op=18
 ·rw[QF c18];refine go ?_;refine VC 0 rfl rfl ?_;obtain⟨⟨hB,vk,vp,vr,o,a,b,c⟩,st,sf,hm⟩:=M3.aside 0;obtain⟨n0,n1⟩:=hn2 (.inr c18);obtain⟨cs,⟨vb,rfl,sb,hlb⟩,pc,hsl⟩:=zW (i:=x.n.toNat) sf (by omega);have pc1:=(pc _ (Ext.refl _)).1;refine U9 ?_;refine VA (zFm _ (F.getD x.n.toNat default).sig x.ty _ l (M3.aside 0) ((by refine hF _ ?_;rw[QH,QB (show x.n.toNat<F.length by omega)];exact List.getElem_mem _)) sX hl) ?_;rintro _ X4 ⟨rfl,e4⟩;refine nE e4 ?_;have e4':=ea.trans (zV (h:=h3) e4);refine BM ?_;exact⟨rfl,e3.trans e4'⟩
 rw[QC c18];refine go ?_;by_cases c19:x.op=19
 ·rw[QF c19];have hl1:=h1 (by omega);refine go ?_;refine VC 0 rfl rfl ?_;obtain⟨r,hsl,sr⟩:=zHo (i:=1) sX (by omega) hl1;refine U9 ?_;refine Vi (i:=1) (hy:=rfl) hsl ?_;refine U9 ?_;refine VA (zFm _ (l.getD 0 0) x.ty _ (l.drop 1) (M3.aside 0) (YD hin (by omega)) sr (by simp;omega)) ?_;rintro _ X4 ⟨rfl,e4⟩;refine nE e4 ?_;have e4':=ea.trans (zV (h:=h3) e4);refine BM ?_;exact⟨rfl,e3.trans e4'⟩
 rw[QC c19];refine go ?_;by_cases c22:x.op=22
 ·rw[QF c22];refine go ?_;refine VA (zBn h3 x.ty M3 hty) ?_;rintro _ h4 ⟨rfl,e4⟩;have e04:=e3.trans e4;cases k1:zBq T x.ty with
  |false=>
   refine gr ?_;exact⟨rfl,e04⟩
  |true=>
   have s4:=s3.ext e4;have o4:=o3.ext e4;refine go ?_;refine VA (zAP h4 _ _ l (fun t=> !decide (t=x.ty)) s4 (by omega) ?_) ?_
   ·intro t ht h5 e5;exact WV.func (WC.mono (zI3 h5 _ p _ _ t x.ty (o4.ext e5)) fun r h6 ⟨hr,he⟩=>⟨hr,he▸Ext.refl _⟩)
   rintro _ h5 ⟨rfl,e5⟩;refine gr ?_;refine⟨?_,e04.trans e5⟩;show Value.bool _=_;rw[List.not_any_eq_all_not];simp
 rw[QC c22];refine go ?_;by_cases c21:x.op=21
 ·rw[QF c21];refine go ?_;refine VA (y9 h3 1 _ l M3 s3 hl hin) ?_;rintro _ h5 ⟨rfl,e5⟩;refine gr ?_;exact⟨rfl,e3.trans e5⟩
 rw[QC c21];refine go ?_;refine VA (y9 h3 1 _ l M3 s3 hl hin) ?_;rintro _ h5 ⟨rfl,e5⟩;have e05:=e3.trans e5;cases k1:isL T 1 l with
 |false=>
  refine gr ?_;exact⟨rfl,e05⟩
 |true=>
  have M5:=M3.ext e5;have o5:=o3.ext e5;refine go ?_;refine WO.bl [x.ty] ?_;intro v6 h6 e6 o6;refine go ?_;refine VA (y9 h6 1 v6 [x.ty] (M5.ext e6) o6.sl (by simp) hiny) ?_;rintro _ h7 ⟨rfl,e7⟩;rw[ZD];refine gr ?_;exact⟨rfl,e05.trans (e6.trans e7)⟩
end
end Go.Proofs.YtfnndahpddkniaaGreatDoor
set_option maxRecDepth 100000
namespace Go.Proofs.YtfnndahpddkniaaGreatDoor
open Go.Am
theorem zPm{xs:List Int}{n:Nat}{c:Int}(h0:0<=c)(h1:c<(n:Int)):(Z6 xs n).getD c.toNat 0=upL xs c:=by
 unfold Z6;rw[QH,GT,List.getElem?_range (by omega)];show upL xs ((c.toNat:Nat):Int)=_;rw[show((c.toNat:Nat):Int)=c by omega]
section
variable {vt vf:Value}{T:List U2}{F:List WM}{f:Int}{ks:List Int}{ps:List (Int×Int)}{xs:List Int}{n:Nat}{g:Nat}{nx:Int->List Int}
theorem zKK(h:U0)(a b:Int)(M:BD h g vt vf T F f ks ps (Z6 xs n))(r:Rul nx xs)(w:WU nx 0 b)(hb:0<=b/\b<16)(hin:∀ c,WU nx 0 c->0<=c/\c<(n:Int))(ha:0<=a):
  WC Tryz.prog tb 214 [.pointer (some ⟨g,0,none⟩),I a,I b] h fun q h'=>(∃ bb,q=.bool bb/\(bb=true↔W6 nx a b))/\h=h':=by
 obtain⟨⟨hB,vk,vp,vr,o,ka,kb,kc⟩,st,sf,hm⟩:=M;have hin:=WE.mk hin;refine en ?_;refine VD (fun i=>16-i) (fun i t h1=>h=h1/\∃ c,zB t 2=I c/\WE (Chn nx a b i c false)) 0 ?_ ?_
 ·exact⟨rfl,b,U6,⟨.inr ⟨w,hb,by have:=zN0 nx b;omega,by simp⟩⟩⟩
 rintro i t _ hsame ⟨rfl,c,s2,hC⟩;by_cases hca:c=a
 ·subst hca;have hd:W6 nx c b:=by
   rcases hC.out with⟨h1,_⟩|⟨_,_,_,h2⟩
   ·omega
   ·exact h2.2 (.inr (W6.self nx c))
  refine gr ?_;exact⟨⟨true,by simp[one],by simp[hd]⟩,rfl⟩
 by_cases hc1:c= -1
 ·have hd:¬W6 nx a b:=by
   rcases hC.out with⟨_,h2⟩|⟨_,h1,_⟩
   ·rw[h2];simp
   ·omega
  have hac:(a == c)=false:=by simp;exact fun e=>hca e.symm
  refine gr ?_;exact⟨⟨false,by simp[one];exact fun e=>hca e.symm,by simp[hd]⟩,rfl⟩
 have hc0:0<=c:=by
  rcases hC.out with⟨h1,_⟩|⟨_,h1,_⟩
  ·exact absurd h1 hc1
  ·exact h1.1
 obtain⟨wc,hc16,hi15⟩:=hC.out.way hc0;have hcn:=hin.out c wc;have hul:=zKw xs n;have hat:=zPm (xs:=xs) hcn.1 hcn.2;have hnext:Chn nx a b (i+1) (upL xs c) false:=by
  by_cases hz:c=0
  ·subst hz;have:=hC.out.last;rw[show(false||decide ((0:Int)=a))=false by simp;exact fun e=>hca e]at this;unfold upL;rw[QF rfl];exact this
  ·have:=(hC.out.next r (show 0<c by omega)).1;rw[show(false||decide (c=a))=false by simp;exact hca]at this;unfold upL;rw[QC hz];exact this
 refine go ?_;exact zA (i+1) (by omega) ⟨rfl,upL xs c,by rw[<-hat];exact U6,⟨hnext⟩⟩
def zBx(nx:Int->List Int)(p:Int×Int)(block at':Int):Prop:=if p.1=block then p.2<at' else p.1= -1\/W6 nx p.1 block
theorem zMh(h h1 h2 h3:U0)(p1 p2 p3:Value)(x block at':Int)(M:BD h g vt vf T F f ks ps (Z6 xs n))(r:Rul nx xs)(w:WU nx 0 block)(hb:0<=block/\block<16)(hin:∀ c,WU nx 0 c->0<=c/\c<(n:Int))
  (o1:U1 h1 h p1 [.pointer (some ⟨g,0,none⟩)]) (o2:U1 h2 h p2 [I block]) (o3:U1 h3 h p3 [I at']) (hx:0<=x/\x<(ps.length:Int)) (hp:(ps.getD x.toNat default).1= -1\/0<=(ps.getD x.toNat default).1):
  WC Tryz.prog tb 213 [I x,p1,p2,p3] h fun q h'=>(∃ bb,q=.bool bb/\(bb=true↔¬zBx nx (ps.getD x.toNat default) block at'))/\Ext h h':=by
 obtain⟨⟨hB,vk,vp,vr,o,ka,kb,kc⟩,st,sf,hm⟩:=id M;obtain⟨cs,rfl,pc,hs⟩:=zW (i:=x.toNat) kb (by omega);have pc1:=(pc h (Ext.refl _)).1;obtain⟨_,_,_,rfl⟩:=zD kb;generalize hq:ps.getD x.toNat default=q at *;obtain⟨q1,q2⟩:=q;unfold zBx;refine en ?_;refine VL ?_;intro p4 h4 e4 o4;refine go ?_;refine VH (cs:=[I q1,I q2]) o4 e4 ?_;intro h5 e5 o5 u5;have o1:=o1.ext e5;have o2:=o2.ext e5;have o3:=o3.ext e5;have M5:=M.ext e5;by_cases c1:q1=block
 ·subst c1;refine gr ?_;refine⟨⟨_,rfl,?_⟩,e5⟩;simp
 ·have hc1:(q1 == block)=false:=by simp;exact c1
  by_cases c2:q1= -1
  ·refine gr ?_;exact⟨⟨_,rfl,by rw[QC c1];simp[c2]⟩,e5⟩
  ·refine go ?_;refine VA (zKK h5 q1 block M5 r w hb hin (by rcases hp with h|h;exact absurd h c2;exact h)) ?_;rintro _ _ ⟨⟨bb,rfl,hbb⟩,rfl⟩;refine gr ?_;refine⟨⟨!bb,rfl,?_⟩,e5⟩;rw[QC c1];cases bb
   ·simp at hbb;simp[hbb,c2]
   ·simp at hbb;simp[hbb]
theorem zGO(h:U0)(v:Value)(l:List Int)(block at':Int)(M:BD h g vt vf T F f ks ps (Z6 xs n))(r:Rul nx xs)(w:WU nx 0 block)(hb:0<=block/\block<16)(hin:∀ c,WU nx 0 c->0<=c/\c<(n:Int))
  (s:WJ h v l) (hl:l.length<=1000) (hx:∀ x∈l,0<=x/\x<(ps.length:Int)) (hp:∀ i,i<ps.length->(ps.getD i default).1= -1\/0<=(ps.getD i default).1):
  WC Tryz.prog tb 185 [.pointer (some ⟨g,0,none⟩),I block,I at',v] h fun q h'=>(∃ bb,q=.bool bb/\(bb=true↔∀ x∈l,zBx nx (ps.getD x.toNat default) block at'))/\Ext h h':=by
 refine en ?_;refine VF ?_;intro p1 h1 e1 o1;refine go ?_;refine VF ?_;intro p2 h2 e2 o2;refine go ?_;refine VF ?_;intro p3 h3 e3 o3;have e03:=e1.trans (e2.trans e3);have o1:=o1.ext (e2.trans e3);have o2:=o2.ext e3;have M3:=M.ext e03;have s3:=s.ext e03;refine go ?_;refine VA (zAP h3 v _ l (fun x=>open Classical in decide (¬zBx nx (ps.getD x.toNat default) block at')) s3 (by omega) ?_) ?_
 ·intro x hxl h4 e4;refine WV.func (WC.mono (zMh h4 h h1 h2 p1 p2 p3 x block at' (M3.ext e4) r w hb hin (o1.ext e4) (o2.ext e4) (o3.ext e4) (hx x hxl) (hp _ (by have:=hx x hxl;omega))) ?_);rintro _ h5 ⟨⟨bb,rfl,hbb⟩,e5⟩;refine⟨?_,e5⟩;congr 1;cases bb<;>simp_all
 rintro _ h4 ⟨rfl,e4⟩;refine gr ?_;refine⟨⟨_,rfl,?_⟩,e03.trans e4⟩;simp
end
end Go.Proofs.YtfnndahpddkniaaGreatDoor
set_option maxRecDepth 100000
namespace Go.Proofs.YtfnndahpddkniaaGreatDoor
open Go.Am
structure Gr(F:List WM)(f:Int)(nx:Int->List Int)(xs:List Int)(ps:List (Int×Int))(L:List WL):Prop where
 hf:0<=f/\f<(F.length:Int)
 hL:(F.getD f.toNat default).blocks=L
 n:L.length<=16
 r:Rul nx xs
 way:∀ c,0<=c->c<(L.length:Int)->WU nx 0 c
 inn:∀ c,WU nx 0 c->0<=c/\c<(L.length:Int)
 pl:∀ i,i<ps.length->(ps.getD i default).1= -1\/0<=(ps.getD i default).1
def zPR(nx:Int->List Int)(ps:List (Int×Int))(L:List WL)(frm args:List Int):Prop:=∀ i,i<frm.length->zBx nx (ps.getD (args.getD i 0).toNat default) (frm.getD i 0) ((L.getD (frm.getD i 0).toNat default).ins.length)
section
variable {vt vf:Value}{T:List U2}{F:List WM}{f:Int}{ks:List Int}{ps:List (Int×Int)}{xs:List Int}{g:Nat}{nx:Int->List Int}{L:List WL}
theorem zN9(h:U0)(x:WY)(cs:List Value)(v:Value)(l:List Int)(M:BD h g vt vf T F f ks ps (Z6 xs L.length))(G:Gr F f nx xs ps L)(hR:Wt h cs x)(s:WJ h v l)
  (hfr:∀ i,i<x.frm.length->0<=x.frm.getD i 0/\x.frm.getD i 0<(L.length:Int)) (hlen:x.frm.length<=x.args.length) (hx:∀ i,i<x.args.length->0<=x.args.getD i 0/\x.args.getD i 0<(ps.length:Int)):
  WC Tryz.prog tb 184 [.pointer (some ⟨g,0,none⟩),.agg cs.toArray,v] h fun q h'=>(∃ bb,q=.bool bb/\(bb=true↔x.frm=l/\zPR nx ps L x.frm x.args))/\Ext h h':=by
 have hfr:=WE.mk hfr;have hx:=WE.mk hx;obtain⟨xa,xf,rfl,sxa,sxf,hla,hlf,ho⟩:=id hR;obtain⟨a1,a2,a3,rfl⟩:=WW.shape sxa;obtain⟨f1,f2,f3,rfl⟩:=WW.shape sxf;refine en ?_;refine VF ?_;intro p h3 e3 o3;have sf3:=sxf.ext e3;have s3:=s.ext e3;refine go ?_;refine VA (zFE h3 _ _ x.frm l sf3 s3 (by omega)) ?_;rintro _ _ ⟨rfl,rfl⟩;by_cases hfl:x.frm=l;case neg=>
  rw[QQ hfl];refine gr ?_;exact⟨⟨false,rfl,by simp[hfl]⟩,e3⟩
 rw[QT hfl];refine go ?_;refine VD (fun i=>x.frm.length-i) (fun i t h1=>Ext h3 h1/\zB t 17=I i/\i<=x.frm.length/\WE (∀ j,j<i->zBx nx (ps.getD (x.args.getD j 0).toNat default) (x.frm.getD j 0) ((L.getD (x.frm.getD j 0).toNat default).ins.length))) 0 ?_ ?_
 ·exact⟨Ext.refl _,U6,QK _,⟨fun j hj=>absurd hj (Qh _)⟩⟩
 rintro i t h4 hsame ⟨e4,s17,hi,hI⟩;have e34:=e3.trans e4;have sf4:=sf3.ext e4;have o4:=o3.ext e4;refine go ?_;refine VE (fun hb=> ?_) (fun hb=> ?_)<;>simp only[DB]at hb
 ·have hif:i<x.frm.length:=by omega
  have hia:i<x.args.length:=by omega
  have hfr1:=hfr.out i hif;have hx1:=hx.out i hia;have hG:=G.hf;have hGL:=G.hL;have M4:=M.ext e34;refine go ?_;refine VC 1 rfl rfl ?_;have ea:=zI 1 h4;have sa4:=VM (sxa.ext (e34.trans ea));have o4':=VG (o4.ext ea);obtain⟨⟨hB,vk,vp,vr,o,a,b,c⟩,st,sf,hm⟩:=M4.aside 1;obtain⟨cs,⟨vb,rfl,sb,hlb⟩,pc,hsl⟩:=zW (i:=f.toNat) sf (by omega);have pc1:=(pc _ (Ext.refl _)).1;rw[hGL]at sb;obtain⟨cs2,⟨vi,rfl,si,hli⟩,pc',hsl'⟩:=zW (i:=(x.frm.getD i 0).toNat) sb (by omega);have pc2:=(pc' _ (Ext.refl _)).1;refine U9 ?_;refine Vh [x.args.getD i 0] M4.hm ?_;intro X5 n5 g5;have n5':X5.n=h4.n+1:=n5;have e5:Ext h4 (outC h4 X5):=zDe (X:=zC 1 h4) ea n5 g5 (QE _) (Q1 _);have sv5:=zCO (xs:=[x.args.getD i 0]) (by rw[g5,QF rfl]) (by omega:h4.n<X5.n);have M5:=VS (M4.ext e5);clear o st sf hm c b a;refine U9 ?_;refine VA (zGO _ _ [x.args.getD i 0] (x.frm.getD i 0) ((L.getD (x.frm.getD i 0).toNat default).ins.length) M5 G.r (G.way _ hfr1.1 hfr1.2) (by have:=G.n;omega) G.inn sv5 (by simp) (fun y hy=>by rw[Qb.1 hy];exact hx1) G.pl) ?_;rintro _ X6 ⟨⟨bb,rfl,hbb⟩,e6⟩;simp only[Qb,forall_eq]at hbb;have e6':=e5.trans (zV (h:=h4) e6);refine WO.nil ?_;refine zBm e6 ?_;refine U9 ?_;cases bb with
  |false=>
   refine gr ?_;refine⟨⟨false,rfl,?_⟩,e34.trans e6'⟩;simp only[QZ,Gl,not_and];intro _ hall;exact absurd (hbb.2 (hall i hif)) Bool.noConfusion
  |true=>
   refine go ?_;refine zA (i+1) (by omega) ⟨e4.trans e6',Wc,by omega,⟨fun j hj=> ?_⟩⟩;by_cases e:j=i
   ·subst e;exact hbb.1 rfl
   ·exact hI.out j (by omega)
 ·have hii:i=x.frm.length:=by omega
  subst hii;refine gr ?_;exact⟨⟨true,rfl,by simp only[true_iff];exact⟨hfl,hI.out⟩⟩,e34⟩
end
end Go.Proofs.YtfnndahpddkniaaGreatDoor
