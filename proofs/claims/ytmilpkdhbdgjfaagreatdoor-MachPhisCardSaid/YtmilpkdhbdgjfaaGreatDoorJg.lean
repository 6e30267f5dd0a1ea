/- Walks of functions, plain laws; proves no statement. -/
import Derived.Test.YtmilpkdhbdgjfaaGreatDoorJf
set_option linter.all false
set_option maxHeartbeats 1000000
set_option maxRecDepth 100000
namespace Go.Proofs.YtmilpkdhbdgjfaaGreatDoor
open Go.Am
theorem zJP{k:Int}(h0:0<=k)(h:k<4294967296):yC .and (.int .u64 k) (.int .u64 4294967295)=some (.int .u64 k):=by
 have e:(BitVec.ofInt 64 k&&& BitVec.ofInt 64 4294967295).toNat=k.toNat:=by
  rw[BitVec.toNat_and,show(BitVec.ofInt 64 4294967295).toNat=2 ^ 32-1 from rfl,Nat.and_two_pow_sub_one_eq_mod,BitVec.toNat_ofInt];omega
 simp only[yC,ne_eq,not_true_eq_false,G1];rw[show((BitVec.ofInt (IntKind.bits .u64) k&&& BitVec.ofInt (IntKind.bits .u64) 4294967295).toNat)=k.toNat from e,show((k.toNat:Nat):Int)=k by omega,Yd h0 (by omega)];rfl
theorem zEU{k:Int}(h0:0<=k)(h:k<4294967296):yC .shr (.int .u64 k) (.int .u64 32)=some (.int .u64 0):=by
 have e:(min (32:Int).toNat IntKind.u64.bits)=32:=rfl;simp only[yC,e];rw[QC (by decide),Int.fdiv_eq_ediv_of_nonneg _ (by decide),show k / 2 ^ 32=0 by omega]
theorem zEO{a b c:Int}(e:a*b=c)(h0:0<=c)(h:c<18446744073709551616):yC .mul (.int .u64 a) (.int .u64 b)=some (.int .u64 c):=by
 subst e;simp only[yC,ne_eq,not_true_eq_false,G1,Q9];rw[Yd h0 h]
theorem zGL{a b c:Int}(e:a+b=c)(h0:0<=c)(h:c<18446744073709551616):yC .add (.int .u64 a) (.int .u64 b)=some (.int .u64 c):=by
 subst e;simp only[yC,ne_eq,not_true_eq_false,G1,Q9];rw[Yd h0 h]
theorem zMk(h:WF)(k:Nat)(hk:k<4294967296):WC Tryz.prog tb 206 [.int .u64 1,.int .u64 k] h fun r h'=>r=.tuple #[.int .u64 0,.int .u64 k]/\h=h':=by
 have k0:(0:Int)<=k:=by omega
 have k1:(k:Int)<4294967296:=by omega
 refine en ?_;refine WO.bin zP zP (zJP (by omega) (by omega)) ?_;refine go ?_;refine WO.bin zP zP (zEU (by omega) (by omega)) ?_;refine go ?_;refine WO.bin zP zP (zJP k0 k1) ?_;refine go ?_;refine WO.bin zP zP (zEU k0 k1) ?_;refine go ?_;refine WO.bin zP zP (zEO (Int.one_mul _) k0 (by omega)) ?_;refine go ?_;refine WO.bin zP zP (zEO (Int.zero_mul _) (Qh 0) (by omega)) ?_;refine go ?_;refine WO.bin zP zP (zEU k0 k1) ?_;refine go ?_;refine WO.bin zP zP (zGL rfl (by omega) (by omega)) ?_;refine go ?_;refine WO.bin zP zP (zJP (by omega) (by omega)) ?_;refine go ?_;refine WO.bin zP zP (zEU (by omega) (by omega)) ?_;refine go ?_;refine WO.bin zP zP (zEO rfl (by omega) (by omega)) ?_;refine go ?_;refine WO.bin zP zP (zGL rfl (by omega) (by omega)) ?_;refine go ?_;refine WO.bin zP zP (zEO rfl (by omega) (by omega)) ?_;refine go ?_;refine WO.bin zP zP (zGL rfl (by omega) (by omega)) ?_;refine go ?_;refine WO.bin zP zP (zEU (by omega) (by omega)) ?_;refine go ?_;refine WO.bin zP zP (zGL rfl (by omega) (by omega)) ?_;refine go ?_;refine WO.bin zP zP (zEO (Int.one_mul _) k0 (by omega)) ?_;refine gr ?_;exact⟨rfl,rfl⟩
theorem zOl(h:WF)(k:Nat)(hk:k<4294967296):WC Tryz.prog tb 172 [.int .u64 1,.int .u64 k] h fun r h'=>r=.tuple #[.int .u64 0,.int .u64 k]/\h=h':=by
 refine en ?_;refine VA (zMk h k hk) ?_;rintro _ _ ⟨rfl,rfl⟩;refine gr ?_;exact⟨rfl,rfl⟩
theorem zE0{z:List Value}:∀ {m n:Nat},m<=n->(zS z n).take (m*z.length)=zS z m
 |0,n,_=>by simp[zS]
 |m+1,0,h=>by omega
 |m+1,n+1,h=>by
  show(z++zS z n).take _=z++zS z m;rw[show(m+1)*z.length=z.length+m*z.length by rw[Gf];omega,List.take_length_add_append,zE0 (by omega)]
theorem zBA{z:List Value}:∀ {m n:Nat},(zS z n).drop (m*z.length)=zS z (n-m)
 |0,n=>by simp
 |m+1,0=>by simp[zS]
 |m+1,n+1=>by
  show(z++zS z n).drop _=_;rw[show(m+1)*z.length=z.length+m*z.length by rw[Gf];omega,List.drop_length_add_append,zBA (m:=m) (n:=n),show n+1-(m+1)=n-m by omega]
theorem zHm{z:List Value}:∀ {m n:Nat},zS z m++zS z n=zS z (m+n)
 |0,n=>by simp[zS]
 |m+1,n=>by
  show(z++zS z m)++zS z n=_;rw[Q3,zHm,show m+1+n=(m+n)+1 by omega];rfl
def zAn(z w:List Value)(n k:Nat):List Value:=zS w n++zS z (k-n)
theorem zMy{z w:List Value}{n k m:Nat}(hw:w.length=z.length)(hm:m<=n)(hk:n+m<=k):zO (zAn z w n k) (n*z.length) ((zS w n).take (m*z.length))=zAn z w (n+m) k:=by
 have h1:(zS w n).length=n*z.length:=by rw[zn,hw]
 have h3:(zS w n).take (m*z.length)=zS w m:=by rw[<-hw];exact zE0 hm
 have h2:(zS w m).length=m*z.length:=by rw[zn,hw]
 unfold zO zAn;rw[h3,h2];rw[show List.take (n*z.length) (zS w n++zS z (k-n))=zS w n by rw[<-h1];exact List.take_left];rw[show n*z.length+m*z.length=(zS w n).length+m*z.length by rw[h1],List.drop_length_add_append,zBA,<-zHm,show k-n-m=k-(n+m) by omega]
theorem zKT{c g off len n:Nat}(hn:n<=len):yU c (.slice (some ⟨g,off,none⟩) len c) none (some n) none=some (.slice (some ⟨g,off,none⟩) n c):=by
 have b1:Nat.ble 0 n=true:=QF (QU _);have b2:Nat.ble n len=true:=QF hn;simp only[yU,Ge,Q1,b1,b2,Qf,Qn,cond_true,GP,G7,G9,Nat.sub_zero]
theorem zJp{w:List Value}(h:zH w=true):∀ n,zH (zS w n)=true
 |0=>rfl
 |n+1=>by
  have:=zJp h n;unfold zH at *;show(w++zS w n).all _=true;rw[Gu,h,this];rfl
theorem zIJ(h:WF)(v:Value)(a b:Int)(k:Nat)(s:Wt 2 h v 1 [I a,I b])(hm:h.mark<=h.n)(hk:k<=100000):
  WC Tryz.prog tb 133 [v,I k] h fun r h'=>(∃ g,h.n<=g/\g<h'.n/\r=.slice (some ⟨g,0,none⟩) k 2/\h'.get g=some (.row (zS [I a,I b] k) true 0))/\WK h h':=by
 obtain⟨a1,a2,a3,rfl⟩:=Wt.shape s;have hlen:∀ {P:Program} {ih:Ex} {t:WI Value} {x:Operand},ev t x=.slice a1 a2 a3->WN P ih t h (.len x)=some (I 1,h):=fun hx=>zDa s hx;refine en ?_;refine WO.op _ _ rfl (hlen (by exact zP)) ?_;refine go ?_;have hw1:IntKind.wrap .u64 1=1:=rfl;have hwk:IntKind.wrap .u64 (k:Int)=k:=Yd (by omega) (by omega);simp only[hw1,hwk];refine VA (zOl h k (by omega)) ?_;rintro _ _ ⟨rfl,rfl⟩;refine go ?_;refine Xs (n:=k) hk ?_;intro h1 e1 n1 g1;refine go ?_;have s1:=s.ext e1;refine Xv (m:=min 1 k) g1 s1 (by decide) rfl (by rw[zn];show 0+_*2<=k*2;omega) rfl ?_;intro h2 n2 k2 g2 w2 m2 r2 _;have e2:WK h h2:=⟨by omega,fun j hj=>(k2 j (by omega)).trans (e1.get j hj),fun w=>w2 (e1.wf w),m2.trans e1.mark,fun hm=>(r2 (by rw[e1.mark];exact hm)).trans (e1.wr hm)⟩;have g2:h2.get h.n=some (.row (zAn [I 0,I 0] [I a,I b] (min 1 k) k) true 0):=by
  rw[g2];congr 2;by_cases h0:k=0
  ·subst h0;rfl
  ·have hm1:min 1 k=1:=by omega
   rw[hm1];show zO (zS [I 0,I 0] k) 0 _=zS [I a,I b] 1++zS [I 0,I 0] (k-1);unfold zO;show _++List.drop (1*([I 0,I 0]:List Value).length) _=_;rw[zBA];rfl
 clear g1 k2 w2 m2 r2;refine go ?_;refine VE (fun i=>k-i) (fun i t h1=>WK h h1/\zC t 8=I i/\i<=k/\(1<=i\/k=0)/\h.n<h1.n/\h1.get h.n=some (.row (zAn [I 0,I 0] [I a,I b] i k) true 0)) (min 1 k) ?_ ?_
 ·exact⟨e2,WM,by omega,by omega,by omega,g2⟩
 rintro i t h3 hsame ⟨e3,s8,hi,hi1,n3,g3⟩;have sl3:Wt 2 h3 (.slice (some ⟨h.n,0,none⟩) k 2) k (zAn [I 0,I 0] [I a,I b] i k):=Wt.own n3 g3 (by unfold zAn;rw[QT,zn,zn];show i*2+(k-i)*2=k*2;omega);have hlen3:∀ {P:Program} {ih:Ex} {t:WI Value} {x:Operand},ev t x=.slice (some ⟨h.n,0,none⟩) k 2->WN P ih t h3 (.len x)=some (I k,h3):=fun hx=>zDa sl3 hx;refine go ?_;refine WO.op _ _ rfl (hlen3 (by exact zP)) ?_;refine go ?_;refine VD (fun hb=> ?_) (fun hb=> ?_)<;>simp only[DB]at hb
 ·have hik:i<k:=by omega
  refine go ?_;refine VC 0 rfl rfl ?_;refine Wc ?_;refine Vi (i:=i) (hy:=by exact zP) (zA7 (Nat.le_of_lt hik)) ?_;refine nQ ?_;refine Wc ?_;refine Vh (i:=i) (hy:=by exact zP) (zKT (Nat.le_of_lt hik)) ?_;refine nQ ?_;refine Wc ?_;have gX:(inC (zB 0 h3)).get h.n=some (.row (zAn [I 0,I 0] [I a,I b] i k) true 0):=g3;have sX:Wt 2 (inC (zB 0 h3)) (.slice (some ⟨h.n,0,none⟩) i 2) i (zS [I a,I b] i):=by
   refine⟨by rw[zn];rfl,.inr ⟨h.n,0,_,rfl,by unfold zv;rw[gX],?_,n3⟩⟩;rw[yt (by unfold zAn;rw[QT,zn,zn];show 0+i*2<=i*2+(k-i)*2;omega)];unfold zAn;rw[Qx,show i*2=(zS [I a,I b] i).length by rw[zn];rfl,List.take_left]
  refine Xv (m:=min i (k-i)) gX sX (by decide) rfl (by unfold zAn;rw[QT,zn,zn];show 0+i*2+_*2<=i*2+(k-i)*2;omega) (zJp rfl i) ?_;intro X' n4 k4 g4 w4 m4 r4 wr4;refine WO.nil (zMd (fun j hj=> ?_) (Nat.le_of_eq n4.symm) fun cl'=> ?_)
  ·rcases wr4 j hj with rfl|h2
   ·rw[e3.mark];exact hm
   ·cases h2
  refine Wc ?_;rw[Qk]at g4;have g5:=zMy (z:=[I 0,I 0]) (w:=[I a,I b]) (n:=i) (k:=k) (m:=min i (k-i)) rfl (by omega) (by omega);rw[show([I 0,I 0]:List Value).length=2 from rfl]at g5;rw[g5]at g4;have hcast:(i:Int)+(min i (k-i):Nat)=((i+min i (k-i):Nat):Int):=by omega
  rw[hcast];refine zA (i+min i (k-i)) (by omega) ⟨⟨?_,?_,?_,?_,?_⟩,WM,by omega,by omega,?_,g4⟩
  ·show h.n<=X'.n;rw[n4];exact Nat.le_of_lt n3
  ·intro j hj;exact(k4 j (by omega)).trans (e3.get j hj)
  ·intro w;exact w4 (e3.wf w)
  ·exact e3.mark
  ·exact e3.wr
  ·show h.n<X'.n;rw[n4];exact n3
 ·have hik:i=k:=by omega
  subst hik;refine gr ?_;refine⟨⟨h.n,QE _,n3,rfl,?_⟩,e3⟩;rw[g3];unfold zAn;rw[Nat.sub_self];simp[zS]
def BU(T:List WJ)(t:Int):Prop:=t= -1\/(0<=t/\t<(T.length:Int))
def BG(T:List WJ)(k t:Int):Bool:=decide (t≠ -1)&&decide ((T.getD t.toNat default).kind=k)
def isL(T:List WJ)(k:Int)(l:List Int):Bool:=l.all (BG T k)
def zHl(T:List WJ)(t:Int):Bool:=BG T 1 t||BG T 2 t||BG T 3 t
def Bk(T:List WJ)(t:Int):Int:=if BG T 2 t then(T.getD t.toNat default).elem else -1
def zAH(T:List WJ)(s n:Int):Int:=
 if s= -1 then -1 else if BG T 4 s&&decide (n<((T.getD s.toNat default).parts.length:Int))then(T.getD s.toNat default).parts.getD n.toNat 0 else if BG T 5 s then(T.getD s.toNat default).elem else -1
def zKK(T:List WJ)(from' t n:Int):Bool:=decide (zAH T (Bk T from') n≠ -1)&&decide (Bk T t=zAH T (Bk T from') n)
def zJc(T:List WJ)(sig:Int)(args:List Int)(t:Int):Bool:=BG T 3 sig&&decide ((T.getD sig.toNat default).parts=args)&&decide ((T.getD sig.toNat default).elem=t)
def zOb(T:List WJ)(x:Wo)(l:List Int):Bool:=
 if x.op=14 then BG T 4 (Bk T (l.getD 0 0))&&zKK T (l.getD 0 0) x.ty x.n
 else if x.op=15 then BG T 5 (Bk T (l.getD 0 0))&&BG T 1 (l.getD 1 0)&&zKK T (l.getD 0 0) x.ty 0
 else if x.op=16 then zHl T (Bk T (l.getD 0 0))&&decide (x.ty=Bk T (l.getD 0 0))
 else zHl T (Bk T (l.getD 0 0))&&decide (l.getD 1 0=Bk T (l.getD 0 0))
def sigF(F:List Wj)(n:Int):Int:=(F.getD n.toNat default).sig
def zGh(T:List WJ)(F:List Wj)(x:Wo)(l:List Int):Bool:=
 if x.op=2 then BG T 2 x.ty||BG T 3 x.ty
 else if x.op=3 then decide (x.ty=sigF F x.n)
 else if x.op=10 then isL T 2 l&&decide (l.getD 0 0=l.getD 1 0)&&BG T 1 x.ty
 else if x.op=11\/x.op=12 then BG T 2 x.ty
 else if x.op=13 then isL T 2 l
 else if x.op=14\/x.op=15\/x.op=16\/x.op=17 then zOb T x l
 else if x.op=18 then zJc T (sigF F x.n) l x.ty
 else if x.op=19 then zJc T (l.getD 0 0) (l.drop 1) x.ty
 else if x.op=22 then zHl T x.ty&&l.all (fun t=>decide (t=x.ty))
 else if x.op=21 then isL T 1 l
 else isL T 1 l&&BG T 1 x.ty
def zBX(x:Wo):Int:=if(zt x.op).2.2.2.2.2 then x.ty else -1
def YF(L:List Wl):List Int:=L.flatMap fun b=>b.ins.map zBX
def zF0(par:List Int)(L:List Wl):List Int:=par++YF L
def ZS(L:List Wl):Nat->List (Int×Int)
 |0=>[]
 |n+1=>ZS L n++(List.range (L.getD n default).ins.length).map fun(i:Nat)=>((n:Int),(i:Int))
def zGi(par:Nat)(L:List Wl):List (Int×Int):=List.replicate par (-1,-1)++ZS L L.length
theorem zAr{L:List Wl}{n:Nat}(h:n<L.length):YF (L.take (n+1))=YF (L.take n)++(L.getD n default).ins.map zBX:=by
 unfold YF;rw[GE,QB h,List.flatMap_append,show L.getD n default=L[n] by rw[QL,QB h];rfl];simp
theorem zGM{T:List WJ}(h:Za T=0){t:Int}(h0:0<=t)(h1:t<(T.length:Int)):zBQ T t.toNat:=by
 rw[zIm]at h;split at h
 ·cases h
 ·split at h
  ·rename_i hl;exact(hl t.toNat (by omega)).1
  ·cases h
theorem zIj{T:List WJ}(h:Za T=0){t:Int}(ht:BU T t):BU T (Bk T t):=by
 unfold Bk;split
 ·rename_i hk;unfold BG at hk;simp only[QJ,QY]at hk;rcases ht with rfl|⟨h0,h1⟩
  ·exact absurd rfl hk.1
  ·have:=zGM h h0 h1;rcases this with⟨k,_⟩|⟨_,e0,e1,_⟩|⟨k,_⟩|⟨k,_⟩|⟨k,_⟩
   ·omega
   ·exact .inr ⟨e0,e1⟩
   ·omega
   ·omega
   ·omega
 ·exact .inl rfl
theorem zK0{T:List WJ}(h:Za T=0){s n:Int}(hs:BU T s)(hn:0<=n):BU T (zAH T s n):=by
 unfold zAH;split
 ·exact .inl rfl
 rename_i hs1;have⟨h0,h1⟩:=hs.resolve_left hs1;have hm:=zGM h h0 h1;split
 ·rename_i hk;unfold BG at hk;simp only[QJ,QY]at hk;rcases hm with⟨k,_⟩|⟨k,_⟩|⟨k,_⟩|⟨_,_,_,_,_,hp⟩|⟨k,_⟩
  ·omega
  ·omega
  ·omega
  ·have hlt:n.toNat<(T.getD s.toNat default).parts.length:=by omega
   have:=hp _ (yZ hlt);exact .inr ⟨this.1,by omega⟩
  ·omega
 ·split
  ·rename_i hk;unfold BG at hk;simp only[QJ,QY]at hk;rcases hm with⟨k,_⟩|⟨k,_⟩|⟨k,_⟩|⟨k,_⟩|⟨_,e0,e1,_⟩
   ·omega
   ·omega
   ·omega
   ·omega
   ·exact .inr ⟨e0,by omega⟩
  ·exact .inl rfl
theorem zNa{T:List WJ}{k t:Int}(h:BG T k t=true):t≠ -1:=by
 unfold BG at h;simp only[QJ,QY]at h;exact h.1
end Go.Proofs.YtmilpkdhbdgjfaaGreatDoor
set_option maxRecDepth 100000
namespace Go.Proofs.YtmilpkdhbdgjfaaGreatDoor
open Go.Am
def RPl(_:WF)(cs:List Value)(x:Int×Int):Prop:=cs=[I x.1,I x.2]
structure BK(h:WF)(g:Nat)(vt vf:Value)(T:List WJ)(F:List Wj)(f:Int)(ks:List Int)(ps:List (Int×Int))(rs:List Int):Prop where
 own:∃ hB vk vp vr,WH hB h (.pointer (some ⟨g,0,none⟩)) [vt,vf,I f,vk,vp,vr]/\Wd h vk ks/\Ww 2 RPl h vp ps/\Wd h vr rs
 st:Bc h vt T
 sf:W7 h vf F
 hm:h.mark<=h.n
theorem BK.ext{h h':WF}{g:Nat}{vt vf:Value}{T:List WJ}{F:List Wj}{f:Int}{ks:List Int}{ps:List (Int×Int)}{rs:List Int}(M:BK h g vt vf T F f ks ps rs)(e:WK h h'):BK h' g vt vf T F f ks ps rs:=by
 obtain⟨⟨hB,vk,vp,vr,o,a,b,c⟩,st,sf,hm⟩:=M;exact⟨⟨hB,vk,vp,vr,o.ext e,a.ext e,Ww.ext (h:=h) (h':=h') (fun cs a (r:RPl h cs a)=>(r:RPl h' cs a)) b e,c.ext e⟩,st.ext e,W7.ext sf e,yN e hm⟩
theorem zLl{A B:List Int}(hl:A.length=B.length)(h:∀ i,i<A.length->A.getD i 0=B.getD i 0):A=B:=by
 refine List.ext_getElem hl fun i h1 h2=> ?_;have:=h i h1;rwa [QL,QL,QB h1,QB h2]at this
theorem zFM(h:WF)(va vb:Value)(A B:List Int)(ka:Wd h va A)(kb:Wd h vb B)(la:(A.length:Int)<=9223372036854775807):WC Tryz.prog tb 184 [va,vb] h fun r h'=>r=.bool (decide (A=B))/\h=h':=by
 refine en ?_;by_cases hl:A.length=B.length;case neg=>
  refine gr ?_;exact⟨by rw[QW (fun e=>hl (by rw[e]))];rfl,rfl⟩
 refine go ?_;refine VE (fun i=>A.length-i) (fun i t h1=>h=h1/\zC t 13=I i/\i<=A.length/\Wu (∀ j,j<i->A.getD j 0=B.getD j 0)) 0 ?_ ?_
 ·exact⟨rfl,WM,QU _,⟨fun j hj=>absurd hj (Qw _)⟩⟩
 rintro i t _ hsame ⟨rfl,s13,hi,hI⟩;refine go ?_;refine VD (fun hb=> ?_) (fun hb=> ?_)<;>simp only[DB]at hb
 ·have hia:i<A.length:=by omega
  have hib:i<B.length:=by omega
  refine go ?_;refine VD (fun hb=> ?_) (fun hb=> ?_)<;>simp only[DB]at hb<;>refine go ?_
  ·refine rt ?_;refine⟨?_,rfl⟩;rw[QW (fun e=>by subst e;exact hb rfl)];rfl
  ·refine zA (i+1) (by omega) ⟨rfl,BF,by omega,⟨fun j hj=> ?_⟩⟩;by_cases e:j=i
   ·subst e;exact hb
   ·exact hI.out j (by omega)
 ·refine gr ?_;exact⟨by rw[QX (zLl hl fun j hj=>hI.out j (by omega))];rfl,rfl⟩
section
variable {vt vf:Value}{T:List WJ}{F:List Wj}{f:Int}{ks:List Int}{ps:List (Int×Int)}{rs:List Int}{g:Nat}
theorem zN8(h h0 h00:WF)(p1 p2:Value)(k t:Int)(M:BK h g vt vf T F f ks ps rs)(o1:WH h0 h p1 [.pointer (some ⟨g,0,none⟩)])(o2:WH h00 h p2 [.int .u8 k])(ht:BU T t):
  WC Tryz.prog tb 140 [I t,p1,p2] h fun r h'=>r=.bool (!BG T k t)/\WK h h':=by
 obtain⟨⟨hB,vk,vp,vr,o,a,b,c⟩,st,sf,hm⟩:=M;refine en ?_;by_cases h1:t= -1
 ·refine gr ?_;refine⟨?_,WK.refl h⟩;subst h1;rfl
 ·obtain⟨t0,t1⟩:=ht.resolve_left h1;obtain⟨cs,⟨va,rfl,sa,hla⟩,pc,hs⟩:=Zy (i:=t.toNat) st (by omega);refine gr ?_;refine⟨?_,WK.refl h⟩;unfold BG;rw[QX h1];simp[one]
theorem yr(h:WF)(k:Int)(v:Value)(l:List Int)(M:BK h g vt vf T F f ks ps rs)(s:Wd h v l)(hl:l.length<=1000)(hin:∀ t∈l,BU T t):
  WC Tryz.prog tb 109 [.pointer (some ⟨g,0,none⟩),.int .u8 k,v] h fun r h'=>r=.bool (isL T k l)/\WK h h':=by
 refine en ?_;refine VG ?_;intro p1 h1 e1 o1;refine go ?_;refine VG ?_;intro p2 h2 e2 o2;have o1:=o1.ext e2;have e12:=e1.trans e2;have M2:=M.ext e12;have s2:=s.ext e12;refine go ?_;refine VA (zAM h2 v _ l (fun t=> !BG T k t) s2 (by omega) ?_) ?_
 ·intro t ht h3 e3;exact WV.func (zN8 h3 h h1 p1 p2 k t (M2.ext e3) (o1.ext e3) (o2.ext e3) (hin t ht))
 rintro _ h3 ⟨rfl,e3⟩;refine gr ?_;refine⟨?_,e12.trans e3⟩;show Value.bool _=_;rw[List.not_any_eq_all_not];simp[isL]
theorem yx(T:List WJ)(k t:Int):isL T k [t]=BG T k t:=by simp[isL]
theorem zBg(h:WF)(t:Int)(M:BK h g vt vf T F f ks ps rs)(ht:BU T t):
  WC Tryz.prog tb 182 [.pointer (some ⟨g,0,none⟩),I t] h fun r h'=>r=.bool (zHl T t)/\WK h h':=by
 have hin:∀ x∈[t],BU T x:=fun x hx=>by rw[Qe.1 hx];exact ht
 unfold zHl;refine en ?_;refine WO.bl [t] ?_;intro v1 h1 e1 o1;have M1:=M.ext e1;refine go ?_;refine VA (yr h1 1 v1 [t] M1 o1.sl (by simp) hin) ?_;rintro _ h2 ⟨rfl,e2⟩;rw[yx];cases c1:BG T 1 t with
 |true=>
  refine gr ?_;exact⟨rfl,e1.trans e2⟩
 |false=>
  have M2:=M1.ext e2;refine go ?_;refine WO.bl [t] ?_;intro v3 h3 e3 o3;have M3:=M2.ext e3;refine go ?_;refine VA (yr h3 2 v3 [t] M3 o3.sl (by simp) hin) ?_;rintro _ h4 ⟨rfl,e4⟩;rw[yx];have e04:=e1.trans (e2.trans (e3.trans e4));cases c2:BG T 2 t with
  |true=>
   refine gr ?_;exact⟨rfl,e04⟩
  |false=>
   have M4:=M3.ext e4;refine go ?_;refine WO.bl [t] ?_;intro v5 h5 e5 o5;have M5:=M4.ext e5;refine go ?_;refine VA (yr h5 3 v5 [t] M5 o5.sl (by simp) hin) ?_;rintro _ h6 ⟨rfl,e6⟩;rw[yx];refine gr ?_;exact⟨by cases BG T 3 t<;>rfl,e04.trans (e5.trans e6)⟩
theorem zAG(h:WF)(t:Int)(M:BK h g vt vf T F f ks ps rs)(ht:BU T t):
  WC Tryz.prog tb 211 [.pointer (some ⟨g,0,none⟩),I t] h fun r h'=>r=I (Bk T t)/\WK h h':=by
 have hin:∀ x∈[t],BU T x:=fun x hx=>by rw[Qe.1 hx];exact ht
 unfold Bk;refine en ?_;refine WO.bl [t] ?_;intro v1 h1 e1 o1;have M1:=M.ext e1;refine go ?_;refine VA (yr h1 2 v1 [t] M1 o1.sl (by simp) hin) ?_;rintro _ h2 ⟨rfl,e2⟩;rw[yx];cases c1:BG T 2 t with
 |false=>
  refine gr ?_;exact⟨rfl,e1.trans e2⟩
 |true=>
  obtain⟨⟨hB,vk,vp,vr,o,a,b,c⟩,st,sf,hm⟩:=M1.ext e2;obtain⟨t0,t1⟩:=ht.resolve_left (zNa c1);obtain⟨cs,⟨va,rfl,sa,hla⟩,pc,hs⟩:=Zy (i:=t.toNat) st (by omega);refine gr ?_;exact⟨rfl,e1.trans e2⟩
theorem zMO(h:WF)(v:Value)(l:List Int)(M:BK h g vt vf T F f ks ps rs)(s:Wd h v l)(hl:l.length<=1000)(hin:∀ r∈l,0<=r/\r<(ks.length:Int)):
  WC Tryz.prog tb 143 [.pointer (some ⟨g,0,none⟩),v] h fun r h'=>Wb h h' r (l.map fun r=>ks.getD r.toNat 0)/\WK h h':=by
 refine en ?_;refine VE (fun i=>l.length-i) (fun i t h1=>WK h h1/\zC t 9=I i/\i<=l.length/\∃ w,zC t 4=w/\Wb h h1 w ((l.take i).map fun r=>ks.getD r.toNat 0)) 0 ?_ ?_
 ·exact⟨WK.refl _,WM,QU _,_,WM,.inl ⟨rfl,rfl⟩⟩
 rintro i t h1 hsame ⟨e1,s9,hi,w,s4,ow⟩;obtain⟨⟨hB,vk,vp,vr,o,a,b,c⟩,st,sf,hm⟩:=M.ext e1;have s1:=s.ext e1;refine go ?_;refine VD (fun hb=> ?_) (fun hb=> ?_)<;>simp only[DB]at hb
 ·have hi':i<l.length:=by omega
  have hr:=hin _ (yZ hi');have hsucc:(l.take (i+1)).map (fun r=>ks.getD r.toNat 0)=(l.take i).map (fun r=>ks.getD r.toNat 0)++[ks.getD (l.getD i 0).toNat 0]:=by
   rw[GE,QB hi',GU,show l.getD i 0=l[i] by rw[QL,QB hi'];rfl];rfl
  refine go ?_;refine WO.bl [ks.getD (l.getD i 0).toNat 0] ?_;intro v2 h2 e2 o2;refine go ?_;refine Vb (ow.ext e2) (Wn.sl o2) (e1.trans e2) (by simp only[GR,Ql,QZ];omega) ?_;intro v3 h3 e3 o3;refine go ?_;exact zA (i+1) (by omega) ⟨e3,BF,by omega,_,WM,by rw[hsucc];exact o3⟩
 ·have hii:i=l.length:=by omega
  subst hii;rw[Gc]at ow;refine gr ?_;exact⟨ow,e1⟩
theorem zFF(h:WF)(sig t:Int)(v:Value)(l:List Int)(M:BK h g vt vf T F f ks ps rs)(hsg:BU T sig)(s:Wd h v l)(hl:l.length<=1000):
  WC Tryz.prog tb 181 [.pointer (some ⟨g,0,none⟩),I sig,v,I t] h fun r h'=>r=.bool (zJc T sig l t)/\WK h h':=by
 have hin:∀ x∈[sig],BU T x:=fun x hx=>by rw[Qe.1 hx];exact hsg
 unfold zJc;refine en ?_;refine WO.bl [sig] ?_;intro v1 h1 e1 o1;have M1:=M.ext e1;refine go ?_;refine VA (yr h1 3 v1 [sig] M1 o1.sl (by simp) hin) ?_;rintro _ h2 ⟨rfl,e2⟩;rw[yx];cases c1:BG T 3 sig with
 |false=>
  refine gr ?_;exact⟨rfl,e1.trans e2⟩
 |true=>
  obtain⟨⟨hB,vk,vp,vr,o,a,b,c⟩,st,sf,hm⟩:=M1.ext e2;obtain⟨t0,t1⟩:=hsg.resolve_left (zNa c1);have s2:=s.ext (e1.trans e2);obtain⟨cs,⟨va,rfl,sa,hla⟩,pc,hs⟩:=Zy (i:=sig.toNat) st (by omega);refine go ?_;refine VA (zFM h2 va v _ l sa s2 (by omega)) ?_;rintro _ _ ⟨rfl,rfl⟩;cases c2:decide ((T.getD sig.toNat default).parts=l)with
  |false=>
   refine gr ?_;exact⟨rfl,e1.trans e2⟩
  |true=>
   refine gr ?_;exact⟨rfl,e1.trans e2⟩
theorem zHh(h:WF)(a t n:Int)(M:BK h g vt vf T F f ks ps rs)(hc:Za T=0)(ha:BU T a)(ht:BU T t)(hn:0<=n):
  WC Tryz.prog tb 212 [.pointer (some ⟨g,0,none⟩),I a,I t,I n] h fun r h'=>r=.bool (zKK T a t n)/\WK h h':=by
 unfold zKK;refine en ?_;refine VA (zAG h a M ha) ?_;rintro _ h1 ⟨rfl,e1⟩;have hs:=zIj hc ha;have hpn:=zK0 hc hs hn;generalize Bk T a=s at *;have M1:=M.ext e1;have htt:=zIj hc ht;by_cases hs1:s= -1
 ·have hp:zAH T s n= -1:=by unfold zAH;rw[QG hs1]
  rw[hp];refine gr ?_;exact⟨rfl,e1⟩
 have hin:∀ x∈[s],BU T x:=fun x hx=>by rw[Qe.1 hx];exact hs
 obtain⟨s0,sL⟩:=hs.resolve_left hs1;refine go ?_;refine WO.bl [s] ?_;intro v2 h2 e2 o2;have M2:=M1.ext e2;refine go ?_;refine VA (yr h2 4 v2 [s] M2 o2.sl (by simp) hin) ?_;rintro _ h3 ⟨rfl,e3⟩;rw[yx];have M3:=M2.ext e3;have e03:=e1.trans (e2.trans e3);obtain⟨⟨hB,vk,vp,vr,o,ka,kb,kc⟩,st,sf,hm⟩:=id M3;obtain⟨cs,⟨va,rfl,sa,hla⟩,pc,hsl⟩:=Zy (i:=s.toNat) st (by omega);have other:BG T 4 s=false\/¬n<((T.getD s.toNat default).parts.length:Int)->zAH T s n=if BG T 5 s then(T.getD s.toNat default).elem else -1:=fun h=>by
  unfold zAH;rw[QC hs1,QC];rcases h with h|h
  ·rw[h];simp
  ·rw[QW h];simp
 cases c4:BG T 4 s with
 |true=>
  by_cases hlt:n<((T.getD s.toNat default).parts.length:Int)
  ·have hp:zAH T s n=(T.getD s.toNat default).parts.getD n.toNat 0:=by unfold zAH;rw[QC hs1,c4,QX hlt];rfl
   rw[hp]at hpn |-;have hlt2:n.toNat<(T.getD s.toNat default).parts.length:=by omega
   obtain⟨pp,hpp⟩:∃ pp,(T.getD s.toNat default).parts.getD n.toNat 0=pp:=⟨_,rfl⟩;rw[hpp]at hpn |-;by_cases hp1:pp= -1
   ·rw[hp1];refine gr ?_;exact⟨rfl,e03⟩
   have hd:decide (pp≠ -1)=true:=QX hp1;rw[hd];refine go ?_;refine VA (zAG h3 t M3 ht) ?_;rintro _ h9 ⟨rfl,e9⟩;refine gr ?_;exact⟨by rw[Qb,<-hpp];rfl,e03.trans e9⟩
  ·have hp:=other (.inr hlt);refine go ?_;refine WO.bl [s] ?_;intro v4 h4 e4 o4;have M4:=M3.ext e4;refine go ?_;refine VA (yr h4 5 v4 [s] M4 o4.sl (by simp) hin) ?_;rintro _ h5 ⟨rfl,e5⟩;rw[yx];have M5:=M4.ext e5;have e05:=e03.trans (e4.trans e5);rw[hp]at hpn |-;cases c5:BG T 5 s with
   |false=>
    refine gr ?_;exact⟨rfl,e05⟩
   |true=>
    rw[c5,QG rfl]at hpn;obtain⟨⟨hB',vk',vp',vr',o',ka',kb',kc'⟩,st',sf',hm'⟩:=id M5;obtain⟨cs',⟨va',rfl,sa',hla'⟩,pc',hsl'⟩:=Zy (i:=s.toNat) st' (by omega);obtain⟨pp,hpp⟩:∃ pp,(T.getD s.toNat default).elem=pp:=⟨_,rfl⟩;rw[QG rfl];rw[hpp]at hpn |- pc';by_cases hp1:pp= -1
    ·rw[hp1];refine gr ?_;exact⟨rfl,e05⟩
    have hd:decide (pp≠ -1)=true:=QX hp1;rw[hd];refine go ?_;refine VA (zAG h5 t M5 ht) ?_;rintro _ h9 ⟨rfl,e9⟩;refine gr ?_;exact⟨by rw[Qb,show decide (Bk T t=pp)=(Bk T t == pp)from rfl];rfl,(e05).trans e9⟩
 |false=>
  have hp:=other (.inl c4);refine go ?_;refine WO.bl [s] ?_;intro v4 h4 e4 o4;have M4:=M3.ext e4;refine go ?_;refine VA (yr h4 5 v4 [s] M4 o4.sl (by simp) hin) ?_;rintro _ h5 ⟨rfl,e5⟩;rw[yx];have M5:=M4.ext e5;have e05:=e03.trans (e4.trans e5);rw[hp]at hpn |-;cases c5:BG T 5 s with
  |false=>
   refine gr ?_;exact⟨rfl,e05⟩
  |true=>
   rw[c5,QG rfl]at hpn;obtain⟨⟨hB',vk',vp',vr',o',ka',kb',kc'⟩,st',sf',hm'⟩:=id M5;obtain⟨cs',⟨va',rfl,sa',hla'⟩,pc',hsl'⟩:=Zy (i:=s.toNat) st' (by omega);obtain⟨pp,hpp⟩:∃ pp,(T.getD s.toNat default).elem=pp:=⟨_,rfl⟩;rw[QG rfl];rw[hpp]at hpn |- pc';by_cases hp1:pp= -1
   ·rw[hp1];refine gr ?_;exact⟨rfl,e05⟩
   have hd:decide (pp≠ -1)=true:=QX hp1;rw[hd];refine go ?_;refine VA (zAG h5 t M5 ht) ?_;rintro _ h9 ⟨rfl,e9⟩;refine gr ?_;exact⟨by rw[Qb,show decide (Bk T t=pp)=(Bk T t == pp)from rfl];rfl,(e05).trans e9⟩
end
end Go.Proofs.YtmilpkdhbdgjfaaGreatDoor
set_option maxRecDepth 100000
namespace Go.Proofs.YtmilpkdhbdgjfaaGreatDoor
open Go.Am
theorem zIf{k g:Nat}{hS X X':WF}{ob:Wm}(eX:WK (inC (zB k hS)) X)(hn:X'.n=X.n)(hg:∀ j,X'.get j=if j=g then some ob else X.get j)(h1:hS.n<=g)(h2:g<X.n):WK hS {X' with mark:=hS.mark,wr:=hS.wr}:=by
 have n1:=eX.n;have n1:hS.n+k<=X.n:=n1;refine⟨by show hS.n<=X'.n;omega,fun j hj=> ?_,fun w j hj=> ?_,rfl,fun _=>rfl⟩
 ·show X'.get j=_;rw[hg,QC (by omega)];exact eX.get j (QK hj (G8 _ _))
 ·have hj:X'.n<=j:=hj;show X'.get j=_;rw[hg,QC (by omega)];exact eX.wf (fun i hi=>w i (Nat.le_of_add_right_le hi)) j (by omega)
theorem zDX{g:Nat}{hS X X':WF}{ob:Wm}(e:WK hS (zq hS X))(hn:X'.n=X.n)(hg:∀ j,X'.get j=if j=g then some ob else X.get j)(h1:hS.n<=g)(h2:g<X.n):WK hS (zq hS X'):=by
 have n1:hS.n<=X.n:=e.n;refine⟨by show hS.n<=X'.n;omega,fun j hj=> ?_,fun w j hj=> ?_,rfl,fun _=>rfl⟩
 ·show X'.get j=_;rw[hg,QC (by omega)];exact e.get j hj
 ·have hj:X'.n<=j:=hj;show X'.get j=_;rw[hg,QC (by omega)];exact e.wf w j (by show X.n<=j;omega)
theorem zBh{P:Program}{tab:Wv}{m N0 g:Nat}{o:WG}{l:List (WG×List Nat)}{x:WG×List Nat}{fr:WR}{h h':WF}{Q:WR->WF->Prop}{t:WI Value}(e:WK (inC h) h')(hx:We P tab m N0 (x::l) g false fr (inC h') Q):uK2 P tab m N0 [] t o (inC h) (x::l) g false Q fr h':=by
 have hw:=e.wrnil;exact⟨⟨fun g hg=>(by rw[hw]at hg;cases hg),e.n,.inl rfl⟩,hx⟩
theorem Vt{h0 h X:WF}{p:Value}{cs:List Value}(o:WH h0 (zq h X) p cs):WH h0 (inC X) p cs:=o
theorem VW{h0 X:WF}{p:Value}{cs:List Value}(o:WH h0 X p cs):WH h0 (inC X) p cs:=o
theorem Vr{h X:WF}{p:Value}{cs:List Int}(o:Wd (zq h X) p cs):Wd (inC X) p cs:=o
theorem Vc{X:WF}{p:Value}{cs:List Int}(o:Wd X p cs):Wd (inC X) p cs:=o
theorem yP{h X Y:WF}(e:WK (inC X) Y):WK (zq h X) (zq h Y):=by
 have h1:(zq h X).n=X.n:=rfl;refine⟨e.n,e.get,fun w=>e.wf w,rfl,fun _=>rfl⟩
section
variable {vt vf:Value}{T:List WJ}{F:List Wj}{f:Int}{ks:List Int}{ps:List (Int×Int)}{rs:List Int}{g:Nat}
theorem VQ{h:WF}{m:Nat}{w:List Nat}(M:BK {h with mark:=m,wr:=w} g vt vf T F f ks ps rs):BK (inC h) g vt vf T F f ks ps rs:=⟨M.own,M.st,M.sf,QE _⟩
theorem BK.inC{h:WF}(M:BK h g vt vf T F f ks ps rs):BK (inC h) g vt vf T F f ks ps rs:=⟨M.own,M.st,M.sf,QE _⟩
theorem BK.aside{h:WF}(k:Nat)(M:BK h g vt vf T F f ks ps rs):BK (Am.inC (zB k h)) g vt vf T F f ks ps rs:=(M.ext (zQ k h)).inC
theorem BK.made{k g':Nat}{hS X X':WF}{ob:Wm}(M:BK hS g vt vf T F f ks ps rs)(eX:WK (Am.inC (zB k hS)) X)(hn:X'.n=X.n)(hg:∀ j,X'.get j=if j=g' then some ob else X.get j)(h1:hS.n<=g')(h2:g'<X.n):BK (Am.inC X') g vt vf T F f ks ps rs:=VQ (M.ext (zIf eX hn hg h1 h2))
theorem zCC{X':WF}{g':Nat}{xs:List Int}(h:X'.get g'=some (.row (xs.map I) true 0))(h2:g'<X'.n):Wd (Am.inC X') (.slice (some ⟨g',0,none⟩) xs.length 1) xs:=Wd.own h2 h
theorem zIM{l:List Int}(h:∀ t∈l,BU T t){i:Nat}(hi:i<l.length):BU T (l.getD i 0):=h _ (yZ hi)
theorem zJQ(h:WF)(x:Wo)(cs:List Value)(v:Value)(l:List Int)(M:BK h g vt vf T F f ks ps rs)(hc:Za T=0)(hR:BT h cs x)(s:Wd h v l)(hl:l.length<=1000)(hin:∀ t∈l,BU T t)(hty:BU T x.ty)(hop:x.op=14\/x.op=15\/x.op=16\/x.op=17)(hn:x.op=14->0<=x.n)(h1:1<=l.length)(h2:x.op=15\/x.op=17->2<=l.length):
  WC Tryz.prog tb 180 [.pointer (some ⟨g,0,none⟩),.agg cs.toArray,v] h fun r h'=>r=.bool (zOb T x l)/\WK h h':=by
 obtain⟨xa,xf,rfl,sxa,sxf,hla,hlf,ho⟩:=hR;obtain⟨a1,a2,a3,rfl⟩:=Wt.shape sxa;obtain⟨f1,f2,f3,rfl⟩:=Wt.shape sxf;obtain⟨b1,b2,b3,rfl⟩:=Wt.shape s;have ht0:=zIM hin (show 0<l.length by omega);have hs0:=zIj hc ht0;have hin0:∀ y∈[Bk T (l.getD 0 0)],BU T y:=fun y hy=>by rw[Qe.1 hy];exact hs0
 refine en ?_;refine VG ?_;intro p h3 e3 o3;have M3:=M.ext e3;have s3:=s.ext e3;unfold zOb;by_cases c14:x.op=14
 ·rw[QG c14];refine go ?_;refine VC 1 rfl rfl ?_;have ea:=zQ 1 h3;have sX:=Vc (s3.ext ea);refine Wc ?_;refine VA (zAG _ _ (M3.aside 1) ht0) ?_;rintro _ X4 ⟨rfl,e4⟩;refine nE e4 ?_;have hlt:h3.n<X4.n:=e4.n;refine Wc ?_;refine Vk [Bk T (l.getD 0 0)] M3.hm ?_;intro X5 n5 g5;have e5:WK h3 (zq h3 X5):=zIf e4 n5 g5 (QE _) hlt;have sv5:=zCC (xs:=[Bk T (l.getD 0 0)]) (by rw[g5,QG rfl]) (by omega:h3.n<X5.n);refine Wc ?_;refine VA (yr _ 4 _ [Bk T (l.getD 0 0)] (M3.made e4 n5 g5 (QE _) hlt) sv5 (by simp) hin0) ?_;rintro _ X6 ⟨rfl,e6⟩;rw[yx];have e6':=e5.trans (yP (h:=h3) e6);refine WO.nil ?_;refine zBh e6 ?_;cases c4:BG T 4 (Bk T (l.getD 0 0))with
  |false=>
   refine gUr ?_;exact⟨rfl,e3.trans e6'⟩
  |true=>
   have s6:=Vr (s3.ext e6');have o6:=Vt (o3.ext e6');refine Wc ?_;refine VA (zHh _ _ _ _ (VQ (M3.ext e6')) hc ht0 hty (hn c14)) ?_;rintro _ X7 ⟨rfl,e7⟩;refine WO.nil ?_;refine zBh e7 ?_;have e7':=e6'.trans (yP (h:=h3) e7);refine gUr ?_;exact⟨rfl,e3.trans e7'⟩
 rw[QC c14];refine go ?_;by_cases c15:x.op=15
 ·have h2:=h2 (.inl c15);have ht1:=zIM hin (show 1<l.length by omega);have hin1:∀ y∈[l.getD 1 0],BU T y:=fun y hy=>by rw[Qe.1 hy];exact ht1
  rw[QG c15];refine go ?_;refine VC 2 rfl rfl ?_;have ea:=zQ 2 h3;have sX:=Vc (s3.ext ea);refine Wc ?_;refine VA (zAG _ _ (M3.aside 2) ht0) ?_;rintro _ X4 ⟨rfl,e4⟩;refine nE e4 ?_;have hlt:h3.n+1<X4.n:=e4.n;refine Wc ?_;refine Vk [Bk T (l.getD 0 0)] M3.hm ?_;intro X5 n5 g5;have e5:WK h3 (zq h3 X5):=zIf e4 n5 g5 (QE _) (by omega);have sv5:=zCC (xs:=[Bk T (l.getD 0 0)]) (by rw[g5,QG rfl]) (by omega:h3.n<X5.n);refine Wc ?_;refine VA (yr _ 5 _ [Bk T (l.getD 0 0)] (M3.made e4 n5 g5 (QE _) (by omega)) sv5 (by simp) hin0) ?_;rintro _ X6 ⟨rfl,e6⟩;rw[yx];have e6':=e5.trans (yP (h:=h3) e6);refine WO.nil ?_;refine zBh e6 ?_;cases c5:BG T 5 (Bk T (l.getD 0 0))with
  |false=>
   refine Wc ?_;refine We.no ?_;refine gUr ?_;exact⟨rfl,e3.trans e6'⟩
  |true=>
   have s6:=Vr (s3.ext e6');have n6:X5.n<=X6.n:=e6.n;refine Wc ?_;refine Vk [l.getD 1 0] (by have:=M3.hm;omega) ?_;intro X7 n7 g7;have e7':=zDX e6' n7 g7 (by omega) (by omega);have sv7:=zCC (xs:=[l.getD 1 0]) (by rw[g7,QG rfl]) (by omega:h3.n+1<X7.n);refine Wc ?_;refine VA (yr _ 1 _ [l.getD 1 0] (VQ (M3.ext e7')) sv7 (by simp) hin1) ?_;rintro _ X8 ⟨rfl,e8⟩;rw[yx];have e8':=e7'.trans (yP (h:=h3) e8);refine WO.nil ?_;refine zBh e8 ?_;cases c1:BG T 1 (l.getD 1 0)with
   |false=>
    refine gUr ?_;exact⟨rfl,e3.trans e8'⟩
   |true=>
    have s8:=Vr (s3.ext e8');have o8:=Vt (o3.ext e8');refine Wc ?_;rw[show Value.int .i64 0=I 0 from rfl];refine VA (zHh _ _ _ _ (VQ (M3.ext e8')) hc ht0 hty (Qh 0)) ?_;rintro _ X9 ⟨rfl,e9⟩;have e9':=e8'.trans (yP (h:=h3) e9);refine WO.nil ?_;refine zBh e9 ?_;refine gUr ?_;exact⟨rfl,e3.trans e9'⟩
 rw[QC c15];refine go ?_;by_cases c16:x.op=16
 ·rw[QG c16];refine go ?_;refine VC 0 rfl rfl ?_;have ea:=zQ 0 h3;have sX:=Vc (s3.ext ea);refine Wc ?_;refine VA (zAG _ _ (M3.aside 0) ht0) ?_;rintro _ X4 ⟨rfl,e4⟩;refine nE e4 ?_;refine Wc ?_;have e4':=ea.trans (yP (h:=h3) e4);refine VA (zBg _ _ (VQ (M3.ext e4')) hs0) ?_;rintro _ X5 ⟨rfl,e5⟩;refine nE e5 ?_;have e5':=e4'.trans (yP e5);cases c6:zHl T (Bk T (l.getD 0 0))with
  |false=>
   refine Wc ?_;refine zIB (fun g hg=>by cases hg) ?_;refine gUr ?_;exact⟨rfl,e3.trans e5'⟩
  |true=>
   have s5:=Vr (s3.ext e5');have o5:=Vt (o3.ext e5');refine Wc ?_;refine VA (zAG _ _ (VQ (M3.ext e5')) ht0) ?_;rintro _ X6 ⟨rfl,e6⟩;refine nE e6 ?_;have e6':=e5'.trans (yP e6);refine gUr ?_;exact⟨rfl,e3.trans e6'⟩
 ·rw[QC c16];have h2:=h2 (.inr (by omega));refine go ?_;refine VC 0 rfl rfl ?_;have ea:=zQ 0 h3;have sX:=Vc (s3.ext ea);refine Wc ?_;refine VA (zAG _ _ (M3.aside 0) ht0) ?_;rintro _ X4 ⟨rfl,e4⟩;refine nE e4 ?_;refine Wc ?_;have e4':=ea.trans (yP (h:=h3) e4);refine VA (zBg _ _ (VQ (M3.ext e4')) hs0) ?_;rintro _ X5 ⟨rfl,e5⟩;refine nE e5 ?_;have e5':=e4'.trans (yP e5);cases c6:zHl T (Bk T (l.getD 0 0))with
  |false=>
   refine Wc ?_;refine zIB (fun g hg=>by cases hg) ?_;refine gUr ?_;exact⟨rfl,e3.trans e5'⟩
  |true=>
   have s5:=Vr (s3.ext e5');refine Wc ?_;refine VA (zAG _ _ (VQ (M3.ext e5')) ht0) ?_;rintro _ X6 ⟨rfl,e6⟩;refine nE e6 ?_;have e6':=e5'.trans (yP e6);refine gUr ?_;exact⟨rfl,e3.trans e6'⟩
end
end Go.Proofs.YtmilpkdhbdgjfaaGreatDoor
set_option maxRecDepth 100000
namespace Go.Proofs.YtmilpkdhbdgjfaaGreatDoor
open Go.Am
theorem zIg(h h0:WF)(p u:Value)(c:List Value)(t ty:Int)(o:WH h0 h p (u::I ty::c)):WC Tryz.prog tb 183 [I t,p] h fun r h'=>r=.bool (!decide (t=ty))/\h=h':=by
 refine en ?_;refine rt ?_;exact⟨by simp[one],rfl⟩
theorem zNg{i:Nat}{h:WF}{v:Value}{l:List Int}(s:Wd h v l)(hl:0<l.length)(hi:i<=l.length):∃ r,yU 1 v (some i) none none=some r/\Wd h r (l.drop i):=by
 obtain⟨h1,⟨h2,_⟩|⟨g,off,row,rfl,h3,h4,h5⟩⟩:=s
 ·omega
 have hlen:(l.drop i).length=l.length-i:=Gk ..;refine⟨.slice (some ⟨g,off+i,none⟩) (l.length-i) 1,?_,by simp,.inr ⟨g,off+i,row,by rw[hlen],h3,?_,h5⟩⟩
 ·have b1:Nat.ble i l.length=true:=QF hi;have b2:Nat.ble l.length l.length=true:=QF (QE _);simp only[yU,Ge,Q1,b1,b2,Qf,Qn,cond_true,GP,Nat.mul_one]
 ·obtain⟨c1,c2⟩:=zEP h4;rw[yt (by rw[hlen];omega),List.map_drop,c2,List.drop_take,Gb,hlen];congr 2;omega
section
variable {vt vf:Value}{T:List WJ}{F:List Wj}{f:Int}{ks:List Int}{ps:List (Int×Int)}{rs:List Int}{g:Nat}
theorem zKm(h:WF)(x:Wo)(cs:List Value)(v:Value)(l:List Int)(M:BK h g vt vf T F f ks ps rs)(hc:Za T=0)(hR:BT h cs x)(s:Wd h v l)(hl:l.length<=1000)(hin:∀ t∈l,BU T t)(hty:BU T x.ty)
  (hF:∀ f∈F,BU T f.sig) (hn:x.op=14->0<=x.n) (hn2:x.op=3\/x.op=18->0<=x.n/\x.n<(F.length:Int)) (h1:(x.op=14\/x.op=15\/x.op=16\/x.op=17\/x.op=19)->1<=l.length) (h2:x.op=15\/x.op=17\/x.op=10->2<=l.length):
  WC Tryz.prog tb 145 [.pointer (some ⟨g,0,none⟩),.agg cs.toArray,v] h fun r h'=>r=.bool (zGh T F x l)/\WK h h':=by
 obtain⟨xa,xf,rfl,sxa,sxf,hla,hlf,ho⟩:=id hR;obtain⟨a1,a2,a3,rfl⟩:=Wt.shape sxa;obtain⟨f1,f2,f3,rfl⟩:=Wt.shape sxf;obtain⟨b1,b2,b3,rfl⟩:=Wt.shape s;have hiny:∀ y∈[x.ty],BU T y:=fun y hy=>by rw[Qe.1 hy];exact hty
 refine en ?_;refine VG ?_;intro p h3 e3 o3;have M3:=M.ext e3;have s3:=s.ext e3;have ea:=zQ 0 h3;have sX:=Vc (s3.ext ea);have oX:=VW (o3.ext ea);unfold zGh;by_cases c2:x.op=2
 ·rw[QG c2];refine go ?_;refine WO.bl [x.ty] ?_;intro v4 h4 e4 o4;have M4:=M3.ext e4;have o34:=o3.ext e4;refine go ?_;refine VA (yr h4 2 v4 [x.ty] M4 o4.sl (by simp) hiny) ?_;rintro _ h5 ⟨rfl,e5⟩;rw[yx];have e35:=e3.trans (e4.trans e5);cases k2:BG T 2 x.ty with
  |true=>
   refine gr ?_;exact⟨rfl,e35⟩
  |false=>
   have M5:=M4.ext e5;have o35:=o34.ext e5;refine go ?_;refine WO.bl [x.ty] ?_;intro v6 h6 e6 o6;have M6:=M5.ext e6;refine go ?_;refine VA (yr h6 3 v6 [x.ty] M6 o6.sl (by simp) hiny) ?_;rintro _ h7 ⟨rfl,e7⟩;rw[yx];refine gr ?_;exact⟨rfl,e35.trans (e6.trans e7)⟩
 rw[QC c2];refine go ?_;by_cases c3:x.op=3
 ·rw[QG c3];refine go ?_;obtain⟨⟨hB,vk,vp,vr,o,a,b,c⟩,st,sf,hm⟩:=M3;obtain⟨n0,n1⟩:=hn2 (.inl c3);obtain⟨cs,⟨vb,rfl,sb,hlb⟩,pc,hsl⟩:=zg (i:=x.n.toNat) sf (by omega);have pc1:=(pc h3 (WK.refl _)).1;refine gr ?_;exact⟨rfl,e3⟩
 rw[QC c3];refine go ?_;by_cases c10:x.op=10
 ·rw[QG c10];have hl2:=h2 (.inr (.inr c10));refine go ?_;refine VC 1 rfl rfl ?_;have ea1:=zQ 1 h3;have sX1:=Vc (s3.ext ea1);refine Wc ?_;refine VA (yr _ 2 _ l (M3.aside 1) sX1 hl hin) ?_;rintro _ X4 ⟨rfl,e4⟩;refine nE e4 ?_;have hlt:h3.n<X4.n:=e4.n;have e4':=ea1.trans (yP (h:=h3) e4);have o4:=Vt (o3.ext e4');have s4:=Vr (s3.ext e4');cases k2:isL T 2 l with
  |false=>
   refine Wc ?_;refine We.no ?_;refine gUr ?_;exact⟨rfl,e3.trans e4'⟩
  |true=>
   cases k3:decide (l.getD 0 0=l.getD 1 0)with
   |false=>
    refine Wc ?_;rw[k3];refine We.no ?_;refine gUr ?_;exact⟨rfl,e3.trans e4'⟩
   |true=>
   refine Wc ?_;rw[k3];refine Vk [x.ty] M3.hm ?_;intro X5 n5 g5;have e5':=zDX e4' n5 g5 (QE _) hlt;have sv5:=zCC (xs:=[x.ty]) (by rw[g5,QG rfl]) (by omega:h3.n<X5.n);refine Wc ?_;refine VA (yr _ 1 _ [x.ty] (VQ (M3.ext e5')) sv5 (by simp) hiny) ?_;rintro _ X6 ⟨rfl,e6⟩;rw[yx];have e6':=e5'.trans (yP (h:=h3) e6);refine WO.nil ?_;refine zBh e6 ?_;refine gUr ?_;exact⟨rfl,e3.trans e6'⟩
 rw[QC c10];by_cases c11:x.op=11\/x.op=12
 ·rw[QG c11];have fin:∀ (w:Value) (h4:WF) (e4:WK h3 h4),Wn h3 h4 w [x.ty]->WC Tryz.prog tb 109 [.pointer (some ⟨g,0,none⟩),.int .u8 2,w] h4 fun r h'=>r=.bool (BG T 2 x.ty)/\WK h h':=fun w h4 e4 o4=>WC.mono (yr h4 2 w [x.ty] (M3.ext e4) o4.sl (by simp) hiny) fun r h5 ⟨hr,e5⟩=>⟨by rw[hr,yx],e3.trans (e4.trans e5)⟩;rcases c11 with c11|c12
  ·refine go ?_;refine WO.bl [x.ty] ?_;intro v4 h4 e4 o4;refine go ?_;refine VA (fin v4 h4 e4 o4) ?_;rintro _ h5 ⟨rfl,e5⟩;refine gr ?_;exact⟨rfl,e5⟩
  ·have c11:¬x.op=11:=by omega
   refine go ?_;refine WO.bl [x.ty] ?_;intro v4 h4 e4 o4;refine go ?_;refine VA (fin v4 h4 e4 o4) ?_;rintro _ h5 ⟨rfl,e5⟩;refine gr ?_;exact⟨rfl,e5⟩
 rw[QC c11];obtain⟨c11,c12⟩:¬x.op=11/\¬x.op=12:=by omega
 refine go ?_;by_cases c13:x.op=13
 ·rw[QG c13];refine go ?_;refine VA (yr h3 2 _ l M3 s3 hl hin) ?_;rintro _ h5 ⟨rfl,e5⟩;refine gr ?_;exact⟨rfl,e3.trans e5⟩
 rw[QC c13];refine go ?_;by_cases c14:x.op=14\/x.op=15\/x.op=16\/x.op=17
 ·rw[QG c14];have fin:=zJQ h3 x _ _ l M3 hc (hR.ext e3) s3 hl hin hty c14 hn (h1 (by omega)) (fun c=>h2 (by omega));have fin:=WC.mono (Q':=fun r h'=>r=.bool (zOb T x l)/\WK h h') fin fun r h' ⟨hr,e⟩=>⟨hr,e3.trans e⟩;rcases c14 with c14|c15|c16|c17
  ·refine go ?_;refine VA fin ?_;rintro _ h5 ⟨rfl,e5⟩;refine gr ?_;exact⟨rfl,e5⟩
  ·have k14:¬x.op=14:=by omega
   refine go ?_;refine VA fin ?_;rintro _ h5 ⟨rfl,e5⟩;refine gr ?_;exact⟨rfl,e5⟩
  ·have k14:¬x.op=14:=by omega
   have k15:¬x.op=15:=by omega
   refine go ?_;refine VA fin ?_;rintro _ h5 ⟨rfl,e5⟩;refine gr ?_;exact⟨rfl,e5⟩
  ·have k14:¬x.op=14:=by omega
   have k15:¬x.op=15:=by omega
   have k16:¬x.op=16:=by omega
   refine go ?_;refine VA fin ?_;rintro _ h5 ⟨rfl,e5⟩;refine gr ?_;exact⟨rfl,e5⟩
 rw[QC c14];obtain⟨c14,c15,c16,c17⟩:¬x.op=14/\¬x.op=15/\¬x.op=16/\¬x.op=17:=by omega
 refine go ?_;by_cases c18:x.op=18
 ·rw[QG c18];refine go ?_;refine VC 0 rfl rfl ?_;obtain⟨⟨hB,vk,vp,vr,o,a,b,c⟩,st,sf,hm⟩:=M3.aside 0;obtain⟨n0,n1⟩:=hn2 (.inr c18);obtain⟨cs,⟨vb,rfl,sb,hlb⟩,pc,hsl⟩:=zg (i:=x.n.toNat) sf (by omega);have pc1:=(pc _ (WK.refl _)).1;refine Wc ?_;refine VA (zFF _ (F.getD x.n.toNat default).sig x.ty _ l (M3.aside 0) ((by refine hF _ ?_;rw[QL,QB (show x.n.toNat<F.length by omega)];exact List.getElem_mem _)) sX hl) ?_;rintro _ X4 ⟨rfl,e4⟩;refine nE e4 ?_;have e4':=ea.trans (yP (h:=h3) e4);refine gUr ?_;exact⟨rfl,e3.trans e4'⟩
 rw[QC c18];refine go ?_;by_cases c19:x.op=19
 ·rw[QG c19];have hl1:=h1 (by omega);refine go ?_;refine VC 0 rfl rfl ?_;obtain⟨r,hsl,sr⟩:=zNg (i:=1) sX (by omega) hl1;refine Wc ?_;refine Vi (i:=1) (hy:=rfl) hsl ?_;refine Wc ?_;refine VA (zFF _ (l.getD 0 0) x.ty _ (l.drop 1) (M3.aside 0) (zIM hin (by omega)) sr (by simp;omega)) ?_;rintro _ X4 ⟨rfl,e4⟩;refine nE e4 ?_;have e4':=ea.trans (yP (h:=h3) e4);refine gUr ?_;exact⟨rfl,e3.trans e4'⟩
 rw[QC c19];refine go ?_;by_cases c22:x.op=22
 ·rw[QG c22];refine go ?_;refine VA (zBg h3 x.ty M3 hty) ?_;rintro _ h4 ⟨rfl,e4⟩;have e04:=e3.trans e4;cases k1:zHl T x.ty with
  |false=>
   refine gr ?_;exact⟨rfl,e04⟩
  |true=>
   have s4:=s3.ext e4;have o4:=o3.ext e4;refine go ?_;refine VA (zAM h4 _ _ l (fun t=> !decide (t=x.ty)) s4 (by omega) ?_) ?_
   ·intro t ht h5 e5;exact WV.func (WC.mono (zIg h5 _ p _ _ t x.ty (o4.ext e5)) fun r h6 ⟨hr,he⟩=>⟨hr,he▸WK.refl _⟩)
   rintro _ h5 ⟨rfl,e5⟩;refine gr ?_;refine⟨?_,e04.trans e5⟩;show Value.bool _=_;rw[List.not_any_eq_all_not];simp
 rw[QC c22];refine go ?_;by_cases c21:x.op=21
 ·rw[QG c21];refine go ?_;refine VA (yr h3 1 _ l M3 s3 hl hin) ?_;rintro _ h5 ⟨rfl,e5⟩;refine gr ?_;exact⟨rfl,e3.trans e5⟩
 rw[QC c21];refine go ?_;refine VA (yr h3 1 _ l M3 s3 hl hin) ?_;rintro _ h5 ⟨rfl,e5⟩;have e05:=e3.trans e5;cases k1:isL T 1 l with
 |false=>
  refine gr ?_;exact⟨rfl,e05⟩
 |true=>
  have M5:=M3.ext e5;have o5:=o3.ext e5;refine go ?_;refine WO.bl [x.ty] ?_;intro v6 h6 e6 o6;refine go ?_;refine VA (yr h6 1 v6 [x.ty] (M5.ext e6) o6.sl (by simp) hiny) ?_;rintro _ h7 ⟨rfl,e7⟩;rw[yx];refine gr ?_;exact⟨rfl,e05.trans (e6.trans e7)⟩
end
end Go.Proofs.YtmilpkdhbdgjfaaGreatDoor
set_option maxRecDepth 100000
namespace Go.Proofs.YtmilpkdhbdgjfaaGreatDoor
open Go.Am
theorem zPr{xs:List Int}{n:Nat}{c:Int}(h0:0<=c)(h1:c<(n:Int)):(YB xs n).getD c.toNat 0=upL xs c:=by
 unfold YB;rw[QL,GY,List.getElem?_range (by omega)];show upL xs ((c.toNat:Nat):Int)=_;rw[show((c.toNat:Nat):Int)=c by omega]
section
variable {vt vf:Value}{T:List WJ}{F:List Wj}{f:Int}{ks:List Int}{ps:List (Int×Int)}{xs:List Int}{n:Nat}{g:Nat}{nx:Int->List Int}
theorem zKd(h:WF)(a b:Int)(M:BK h g vt vf T F f ks ps (YB xs n))(r:Rul nx xs)(w:Wr nx 0 b)(hb:0<=b/\b<16)(hin:∀ c,Wr nx 0 c->0<=c/\c<(n:Int))(ha:0<=a):
  WC Tryz.prog tb 186 [.pointer (some ⟨g,0,none⟩),I a,I b] h fun q h'=>(∃ bb,q=.bool bb/\(bb=true↔BM nx a b))/\h=h':=by
 obtain⟨⟨hB,vk,vp,vr,o,ka,kb,kc⟩,st,sf,hm⟩:=M;have hin:=Wu.mk hin;refine en ?_;refine VE (fun i=>16-i) (fun i t h1=>h=h1/\∃ c,zC t 2=I c/\Wu (Chn nx a b i c false)) 0 ?_ ?_
 ·exact⟨rfl,b,WM,⟨.inr ⟨w,hb,by have:=zOO nx b;omega,by simp⟩⟩⟩
 rintro i t _ hsame ⟨rfl,c,s2,hC⟩;by_cases hca:c=a
 ·subst hca;have hd:BM nx c b:=by
   rcases hC.out with⟨h1,_⟩|⟨_,_,_,h2⟩
   ·omega
   ·exact h2.2 (.inr (BM.self nx c))
  refine gr ?_;exact⟨⟨true,by simp[one],by simp[hd]⟩,rfl⟩
 by_cases hc1:c= -1
 ·have hd:¬BM nx a b:=by
   rcases hC.out with⟨_,h2⟩|⟨_,h1,_⟩
   ·rw[h2];simp
   ·omega
  have hac:(a == c)=false:=by simp;exact fun e=>hca e.symm
  refine gr ?_;exact⟨⟨false,by simp[one];exact fun e=>hca e.symm,by simp[hd]⟩,rfl⟩
 have hc0:0<=c:=by
  rcases hC.out with⟨h1,_⟩|⟨_,h1,_⟩
  ·exact absurd h1 hc1
  ·exact h1.1
 obtain⟨wc,hc16,hi15⟩:=hC.out.way hc0;have hcn:=hin.out c wc;have hul:=zKt xs n;have hat:=zPr (xs:=xs) hcn.1 hcn.2;have hnext:Chn nx a b (i+1) (upL xs c) false:=by
  by_cases hz:c=0
  ·subst hz;have:=hC.out.last;rw[show(false||decide ((0:Int)=a))=false by simp;exact fun e=>hca e]at this;unfold upL;rw[QG rfl];exact this
  ·have:=(hC.out.next r (show 0<c by omega)).1;rw[show(false||decide (c=a))=false by simp;exact hca]at this;unfold upL;rw[QC hz];exact this
 refine go ?_;exact zA (i+1) (by omega) ⟨rfl,upL xs c,by rw[<-hat];exact WM,⟨hnext⟩⟩
def zEp(nx:Int->List Int)(p:Int×Int)(block at':Int):Prop:=if p.1=block then p.2<at' else p.1= -1\/BM nx p.1 block
theorem zNv(h h1 h2 h3:WF)(p1 p2 p3:Value)(x block at':Int)(M:BK h g vt vf T F f ks ps (YB xs n))(r:Rul nx xs)(w:Wr nx 0 block)(hb:0<=block/\block<16)(hin:∀ c,Wr nx 0 c->0<=c/\c<(n:Int))
  (o1:WH h1 h p1 [.pointer (some ⟨g,0,none⟩)]) (o2:WH h2 h p2 [I block]) (o3:WH h3 h p3 [I at']) (hx:0<=x/\x<(ps.length:Int)) (hp:(ps.getD x.toNat default).1= -1\/0<=(ps.getD x.toNat default).1):
  WC Tryz.prog tb 185 [I x,p1,p2,p3] h fun q h'=>(∃ bb,q=.bool bb/\(bb=true↔¬zEp nx (ps.getD x.toNat default) block at'))/\WK h h':=by
 obtain⟨⟨hB,vk,vp,vr,o,ka,kb,kc⟩,st,sf,hm⟩:=id M;obtain⟨cs,rfl,pc,hs⟩:=zg (i:=x.toNat) kb (by omega);have pc1:=(pc h (WK.refl _)).1;obtain⟨_,_,_,rfl⟩:=zN kb;generalize hq:ps.getD x.toNat default=q at *;obtain⟨q1,q2⟩:=q;unfold zEp;refine en ?_;refine VJ ?_;intro p4 h4 e4 o4;refine go ?_;refine VF (cs:=[I q1,I q2]) o4 e4 ?_;intro h5 e5 o5 u5;have o1:=o1.ext e5;have o2:=o2.ext e5;have o3:=o3.ext e5;have M5:=M.ext e5;by_cases c1:q1=block
 ·subst c1;refine gr ?_;refine⟨⟨_,rfl,?_⟩,e5⟩;simp
 ·have hc1:(q1 == block)=false:=by simp;exact c1
  by_cases c2:q1= -1
  ·refine gr ?_;exact⟨⟨_,rfl,by rw[QC c1];simp[c2]⟩,e5⟩
  ·refine go ?_;refine VA (zKd h5 q1 block M5 r w hb hin (by rcases hp with h|h;exact absurd h c2;exact h)) ?_;rintro _ _ ⟨⟨bb,rfl,hbb⟩,rfl⟩;refine gr ?_;refine⟨⟨!bb,rfl,?_⟩,e5⟩;rw[QC c1];cases bb
   ·simp at hbb;simp[hbb,c2]
   ·simp at hbb;simp[hbb]
theorem zGc(h:WF)(v:Value)(l:List Int)(block at':Int)(M:BK h g vt vf T F f ks ps (YB xs n))(r:Rul nx xs)(w:Wr nx 0 block)(hb:0<=block/\block<16)(hin:∀ c,Wr nx 0 c->0<=c/\c<(n:Int))
  (s:Wd h v l) (hl:l.length<=1000) (hx:∀ x∈l,0<=x/\x<(ps.length:Int)) (hp:∀ i,i<ps.length->(ps.getD i default).1= -1\/0<=(ps.getD i default).1):
  WC Tryz.prog tb 147 [.pointer (some ⟨g,0,none⟩),I block,I at',v] h fun q h'=>(∃ bb,q=.bool bb/\(bb=true↔∀ x∈l,zEp nx (ps.getD x.toNat default) block at'))/\WK h h':=by
 refine en ?_;refine VG ?_;intro p1 h1 e1 o1;refine go ?_;refine VG ?_;intro p2 h2 e2 o2;refine go ?_;refine VG ?_;intro p3 h3 e3 o3;have e03:=e1.trans (e2.trans e3);have o1:=o1.ext (e2.trans e3);have o2:=o2.ext e3;have M3:=M.ext e03;have s3:=s.ext e03;refine go ?_;refine VA (zAM h3 v _ l (fun x=>open Classical in decide (¬zEp nx (ps.getD x.toNat default) block at')) s3 (by omega) ?_) ?_
 ·intro x hxl h4 e4;refine WV.func (WC.mono (zNv h4 h h1 h2 p1 p2 p3 x block at' (M3.ext e4) r w hb hin (o1.ext e4) (o2.ext e4) (o3.ext e4) (hx x hxl) (hp _ (by have:=hx x hxl;omega))) ?_);rintro _ h5 ⟨⟨bb,rfl,hbb⟩,e5⟩;refine⟨?_,e5⟩;congr 1;cases bb<;>simp_all
 rintro _ h4 ⟨rfl,e4⟩;refine gr ?_;refine⟨⟨_,rfl,?_⟩,e03.trans e4⟩;simp
end
end Go.Proofs.YtmilpkdhbdgjfaaGreatDoor
set_option maxRecDepth 100000
namespace Go.Proofs.YtmilpkdhbdgjfaaGreatDoor
open Go.Am
structure Gr(F:List Wj)(f:Int)(nx:Int->List Int)(xs:List Int)(ps:List (Int×Int))(L:List Wl):Prop where
 hf:0<=f/\f<(F.length:Int)
 hL:(F.getD f.toNat default).blocks=L
 n:L.length<=16
 r:Rul nx xs
 way:∀ c,0<=c->c<(L.length:Int)->Wr nx 0 c
 inn:∀ c,Wr nx 0 c->0<=c/\c<(L.length:Int)
 pl:∀ i,i<ps.length->(ps.getD i default).1= -1\/0<=(ps.getD i default).1
def zQs(nx:Int->List Int)(ps:List (Int×Int))(L:List Wl)(frm args:List Int):Prop:=∀ i,i<frm.length->zEp nx (ps.getD (args.getD i 0).toNat default) (frm.getD i 0) ((L.getD (frm.getD i 0).toNat default).ins.length)
section
variable {vt vf:Value}{T:List WJ}{F:List Wj}{f:Int}{ks:List Int}{ps:List (Int×Int)}{xs:List Int}{g:Nat}{nx:Int->List Int}{L:List Wl}
theorem zPD(h:WF)(x:Wo)(cs:List Value)(v:Value)(l:List Int)(M:BK h g vt vf T F f ks ps (YB xs L.length))(G:Gr F f nx xs ps L)(hR:BT h cs x)(s:Wd h v l)
  (hfr:∀ i,i<x.frm.length->0<=x.frm.getD i 0/\x.frm.getD i 0<(L.length:Int)) (hlen:x.frm.length<=x.args.length) (hx:∀ i,i<x.args.length->0<=x.args.getD i 0/\x.args.getD i 0<(ps.length:Int)):
  WC Tryz.prog tb 146 [.pointer (some ⟨g,0,none⟩),.agg cs.toArray,v] h fun q h'=>(∃ bb,q=.bool bb/\(bb=true↔x.frm=l/\zQs nx ps L x.frm x.args))/\WK h h':=by
 have hfr:=Wu.mk hfr;have hx:=Wu.mk hx;obtain⟨xa,xf,rfl,sxa,sxf,hla,hlf,ho⟩:=id hR;obtain⟨a1,a2,a3,rfl⟩:=Wt.shape sxa;obtain⟨f1,f2,f3,rfl⟩:=Wt.shape sxf;refine en ?_;refine VG ?_;intro p h3 e3 o3;have sf3:=sxf.ext e3;have s3:=s.ext e3;refine go ?_;refine VA (zFM h3 _ _ x.frm l sf3 s3 (by omega)) ?_;rintro _ _ ⟨rfl,rfl⟩;by_cases hfl:x.frm=l;case neg=>
  rw[QW hfl];refine gr ?_;exact⟨⟨false,rfl,by simp[hfl]⟩,e3⟩
 rw[QX hfl];refine go ?_;refine VE (fun i=>x.frm.length-i) (fun i t h1=>WK h3 h1/\zC t 17=I i/\i<=x.frm.length/\Wu (∀ j,j<i->zEp nx (ps.getD (x.args.getD j 0).toNat default) (x.frm.getD j 0) ((L.getD (x.frm.getD j 0).toNat default).ins.length))) 0 ?_ ?_
 ·exact⟨WK.refl _,WM,QU _,⟨fun j hj=>absurd hj (Qw _)⟩⟩
 rintro i t h4 hsame ⟨e4,s17,hi,hI⟩;have e34:=e3.trans e4;have sf4:=sf3.ext e4;have o4:=o3.ext e4;refine go ?_;refine VD (fun hb=> ?_) (fun hb=> ?_)<;>simp only[DB]at hb
 ·have hif:i<x.frm.length:=by omega
  have hia:i<x.args.length:=by omega
  have hfr1:=hfr.out i hif;have hx1:=hx.out i hia;have hG:=G.hf;have hGL:=G.hL;have M4:=M.ext e34;refine go ?_;refine VC 1 rfl rfl ?_;have ea:=zQ 1 h4;have sa4:=Vc (sxa.ext (e34.trans ea));have o4':=VW (o4.ext ea);obtain⟨⟨hB,vk,vp,vr,o,a,b,c⟩,st,sf,hm⟩:=M4.aside 1;obtain⟨cs,⟨vb,rfl,sb,hlb⟩,pc,hsl⟩:=zg (i:=f.toNat) sf (by omega);have pc1:=(pc _ (WK.refl _)).1;rw[hGL]at sb;obtain⟨cs2,⟨vi,rfl,si,hli⟩,pc',hsl'⟩:=zg (i:=(x.frm.getD i 0).toNat) sb (by omega);have pc2:=(pc' _ (WK.refl _)).1;refine Wc ?_;refine Vk [x.args.getD i 0] M4.hm ?_;intro X5 n5 g5;have n5':X5.n=h4.n+1:=n5;have e5:WK h4 (zq h4 X5):=zDX (X:=zB 1 h4) ea n5 g5 (QE _) (G2 _);have sv5:=zCC (xs:=[x.args.getD i 0]) (by rw[g5,QG rfl]) (by omega:h4.n<X5.n);have M5:=VQ (M4.ext e5);clear o st sf hm c b a;refine Wc ?_;refine VA (zGc _ _ [x.args.getD i 0] (x.frm.getD i 0) ((L.getD (x.frm.getD i 0).toNat default).ins.length) M5 G.r (G.way _ hfr1.1 hfr1.2) (by have:=G.n;omega) G.inn sv5 (by simp) (fun y hy=>by rw[Qe.1 hy];exact hx1) G.pl) ?_;rintro _ X6 ⟨⟨bb,rfl,hbb⟩,e6⟩;simp only[Qe,forall_eq]at hbb;have e6':=e5.trans (yP (h:=h4) e6);refine WO.nil ?_;refine zBh e6 ?_;refine Wc ?_;cases bb with
  |false=>
   refine gr ?_;refine⟨⟨false,rfl,?_⟩,e34.trans e6'⟩;simp only[Qs,JF,not_and];intro _ hall;exact absurd (hbb.2 (hall i hif)) Bool.noConfusion
  |true=>
   refine go ?_;refine zA (i+1) (by omega) ⟨e4.trans e6',BF,by omega,⟨fun j hj=> ?_⟩⟩;by_cases e:j=i
   ·subst e;exact hbb.1 rfl
   ·exact hI.out j (by omega)
 ·have hii:i=x.frm.length:=by omega
  subst hii;refine gr ?_;exact⟨⟨true,rfl,by simp only[true_iff];exact⟨hfl,hI.out⟩⟩,e34⟩
end
end Go.Proofs.YtmilpkdhbdgjfaaGreatDoor
