/- Walks of functions, plain laws; proves no statement. -/
import Derived.Test.YtndffgfnndoifaaGreatDoorAmU
import Derived.Test.YtndffgfnndoifaaGreatDoorRows
set_option linter.all false
set_option maxHeartbeats 4000000
namespace Go.Proofs.YtndffgfnndoifaaGreatDoor
open Go.Am
def hasT:List (Bool×Bool×Bool×Bool×Bool×Bool):=
 let f:=false;let t:=true
 [(f,f,f,f,f,f),(f,f,t,f,f,t),(f,f,f,f,f,t),(f,f,t,f,f,t),(t,t,f,f,f,t),(t,t,f,f,f,t),(t,t,f,f,f,t),(t,t,f,f,f,t),(t,t,f,f,f,t),(t,t,f,f,f,t),(t,t,f,f,f,t),(f,f,f,f,f,t),(f,f,f,f,f,t),(t,f,f,f,f,f),(t,f,t,f,f,t),(t,t,f,f,f,t),(t,f,f,f,f,t),(t,t,f,f,f,f),(f,f,t,t,f,t),(t,f,f,t,f,t),(f,f,f,f,f,t),(t,f,f,f,f,f),(f,f,f,t,t,t)]
def zl(op:Int):Bool×Bool×Bool×Bool×Bool×Bool:=hasT.getD op.toNat (false,false,false,false,false,false)
def Yv(x:Bool×Bool×Bool×Bool×Bool×Bool):List Value:=[.bool x.1,.bool x.2.1,.bool x.2.2.1,.bool x.2.2.2.1,.bool x.2.2.2.2.1,.bool x.2.2.2.2.2]
def Yi:List Value:=(hasT.map Yv).flatten
structure WF where
 kind:Int
 elem:Int
 many:Int
 parts:List Int
instance:Inhabited WF:=⟨⟨0,0,0,[]⟩⟩
def RTy(h:WA)(cs:List Value)(x:WF):Prop:=∃ va,cs=[.int .u8 x.kind,I x.elem,I x.many,va]/\Wc h va x.parts/\(x.parts.length:Int)<=9223372036854775807
def RTy.ext{h h' cs x}(r:RTy h cs x)(e:WH h h'):RTy h' cs x:=let⟨va,a,b,c⟩:=r;⟨va,a,b.ext e,c⟩
abbrev BB(h:WA)(v:Value)(T:List WF):Prop:=W7 4 RTy h v T
def BB.ext{h h' v T}(s:BB h v T)(e:WH h h'):BB h' v T:=W7.ext (fun _ _ r=>RTy.ext r e) s e
def zUf{h:WA}{v:Value}{l:List Int}(s:Wc h v l)(k:IntKind)(a b n:Int):zK [.int k n,I a,I b,v]=true:=by
 obtain⟨_,_,_,rfl⟩:=Wm.shape s;rfl
def Ya(x:WF):Bool:=decide (1<=x.kind)&&decide (x.kind<=3)
def yl(m:Int)(l:List Int):Bool:=l.all fun n=>decide (0<=n)&&decide (n<m)
def yT(x:WF):Bool:=
 (if x.kind=1\/x.kind=4 then decide (x.elem=0)else true)&&(if x.kind=1\/x.kind=2\/x.kind=3\/x.kind=4 then decide (x.many=0)else true)&&
  (if x.kind=1\/x.kind=2\/x.kind=5 then decide (x.parts.length=0)else true)
def Zq(T:List WF)(x:WF)(k:Nat)(aC:List Int):Int×Bool:=
 if x.kind=1 then(1,yT x)
 else if x.kind=2 then(1,yT x&&yl T.length [x.elem])
 else if x.kind=3 then(1,yT x&&decide (x.parts.length<=4)&&yl T.length (x.elem::x.parts)&&(x.elem::x.parts).all fun n=>Ya (T.getD n.toNat default))
 else if x.kind=4 then(if yT x&&yl k x.parts then((x.parts.map fun n=>aC.getD n.toNat 0).sum,decide (0<x.parts.length)&&decide (x.parts.length<=8)&&decide ((x.parts.map fun n=>aC.getD n.toNat 0).sum<=32))else(0,false))
 else if x.kind=5 then(if yT x&&yl k [x.elem]&&decide (1<=x.many)&&decide (x.many<=16)then(x.many*aC.getD x.elem.toNat 0,decide (x.many*aC.getD x.elem.toNat 0<=32))else(0,false))
 else(1,false)
def zJ4{T:List WF}{x:WF}{k:Nat}{s:List Int}(h:x.kind=3):Zq T x k s=(1,yT x&&decide (x.parts.length<=4)&&yl T.length (x.elem::x.parts)&&(x.elem::x.parts).all fun n=>Ya (T.getD n.toNat default)):=by
 unfold Zq;rw[QC ω,QC ω,QJ h]
def zTB{T:List WF}{x:WF}{k:Nat}{s:List Int}(h:x.kind=4):Zq T x k s=(if yT x&&yl k x.parts then((x.parts.map fun n=>s.getD n.toNat 0).sum,decide (0<x.parts.length)&&decide (x.parts.length<=8)&&decide ((x.parts.map fun n=>s.getD n.toNat 0).sum<=32))else(0,false)):=by
 unfold Zq;rw[QC ω,QC ω,QC ω,QJ h]
def zQB{T:List WF}{x:WF}{k:Nat}{s:List Int}(h:x.kind=5):Zq T x k s=(if yT x&&yl k [x.elem]&&decide (1<=x.many)&&decide (x.many<=16)then(x.many*s.getD x.elem.toNat 0,decide (x.many*s.getD x.elem.toNat 0<=32))else(0,false)):=by
 unfold Zq;rw[QC ω,QC ω,QC ω,QC ω,QJ h]
def YN(T:List WF):Nat->Option (List Int)
 |0=>some []
 |k+1=>match YN T k with
  |none=>none
  |some s=>if(Zq T (T.getD k default) k s).2 then some (s++[(Zq T (T.getD k default) k s).1])else none
def y8(T:List WF):Int:=if 16<T.length then 4 else match YN T T.length with
 |some _=>0
 |none=>30
structure Wa where
 pos:Int
 bits:Nat
 deriving DecidableEq
instance:Inhabited Wa:=⟨⟨0,0⟩⟩
structure Bh(s:List Wa):Prop where
 dv:s.Pairwise (fun a b=>a.pos<b.pos)
 each:∀ w∈s,0<=w.pos/\w.pos<16384/\w.bits≠0/\w.bits<18446744073709551616
def SG(s:List Wa)(n:Int):Prop:=∃ w∈s,w.pos=n / 64/\w.bits.testBit (n % 64).toNat=true
def Y5(b:Nat):List Nat:=(List.range 64).filter b.testBit
def zQ(s:List Wa):List Int:=s.flatMap fun w=>(Y5 w.bits).map fun k:Nat=>64*w.pos+(k:Int)
def Bh.nil:Bh []:=⟨.nil,fun w h=>by cases h⟩
def Bh.tail{w:Wa}{s:List Wa}(h:Bh (w::s)):Bh s:=⟨(GT.1 h.dv).2,fun x hx=>h.each x (QW _ hx)⟩
def zAL{b:Nat}(h:b<18446744073709551616){k:Nat}(hk:b.testBit k=true):k<64:=by
 by_cases h2:k<64
 ·exact h2
 ·have h3:2 ^ 64<=2 ^ k:=Nat.pow_le_pow_right (by decide) (Nat.le_of_not_lt h2);have:b.testBit k=false:=Nat.testBit_lt_two_pow (QG h h3);rw[this]at hk;cases hk
def zI2{b:Nat}(h:b≠0):∃ k,b.testBit k=true:=by
 by_cases h2:∃ k,b.testBit k=true
 ·exact h2
 ·exact absurd (Nat.eq_of_testBit_eq fun i=>by
   rw[JX];cases hb:b.testBit i with
   |false=>rfl
   |true=>exact absurd ⟨i,hb⟩ h2) h
def zAQ{b k:Nat}:k∈Y5 b↔k<64/\b.testBit k=true:=by
 unfold Y5;rw[Gp,Q4]
def yw{s:List Wa}(h:Bh s){n:Int}:n∈zQ s↔SG s n:=by
 unfold zQ SG;rw[GA];constructor
 ·rintro⟨w,hw,hn⟩;obtain⟨k,hk,rfl⟩:=Qw.1 hn;obtain⟨k1,k2⟩:=zAQ.1 hk;refine⟨w,hw,ω,?_⟩;rw[show((64*w.pos+(k:Int)) % 64).toNat=k by omega];exact k2
 ·rintro⟨w,hw,e,hb⟩;refine⟨w,hw,Qw.2 ⟨(n % 64).toNat,zAQ.2 ⟨ω,hb⟩,ω⟩⟩
def zDE(b:Nat):(Y5 b).Pairwise (·<·):=List.Pairwise.filter _ List.pairwise_lt_range
def zAk{s:List Wa}(h:Bh s):(zQ s).Pairwise (·<·):=by
 unfold zQ;rw[List.pairwise_flatMap];refine⟨fun w hw=> ?_,?_⟩
 ·rw[List.pairwise_map];exact(zDE w.bits).imp fun h=>by omega
 ·refine h.dv.imp fun {a b} dJ x hx y hy=> ?_;obtain⟨k,hk,rfl⟩:=Qw.1 hx;obtain⟨j,hj,rfl⟩:=Qw.1 hy;have:=(zAQ.1 hk).1;omega
def SG.range{s:List Wa}(h:Bh s){n:Int}(k:SG s n):0<=n/\n<1048576:=by
 obtain⟨w,hw,e,_⟩:=k;have:=h.each w hw;omega
def zDc{w:Wa}{s:List Wa}{n:Int}:SG (w::s) n↔(w.pos=n / 64/\w.bits.testBit (n % 64).toNat=true)\/SG s n:=by
 unfold SG;simp
def zKj{w:Wa}{s:List Wa}(h:Bh (w::s)){n:Int}:SG s n↔SG (w::s) n/\w.pos≠n / 64:=by
 rw[zDc];constructor
 ·rintro⟨x,hx,e,hb⟩;have:=(GT.1 h.dv).1 x hx;exact⟨.inr ⟨x,hx,e,hb⟩,ω⟩
 ·rintro⟨⟨e,_⟩|k,ah⟩
  ·exact absurd e ah
  ·exact k
def SG.le{w:Wa}{s:List Wa}(h:Bh (w::s)){n:Int}(k:SG (w::s) n):w.pos<=n / 64:=by
 rcases zDc.1 k with⟨e,_⟩|⟨x,hx,e,_⟩
 ·omega
 ·have:=(GT.1 h.dv).1 x hx;omega
def zDR{w:Wa}{s:List Wa}(h:Bh (w::s)):∃ n,SG (w::s) n/\n / 64=w.pos:=by
 obtain⟨a,b,c,d⟩:=h.each w (QR ..);obtain⟨k,hk⟩:=zI2 c;have aU:=zAL d hk;refine⟨64*w.pos+k,zDc.2 (.inl ⟨ω,?_⟩),ω⟩;rw[show((64*w.pos+(k:Int)) % 64).toNat=k by omega];exact hk
def zQn{w:Wa}{s:List Wa}(h:Bh (w::s))(k:Nat)(hk:k<64):SG (w::s) (64*w.pos+k)↔w.bits.testBit k=true:=by
 rw[zDc];constructor
 ·rintro(⟨_,hb⟩|⟨x,hx,e,_⟩)
  ·rwa [show((64*w.pos+(k:Int)) % 64).toNat=k by omega]at hb
  ·have:=(GT.1 h.dv).1 x hx;omega
 ·intro hb;refine .inl ⟨ω,?_⟩;rw[show((64*w.pos+(k:Int)) % 64).toNat=k by omega];exact hb
def zIm:∀ {s t:List Wa},Bh s->Bh t->(∀ n,SG s n↔SG t n)->s=t
 |[],[],_,_,_=>rfl
 |[],u::t,_,ht,e=>by
  obtain⟨n,hn,_⟩:=zDR ht;obtain⟨_,h,_⟩:=(e n).2 hn;cases h
 |w::s,[],hs,_,e=>by
  obtain⟨n,hn,_⟩:=zDR hs;obtain⟨_,h,_⟩:=(e n).1 hn;cases h
 |w::s,u::t,hs,ht,e=>by
  have hp:w.pos=u.pos:=by
   obtain⟨n,hn,en⟩:=zDR hs;obtain⟨m,hm,em⟩:=zDR ht;have h1:=((e n).1 hn).le ht;have h2:=((e m).2 hm).le hs;omega
  have hb:w.bits=u.bits:=by
   refine Nat.eq_of_testBit_eq fun k=> ?_;by_cases hk:k<64
   ·have h1:=zQn hs k hk;have h2:=zQn ht k hk;rw[<-hp]at h2;have h3:=h1.symm.trans ((e _).trans h2);cases h4:u.bits.testBit k with
    |true=>exact h3.2 h4
    |false=>
     cases h5:w.bits.testBit k with
     |false=>rfl
     |true=>rw[h3.1 h5]at h4;cases h4
   ·have h1:=(hs.each w (QR ..)).2.2.2;have h2:=(ht.each u (QR ..)).2.2.2;cases h4:u.bits.testBit k with
    |true=>exact absurd (zAL h2 h4) hk
    |false=>
     cases h5:w.bits.testBit k with
     |false=>rfl
     |true=>exact absurd (zAL h1 h5) hk
  have hw:w=u:=by cases w;cases u;cases hp;cases hb;rfl
  have aL:s=t:=zIm hs.tail ht.tail fun n=>by rw[zKj hs,zKj ht,e n,hp]
  rw[hw,aL]
abbrev W(n:Nat):Value:= .int .u64 (n:Int)
def Yq(a:Nat):BitVec.ofInt 64 (a:Int)=BitVec.ofNat 64 a:=by
 apply BitVec.eq_of_toNat_eq;simp
def b64:IntKind.bits .u64=64:=rfl
def zFg{a b:Nat}(ha:a<18446744073709551616)(hb:b<18446744073709551616):zj .and (W a) (W b)=some (W (a&&& b)):=by
 have h:a&&& b<18446744073709551616:=Nat.lt_of_le_of_lt Nat.and_le_left ha;have e:(BitVec.ofInt 64 (a:Int)&&& BitVec.ofInt 64 (b:Int)).toNat=a&&& b:=by
  rw[Yq,Yq,BitVec.toNat_and,JS,JS,JD (show a<2 ^ 64 from ha),JD (show b<2 ^ 64 from hb)]
 simp only[zj,Qz];rw[show((BitVec.ofInt (IntKind.bits .u64) (a:Int)&&& BitVec.ofInt (IntKind.bits .u64) (b:Int)).toNat)=a&&& b from e,Ze ω ω]
def zOu{a b:Nat}(ha:a<18446744073709551616)(hb:b<18446744073709551616):zj .or (W a) (W b)=some (W (a|||b))/\a|||b<18446744073709551616:=by
 have h:a|||b<18446744073709551616:=Nat.or_lt_two_pow (n:=64) ha hb
 refine⟨?_,h⟩;have e:(BitVec.ofInt 64 (a:Int)|||BitVec.ofInt 64 (b:Int)).toNat=a|||b:=by
  rw[Yq,Yq,BitVec.toNat_or,JS,JS,JD (show a<2 ^ 64 from ha),JD (show b<2 ^ 64 from hb)]
 simp only[zj,Qz];rw[show((BitVec.ofInt (IntKind.bits .u64) (a:Int)|||BitVec.ofInt (IntKind.bits .u64) (b:Int)).toNat)=a|||b from e,Ze ω ω]
def SR(a b:Nat):Nat:=(BitVec.ofNat 64 a&&& ~~~BitVec.ofNat 64 b).toNat
def zO6{a b:Nat}(ha:a<18446744073709551616)(hb:b<18446744073709551616):zj .andNot (W a) (W b)=some (W (SR a b))/\SR a b<18446744073709551616/\∀ i,(SR a b).testBit i=(a.testBit i&& !b.testBit i):=by
 have h:SR a b<18446744073709551616:=(BitVec.ofNat 64 a&&& ~~~BitVec.ofNat 64 b).isLt;refine⟨?_,h,fun i=> ?_⟩
 ·have e:(BitVec.ofInt 64 (a:Int)&&& ~~~BitVec.ofInt 64 (b:Int)).toNat=SR a b:=by rw[Yq,Yq];rfl
  simp only[zj,Qz];rw[show((BitVec.ofInt (IntKind.bits .u64) (a:Int)&&& ~~~BitVec.ofInt (IntKind.bits .u64) (b:Int)).toNat)=SR a b from e,Ze ω ω]
 ·unfold SR;rw[BitVec.testBit_toNat,BitVec.getLsbD_and,BitVec.getLsbD_not,BitVec.getLsbD_ofNat,BitVec.getLsbD_ofNat];by_cases hi:i<64
  ·simp[hi]
  ·have:a.testBit i=false:=by
    cases h:a.testBit i with
    |false=>rfl
    |true=>exact absurd (zAL ha h) hi
   simp[hi,this]
def zC2{a:Nat}{k:Nat}(hk:k<64):zj .shr (W a) (W k)=some (W (a / 2 ^ k)):=by
 simp only[zj];rw[QC ω,QZ,show min k (IntKind.bits .u64)=k from Gg (by rw[b64];omega),Int.fdiv_eq_ediv_of_nonneg _ (by exact Int.le_of_lt (Int.pow_pos (by decide)))];congr 2
def zEH{k:Nat}(hk:k<64):zj .shl (W 1) (I k)=some (W (2 ^ k))/\2 ^ k<18446744073709551616:=by
 have h:2 ^ k<2 ^ 64:=Nat.pow_lt_pow_right (by decide) hk;refine⟨?_,h⟩;have h2:((2 ^ k:Nat):Int)<18446744073709551616:=by
  have h4:2 ^ k<18446744073709551616:=h;generalize 2 ^ k=z at h4 |-;omega
 have h3:(0:Int)<=((2 ^ k:Nat):Int):=Int.natCast_nonneg _;simp only[zj];rw[QC ω,QZ,show min k (IntKind.bits .u64)=k from Gg (by rw[b64];omega),show((1:Nat):Int)*2 ^ k=((2 ^ k:Nat):Int) by rw[Int.natCast_pow];exact Int.one_mul _,Ze h3 h2]
def zHZ{a b:Nat}(h:a+b<18446744073709551616):zj .add (W a) (W b)=some (W (a+b)):=by
 simp only[zj,Qz];rw[Ze ω ω];rfl
def zUx{a b:Nat}(ha:a<18446744073709551616)(h:b<=a):zj .sub (W a) (W b)=some (W (a-b)):=by
 simp only[zj,Qz];rw[Ze ω ω];congr 2;omega
def zMW(n:Int):IntKind.wrap .u64 n=n % 18446744073709551616:=rfl
def zUq(a b:Nat):zj .mul (W a) (W b)=some (W (a*b % 18446744073709551616)):=by
 simp only[zj,Qz];rw[zMW];congr 2
def zUu{a:Nat}(h:a≠0)(ha:a<18446744073709551616):unV .neg (W a)=some (W (18446744073709551616-a)):=by
 simp only[unV];rw[zMW];congr 2;omega
def zRD{a:Nat}(ha:a<9223372036854775808):zj .and (I a) (I 127)=some (I ((a % 128:Nat):Int)):=by
 have e:(BitVec.ofInt 64 (a:Int)&&& BitVec.ofInt 64 (127:Int)).toNat=a % 128:=by
  rw[Yq,show BitVec.ofInt 64 127=BitVec.ofNat 64 127 from rfl,BitVec.toNat_and,JS,JS,JD (show a<2 ^ 64 by omega)];exact Nat.and_two_pow_sub_one_eq_mod a 7
 simp only[zj,I,Qz];rw[show((BitVec.ofInt (IntKind.bits .i64) (a:Int)&&& BitVec.ofInt (IntKind.bits .i64) (127:Int)).toNat)=a % 128 from e,zC6 ω ω]
def zKZ:∀ {xs ys:List Nat},xs.Pairwise (·<·)->ys.Pairwise (·<·)->(∀ n,n∈xs↔n∈ys)->xs=ys
 |[],[],_,_,_=>rfl
 |[],y::ys,_,_,h=>absurd ((h y).2 (QR ..)) (by simp)
 |x::xs,[],_,_,h=>absurd ((h x).1 (QR ..)) (by simp)
 |x::xs,y::ys,hx,hy,h=>by
  obtain⟨x1,x2⟩:=GT.1 hx;obtain⟨y1,y2⟩:=GT.1 hy;have e:x=y:=by
   rcases Qt.1 ((h x).1 (QR ..))with e|e
   ·exact e
   ·rcases Qt.1 ((h y).2 (QR ..))with e2|e2
    ·exact e2.symm
    ·have:=y1 _ e;have:=x1 _ e2;omega
  subst e;rw[zKZ x2 y2 fun n=> ?_];have:=h n;constructor
  ·intro hn;have aD:=x1 n hn;rcases Qt.1 (this.1 (QW _ hn))with e|e
   ·omega
   ·exact e
  ·intro hn;have aD:=y1 n hn;rcases Qt.1 (this.2 (QW _ hn))with e|e
   ·omega
   ·exact e
def zNH(b:Nat):b≠0->∃ k m,b=2 ^ (k+1)*m+2 ^ k:=by
 induction b using Nat.strongRecOn with
 |ind b ih=>
  intro h;by_cases h2:b % 2=1
  ·exact⟨0,b / 2,by simp;omega⟩
  ·obtain⟨k,m,e⟩:=ih (b / 2) ω ω;refine⟨k+1,m,?_⟩;have e1:2 ^ (k+1+1)*m=2 ^ (k+1)*m*2:=by rw[Nat.pow_succ 2 (k+1),Nat.mul_right_comm]
   have e2:2 ^ (k+1)=2 ^ k*2:=Nat.pow_succ ..;rw[e1];generalize 2 ^ (k+1)*m=z at *;generalize 2 ^ k=y at *;omega
structure Low(b k:Nat):Prop where
 lt:k<64
 list:Y5 b=k::Y5 (b&&& (b-1))
 one:b&&& (18446744073709551616-b)=2 ^ k
 less:b&&& (b-1)<b
def low{b:Nat}(h:b≠0)(hb:b<18446744073709551616):∃ k,Low b k:=by
 obtain⟨k,m,e⟩:=zNH b h;have bN:0<2 ^ k:=Nat.pow_pos (by decide);have hs:2 ^ (k+1)=2 ^ k*2:=Nat.pow_succ ..;have e1:b-1=2 ^ (k+1)*m+(2 ^ k-1):=by
  generalize 2 ^ (k+1)*m=z at *;omega
 have tb:∀ i,b.testBit i=if i<k+1 then decide (k=i)else m.testBit (i-(k+1)):=fun i=>by
  rw[e,Nat.testBit_two_pow_mul_add _ ω,Nat.testBit_two_pow]
 have HL:∀ i,(b-1).testBit i=if i<k+1 then decide (i<k)else m.testBit (i-(k+1)):=fun i=>by
  rw[e1,Nat.testBit_two_pow_mul_add _ ω,Nat.testBit_two_pow_sub_one]
 have hk:b.testBit k=true:=by rw[tb,QJ ω];simp
 have uC:∀ i,(b&&& (b-1)).testBit i=(b.testBit i&& !decide (i=k)):=fun i=>by
  rw[Nat.testBit_and,tb,HL];by_cases h1:i<k+1
  ·rw[QJ h1,QJ h1];by_cases h2:k=i
   ·subst h2;simp
   ·simp[h2]
  ·rw[QC h1,QC h1,show decide (i=k)=false from QY ω];simp
 refine⟨k,zAL hb hk,zKZ (zDE b) (GT.2 ⟨fun i hi=> ?_,zDE _⟩) fun i=> ?_,?_,?_⟩
 ·have:=(zAQ.1 hi).2;rw[uC,tb]at this;by_cases h1:i<k+1
  ·rw[QJ h1]at this;simp at this;omega
  ·omega
 ·rw[Qt,zAQ,zAQ,uC];by_cases h1:i=k
  ·subst h1;simp[hk,zAL hb hk]
  ·simp[h1]
 ·refine Nat.eq_of_testBit_eq fun i=> ?_;rw[Nat.testBit_and,show 18446744073709551616-b=2 ^ 64-((b-1)+1) by omega,Nat.testBit_two_pow_sub_succ ω,Nat.testBit_two_pow,tb,HL];by_cases h1:i<k+1
  ·rw[QJ h1,QJ h1];by_cases h2:k=i
   ·subst h2;simp[zAL hb hk]
   ·simp[h2]
  ·rw[QC h1,QC h1,show decide (k=i)=false from QY ω];cases m.testBit (i-(k+1))<;>simp
 ·exact Nat.lt_of_le_of_lt Nat.and_le_right ω
def zLd:Y5 0=[]:=by unfold Y5;simp
def tz64:List Nat:=[0,1,56,2,57,49,28,3,61,58,42,50,38,29,17,4,62,47,59,36,45,43,51,22,53,39,33,30,24,18,12,5,63,55,48,27,60,41,37,16,46,35,44,21,52,32,23,11,54,26,40,15,34,20,31,10,25,14,19,9,13,8,7,6]
def tzV:List Value:=tz64.map fun n:Nat=> .int .u8 (n:Int)
def zTN:∀ k,k<64->(2 ^ k*285870213051353865 % 18446744073709551616 / 288230376151711744<64/\tz64.getD (2 ^ k*285870213051353865 % 18446744073709551616 / 288230376151711744) 0=k):=by decide+kernel
def zTq{j k:Nat}(t1:j<64)(t2:tz64.getD j 0=k):tzV[j]?=some (.int .u8 (k:Int)):=by
 unfold tzV;have hl:j<tz64.length:=t1;rw[GQ,QB hl];rw[QD,QB hl]at t2;rw[QL];simp only[GG]at t2;rw[t2]
def zQK{k:Nat}(h:k<64):∃ m j:Nat,zj .mul (W (2 ^ k)) (W 285870213051353865)=some (W m)/\zj .shr (W m) (W 58)=some (W j)/\j<64/\tz64.getD j 0=k:=
 ⟨_,_,zUq (2 ^ k) 285870213051353865,zC2 (k:=58) (by decide),zTN k h⟩
def zCa(k n:Nat):Nat:=((List.range k).filter n.testBit).length
def zPU(k b n:Nat)(hb:b<256):zCa (8+k) (b+256*n)=zCa 8 b+zCa k n:=by
 unfold zCa;rw[List.range_add,List.filter_append,QH,List.filter_map,Qr];have tb:∀ i,(b+256*n).testBit i=if i<8 then b.testBit i else n.testBit (i-8):=fun i=>by
  rw[Nat.add_comm,show 256=2 ^ 8 from rfl,Nat.testBit_two_pow_mul_add _ hb]
 congr 1
 ·congr 1;refine List.filter_congr fun i hi=> ?_;rw[tb,QJ (Q4.1 hi)]
 ·congr 1;refine List.filter_congr fun i hi=> ?_;show(b+256*n).testBit (8+i)=_;rw[tb,QC ω,Nat.add_sub_cancel_left]
def zGg(c:Nat):Nat->Nat
 |0=>0
 |j+1=>c+256*zGg c j
def zBv{c:Nat}(hc:c<256)(a n j:Nat)(ha:a<256):(a+256*n)&&& zGg c (j+1)=(a&&& c)+256*(n&&& zGg c j):=by
 have HM:a&&& c<256:=Nat.lt_of_le_of_lt Nat.and_le_left ha;refine Nat.eq_of_testBit_eq fun i=> ?_;show((a+256*n)&&& (c+256*zGg c j)).testBit i=_;rw[Nat.testBit_and,Nat.add_comm a,Nat.add_comm c,Nat.add_comm (a&&& c),show 256=2 ^ 8 from rfl,Nat.testBit_two_pow_mul_add _ ha,Nat.testBit_two_pow_mul_add _ hc,Nat.testBit_two_pow_mul_add _ HM];split<;>rw[Nat.testBit_and]
def sw1(j n:Nat):Nat:=(n / 2&&& zGg 85 j)+(n&&& zGg 85 j)
def sw2(j n:Nat):Nat:=(n / 4&&& zGg 51 j)+(n&&& zGg 51 j)
def sw3(j n:Nat):Nat:=(n / 16+n)&&& zGg 15 j
def s1(b:Nat):Nat:=(b / 2&&& 85)+(b&&& 85)
def s2(b:Nat):Nat:=(b / 4&&& 51)+(b&&& 51)
def zVu:∀ t,t<2->∀ b,b<256->(b / 2+128*t)&&& 85=b / 2&&& 85:=by decide+kernel
def zVs:∀ t,t<4->∀ b,b<256->(b / 4+64*t)&&& 51=b / 4&&& 51:=by decide+kernel
def zJW:∀ b,b<256->s1 b<256/\s2 (s1 b)<256/\s2 (s1 b) % 16<=4/\s2 (s1 b) / 16<=4/\s2 (s1 b) / 16+s2 (s1 b) % 16=zCa 8 b/\zCa 8 b<=8:=by decide+kernel
def zQU(j b n:Nat)(hb:b<256):sw1 (j+1) (b+256*n)=s1 b+256*sw1 j n:=by
 unfold sw1 s1;rw[show(b+256*n) / 2=(b / 2+128*(n % 2))+256*(n / 2) by omega,zBv (by decide) _ _ _ ω,zBv (by decide) _ _ _ hb,zVu _ ω _ hb];omega
def zRK(j b n:Nat)(hb:b<256):sw2 (j+1) (b+256*n)=s2 b+256*sw2 j n:=by
 unfold sw2 s2;rw[show(b+256*n) / 4=(b / 4+64*(n % 4))+256*(n / 4) by omega,zBv (by decide) _ _ _ ω,zBv (by decide) _ _ _ hb,zVs _ ω _ hb];omega
def zSL(a:Nat):a&&& 15=a % 16:=Nat.and_two_pow_sub_one_eq_mod a 4
def zOk(j b n:Nat)(hb:b<256)(h1:b % 16<=4)(h2:b / 16<=4)(h3:n % 16<=4):sw3 (j+1) (b+256*n)=(b / 16+b % 16)+256*sw3 j n:=by
 unfold sw3;rw[show(b+256*n) / 16+(b+256*n)=(b / 16+16*(n % 16)+b)+256*(n / 16+n) by omega,zBv (by decide) _ _ _ ω,zSL];omega
def zGY:Nat->Nat->Nat
 |0,_=>0
 |j+1,n=>zCa 8 (n % 256)+256*zGY j (n / 256)
def zMy:∀ j n:Nat,sw3 j (sw2 j (sw1 j n))=zGY j n/\sw2 j (sw1 j n) % 16<=4
 |0,n=>by
  have e0:∀ c,zGg c 0=0:=fun _=>rfl;simp only[sw1,sw2,sw3,e0,Nat.and_zero];exact⟨rfl,by decide⟩
 |j+1,n=>by
  obtain⟨i1,i2⟩:=zMy j (n / 256);obtain⟨a1,a2,a3,a4,a5,_⟩:=zJW (n % 256) (Nat.mod_lt _ (by decide));have e:n=n % 256+256*(n / 256):=ω
  have e1:sw1 (j+1) n=s1 (n % 256)+256*sw1 j (n / 256):=by
   have:=zQU j (n % 256) (n / 256) (Nat.mod_lt _ (by decide));rwa [<-e]at this
  rw[e1,zRK _ _ _ a1];refine⟨?_,ω⟩;rw[zOk _ _ _ a2 a3 a4 i2,i1,a5];rfl
def YT(k m:Nat):zCa (8+k) m=zCa 8 (m % 256)+zCa k (m / 256):=by
 have:=zPU k (m % 256) (m / 256) (Nat.mod_lt _ (by decide));rwa [show m % 256+256*(m / 256)=m by omega]at this
def zA2(m:Nat):zCa 8 (m % 256)<=8:=(zJW _ (Nat.mod_lt _ (by decide))).2.2.2.2.2
def YP(j n:Nat):zGY (j+1) n=zCa 8 (n % 256)+256*zGY j (n / 256):=rfl
def zPZ(n:Nat):∃ p0 p1 p2 p3 p4 p5 p6 p7:Nat,(p0<=8/\p1<=8/\p2<=8/\p3<=8/\p4<=8/\p5<=8/\p6<=8/\p7<=8)/\zCa 64 n=p0+(p1+(p2+(p3+(p4+(p5+(p6+p7))))))/\
  zGY 8 n=p0+256*(p1+256*(p2+256*(p3+256*(p4+256*(p5+256*(p6+256*p7)))))):=by
 refine⟨_,_,_,_,_,_,_,_,⟨zA2 n,zA2 (n / 256),zA2 (n / 256 / 256),zA2 (n / 256 / 256 / 256),zA2 (n / 256 / 256 / 256 / 256),zA2 (n / 256 / 256 / 256 / 256 / 256),zA2 (n / 256 / 256 / 256 / 256 / 256 / 256),zA2 (n / 256 / 256 / 256 / 256 / 256 / 256 / 256)⟩,?_,?_⟩;case refine_2=>rw[YP 7,YP 6,YP 5,YP 4,YP 3,YP 2,YP 1,YP 0,show ∀ m,zGY 0 m=0 from fun _=>rfl,Nat.mul_zero,JQ]
 case refine_1=>rw[YT 56,YT 48,YT 40,YT 32,YT 24,YT 16,YT 8,show zCa 8 (n / 256 / 256 / 256 / 256 / 256 / 256 / 256)=zCa 8 (n / 256 / 256 / 256 / 256 / 256 / 256 / 256 % 256)from YT 0 _]
def zLi{c r q:Nat}(h:r<c):(r+c*q) / c=q:=by
 rw[Nat.add_mul_div_left _ _ ω,Nat.div_eq_of_lt h,Q8]
def zRM{p0 p1 p2 p3 p4 p5 p6 p7:Nat}(h:p0<=8/\p1<=8/\p2<=8/\p3<=8/\p4<=8/\p5<=8/\p6<=8/\p7<=8){x y z u:Nat}(hx:x=p0+256*(p1+256*(p2+256*(p3+256*(p4+256*(p5+256*(p6+256*p7)))))))(hy:y=x+x / 256)(hz:z=y+y / 65536)(hu:u=z+z / 4294967296):
  y<18446744073709551616/\z<18446744073709551616/\u<9223372036854775808/\u % 128=p0+(p1+(p2+(p3+(p4+(p5+(p6+p7)))))):=by
 have x1:x / 256=p1+256*(p2+256*(p3+256*(p4+256*(p5+256*(p6+256*p7))))):=by rw[hx];exact zLi ω
 rw[x1,hx]at hy;clear hx x1;have sj:y=((p0+p1)+256*(p1+p2))+65536*((p2+p3)+256*((p3+p4)+256*((p4+p5)+256*((p5+p6)+256*((p6+p7)+256*p7))))):=ω
 clear hy;have y1:y / 65536=(p2+p3)+256*((p3+p4)+256*((p4+p5)+256*((p5+p6)+256*((p6+p7)+256*p7)))):=by rw[sj];exact zLi ω
 have h1:y<18446744073709551616:=ω
 rw[y1,sj]at hz;clear sj y1;have kT:z=((p0+p1+p2+p3)+256*((p1+p2+p3+p4)+256*((p2+p3+p4+p5)+256*(p3+p4+p5+p6))))+4294967296*((p4+p5+p6+p7)+256*((p5+p6+p7)+256*((p6+p7)+256*p7))):=ω
 clear hz;have z1:z / 4294967296=(p4+p5+p6+p7)+256*((p5+p6+p7)+256*((p6+p7)+256*p7)):=by rw[kT];exact zLi ω
 have h2:z<18446744073709551616:=ω
 rw[z1,kT]at hu;clear kT z1;have LL:∃ q,u=(p0+(p1+(p2+(p3+(p4+(p5+(p6+p7)))))))+128*q:=⟨2*(((p1+p2+p3+p4)+(p5+p6+p7))+256*(((p2+p3+p4+p5)+(p6+p7))+256*((p3+p4+p5+p6+p7)+256*((p4+p5+p6+p7)+256*((p5+p6+p7)+256*((p6+p7)+256*p7)))))),ω⟩;refine⟨h1,h2,ω,?_⟩;obtain⟨q,hq⟩:=LL;clear hu;rw[hq,Nat.add_mul_mod_self_left];exact JD ω
def zU2(n:Nat):zCa 64 n=(Y5 n).length:=rfl
def BdW(s:List Wa):Prop:=∀ w∈s,w.bits<18446744073709551616
def Bh.bd{s:List Wa}(h:Bh s):BdW s:=fun w hw=>(h.each w hw).2.2.2
def BdW.tail{w:Wa}{s:List Wa}(h:BdW (w::s)):BdW s:=fun x hx=>h x (QW _ hx)
def zv:Int->List Wa->Bool
 |_,[]=>true
 |last,w::s=>decide (last<w.pos)&&decide (w.pos<16384)&&decide (w.bits≠0)&&zv w.pos s
def zC4:∀ {s:List Wa} {last:Int},-1<=last->BdW s->(zv last s=true↔Bh s/\∀ w∈s,last<w.pos)
 |[],last,_,_=>by simp[zv,Bh.nil]
 |w::s,last,hl,hb=>by
  unfold zv;rw[QI,QI,QI,GS,GS,GS];constructor
  ·rintro⟨⟨⟨h1,h2⟩,h3⟩,h4⟩;obtain⟨h5,h6⟩:=(zC4 ω hb.tail).1 h4;refine⟨⟨GT.2 ⟨h6,h5.dv⟩,fun x hx=> ?_⟩,fun x hx=> ?_⟩
   ·rcases Qt.1 hx with rfl|hx
    ·exact⟨ω,h2,h3,hb _ (QR ..)⟩
    ·exact h5.each x hx
   ·rcases Qt.1 hx with rfl|hx
    ·exact h1
    ·have:=h6 x hx;omega
  ·rintro⟨h1,h2⟩;obtain⟨a,b,c,_⟩:=h1.each w (QR ..);exact⟨⟨⟨h2 w (QR ..),b⟩,c⟩,(zC4 ω hb.tail).2 ⟨h1.tail,(GT.1 h1.dv).1⟩⟩
def YE{s:List Wa}(hb:BdW s):zv (-1) s=true↔Bh s:=by
 rw[zC4 (by decide) hb];exact⟨fun h=>h.1,fun h=>⟨h,fun w hw=>by have:=(h.each w hw).1;omega⟩⟩
def inB(s:List Wa)(n:Int):Bool:=s.any fun w=>decide (w.pos=n / 64)&&w.bits.testBit (n % 64).toNat
def zAG{s:List Wa}{n:Int}:inB s n=true↔SG s n:=by
 unfold inB SG;rw[JH];simp only[QI,GS]
def zNx{s:List Wa}{n:Int}(h:¬SG s n):inB s n=false:=by
 cases hb:inB s n with
 |false=>rfl
 |true=>exact absurd (zAG.1 hb) h
def zAf(w:Wa)(s:List Wa)(n:Int):inB (w::s) n=(decide (w.pos=n / 64)&&w.bits.testBit (n % 64).toNat||inB s n):=by
 unfold inB;rw[List.any_cons]
def zAq{s:List Wa}{n:Int}(h:∀ w∈s,n / 64<w.pos):inB s n=false:=zNx fun⟨w,hw,e,_⟩=>by have:=h w hw;omega
def zCb(p:Int)(v:Nat)(s:List Wa):List Wa:=if v=0 then s else⟨p,v⟩::s
def zDW{p:Int}{v:Nat}{s:List Wa}(h:Bh s)(hp:0<=p/\p<16384)(hv:v<18446744073709551616)(hs:∀ w∈s,p<w.pos):Bh (zCb p v s):=by
 unfold zCb;split
 ·exact h
 ·rename_i ah;refine⟨GT.2 ⟨hs,h.dv⟩,fun x hx=> ?_⟩;rcases Qt.1 hx with rfl|hx
  ·exact⟨hp.1,hp.2,ah,hv⟩
  ·exact h.each x hx
def zDX(p:Int)(v:Nat)(s:List Wa)(n:Int):inB (zCb p v s) n=(decide (p=n / 64)&&v.testBit (n % 64).toNat||inB s n):=by
 unfold zCb;split
 ·rename_i h;subst h;simp
 ·rw[zAf]
def zBr{p:Int}{v:Nat}{s:List Wa}{x:Wa}(h:x∈zCb p v s):x.pos=p\/x∈s:=by
 unfold zCb at h;split at h
 ·exact .inr h
 ·rcases Qt.1 h with rfl|h
  ·exact .inl rfl
  ·exact .inr h
def yM(f:Nat->Nat->Nat):List Wa->List Wa->List Wa
 |[],[]=>[]
 |x::a,[]=>zCb x.pos (f x.bits 0) (yM f a [])
 |[],y::b=>zCb y.pos (f 0 y.bits) (yM f [] b)
 |x::a,y::b=>if x.pos<y.pos then zCb x.pos (f x.bits 0) (yM f a (y::b))else if y.pos<x.pos then zCb y.pos (f 0 y.bits) (yM f (x::a) b)else zCb x.pos (f x.bits y.bits) (yM f a b)
 termination_by a b=>a.length+b.length
structure Bitw(f:Nat->Nat->Nat)(g:Bool->Bool->Bool):Prop where
 nil:g false false=false
 bit:∀ a b,a<18446744073709551616->b<18446744073709551616->f a b<18446744073709551616/\∀ i,(f a b).testBit i=g (a.testBit i) (b.testBit i)
def ZD{x:Wa}{a:List Wa}(h:Bh (x::a)):∀ w∈a,x.pos<w.pos:=(GT.1 h.dv).1
def YR{f:Nat->Nat->Nat}{g:Bool->Bool->Bool}(hf:Bitw f g):∀ {a b:List Wa},Bh a->Bh b->(Bh (yM f a b)/\(∀ n,inB (yM f a b) n=g (inB a n) (inB b n))/\∀ p,(∀ w∈a,p<w.pos)->(∀ w∈b,p<w.pos)->∀ w∈yM f a b,p<w.pos)
 |[],[],_,_=>by
  unfold yM;exact⟨Bh.nil,fun n=>by show false=g false false;rw[hf.nil],fun p _ _ w hw=>by cases hw⟩
 |x::a,[],ha,hb=>by
  obtain⟨i1,i2,i3⟩:=YR hf ha.tail hb;obtain⟨x1,x2,x3,x4⟩:=ha.each x (QR ..);obtain⟨f1,f2⟩:=hf.bit x.bits 0 x4 (by decide);unfold yM;refine⟨zDW i1 ⟨x1,x2⟩ f1 (i3 _ (ZD ha) (fun w hw=>by cases hw)),fun n=> ?_,fun p h1 h2 w hw=> ?_⟩
  ·rw[zDX,i2,zAf,f2,JX];by_cases e:x.pos=n / 64
   ·rw[zAq (s:=a) (fun w hw=>by have:=ZD ha w hw;omega),Qa e,show inB [] n=false from rfl,hf.nil];simp
   ·rw[QY e];simp
  ·rcases zBr hw with e|hw
   ·rw[e];exact h1 x (QR ..)
   ·exact i3 p (fun w hw=>h1 w (QW _ hw)) h2 w hw
 |[],y::b,ha,hb=>by
  obtain⟨i1,i2,i3⟩:=YR hf ha hb.tail;obtain⟨x1,x2,x3,x4⟩:=hb.each y (QR ..);obtain⟨f1,f2⟩:=hf.bit 0 y.bits (by decide) x4;unfold yM;refine⟨zDW i1 ⟨x1,x2⟩ f1 (i3 _ (fun w hw=>by cases hw) (ZD hb)),fun n=> ?_,fun p h1 h2 w hw=> ?_⟩
  ·rw[zDX,i2,zAf,f2,JX];by_cases e:y.pos=n / 64
   ·rw[zAq (s:=b) (fun w hw=>by have:=ZD hb w hw;omega),Qa e,show inB [] n=false from rfl,hf.nil];simp
   ·rw[QY e];simp
  ·rcases zBr hw with e|hw
   ·rw[e];exact h2 y (QR ..)
   ·exact i3 p h1 (fun w hw=>h2 w (QW _ hw)) w hw
 |x::a,y::b,ha,hb=>by
  obtain⟨x1,x2,x3,x4⟩:=ha.each x (QR ..);obtain⟨y1,y2,y3,y4⟩:=hb.each y (QR ..);unfold yM;by_cases c1:x.pos<y.pos
  ·rw[QJ c1];obtain⟨i1,i2,i3⟩:=YR hf ha.tail hb;obtain⟨f1,f2⟩:=hf.bit x.bits 0 x4 (by decide);have fo:∀ w∈y::b,x.pos<w.pos:=fun w hw=>by
    rcases Qt.1 hw with rfl|hw
    ·exact c1
    ·have:=ZD hb w hw;omega
   refine⟨zDW i1 ⟨x1,x2⟩ f1 (i3 _ (ZD ha) fo),fun n=> ?_,fun p h1 h2 w hw=> ?_⟩
   ·rw[zDX,i2,zAf x a,f2,JX];by_cases e:x.pos=n / 64
    ·rw[zAq (s:=a) (fun w hw=>by have:=ZD ha w hw;omega),zAq (s:=y::b) (fun w hw=>by have:=fo w hw;omega),Qa e,hf.nil];simp
    ·rw[QY e];simp
   ·rcases zBr hw with e|hw
    ·rw[e];exact h1 x (QR ..)
    ·exact i3 p (fun w hw=>h1 w (QW _ hw)) h2 w hw
  ·rw[QC c1];by_cases c2:y.pos<x.pos
   ·rw[QJ c2];obtain⟨i1,i2,i3⟩:=YR hf ha hb.tail;obtain⟨f1,f2⟩:=hf.bit 0 y.bits (by decide) y4;have fo:∀ w∈x::a,y.pos<w.pos:=fun w hw=>by
     rcases Qt.1 hw with rfl|hw
     ·exact c2
     ·have:=ZD ha w hw;omega
    refine⟨zDW i1 ⟨y1,y2⟩ f1 (i3 _ fo (ZD hb)),fun n=> ?_,fun p h1 h2 w hw=> ?_⟩
    ·rw[zDX,i2,zAf y b,f2,JX];by_cases e:y.pos=n / 64
     ·rw[zAq (s:=b) (fun w hw=>by have:=ZD hb w hw;omega),zAq (s:=x::a) (fun w hw=>by have:=fo w hw;omega),Qa e,hf.nil];simp
     ·rw[QY e];simp
    ·rcases zBr hw with e|hw
     ·rw[e];exact h2 y (QR ..)
     ·exact i3 p h1 (fun w hw=>h2 w (QW _ hw)) w hw
   ·rw[QC c2];obtain⟨i1,i2,i3⟩:=YR hf ha.tail hb.tail;obtain⟨f1,f2⟩:=hf.bit x.bits y.bits x4 y4;have e0:x.pos=y.pos:=ω
    refine⟨zDW i1 ⟨x1,x2⟩ f1 (i3 _ (ZD ha) (fun w hw=>by have:=ZD hb w hw;omega)),fun n=> ?_,fun p h1 h2 w hw=> ?_⟩
    ·rw[zDX,i2,zAf x a,zAf y b,f2,<-e0];by_cases e:x.pos=n / 64
     ·rw[zAq (s:=a) (fun w hw=>by have:=ZD ha w hw;omega),zAq (s:=b) (fun w hw=>by have:=ZD hb w hw;omega),Qa e,hf.nil];simp
     ·rw[QY e];simp
    ·rcases zBr hw with e|hw
     ·rw[e];exact h1 x (QR ..)
     ·exact i3 p (fun w hw=>h1 w (QW _ hw)) (fun w hw=>h2 w (QW _ hw)) w hw
 termination_by a b=>a.length+b.length
def zRT{b k:Nat}(hk:k<64)(hb:b<18446744073709551616):b|||2 ^ k<18446744073709551616/\∀ i,(b|||2 ^ k).testBit i=(b.testBit i||decide (k=i)):=by
 have h:2 ^ k<2 ^ 64:=Nat.pow_lt_pow_right (by decide) hk;refine⟨Nat.or_lt_two_pow (n:=64) hb h,fun i=> ?_⟩;rw[Nat.testBit_or,Nat.testBit_two_pow]
def zTr(k:Nat):2 ^ k≠0:=Nat.ne_of_gt (Nat.pow_pos (by decide))
structure Bo(s:List Wa)(xs:List Int):Prop where
 ok:Bh s
 mem:∀ n,SG s n↔n∈xs
def zJ3{s:List Wa}{w:Wa}(h:Bh s)(h1:0<=w.pos/\w.pos<16384)(h2:w.bits≠0)(h3:w.bits<18446744073709551616)(hs:∀ x∈s,x.pos<w.pos):Bh (s++[w]):=
 ⟨List.pairwise_append.2 ⟨h.dv,List.pairwise_singleton ..,fun x hx y hy=>by rw[QO]at hy;subst hy;exact hs x hx⟩,fun x hx=>by
  rcases Qf.1 hx with hx|hx
  ·exact h.each x hx
  ·rw[QO]at hx;subst hx;exact⟨h1.1,h1.2,h2,h3⟩⟩
def zFM{s:List Wa}{w:Wa}{n:Int}:SG (s++[w]) n↔SG s n\/(w.pos=n / 64/\w.bits.testBit (n % 64).toNat=true):=by
 unfold SG;constructor
 ·rintro⟨x,hx,e⟩;rcases Qf.1 hx with hx|hx
  ·exact .inl ⟨x,hx,e⟩
  ·rw[QO]at hx;subst hx;exact .inr e
 ·rintro(⟨x,hx,e⟩|e)
  ·exact⟨x,GV _ hx,e⟩
  ·exact⟨w,by simp,e⟩
def Bo.new{s:List Wa}{xs:List Int}{n:Int}(u:Bo s xs)(hn:0<=n/\n<1048576)(hs:∀ x∈s,x.pos<n / 64):Bo (s++[⟨n / 64,2 ^ (n % 64).toNat⟩]) (xs++[n]):=by
 have aD:2 ^ (n % 64).toNat<2 ^ 64:=Nat.pow_lt_pow_right (by decide) ω;refine⟨zJ3 u.ok ⟨by simp only;omega,by simp only;omega⟩ (zTr _) aD hs,fun m=> ?_⟩;rw[zFM,u.mem,Nat.testBit_two_pow,GS,Qf,QO];constructor
 ·rintro(h|⟨e,e2⟩)
  ·exact .inl h
  ·exact .inr (by simp only at e;omega)
 ·rintro(h|e)
  ·exact .inl h
  ·subst e;exact .inr ⟨rfl,rfl⟩
def Bo.old{s:List Wa}{w:Wa}{xs:List Int}{n:Int}(u:Bo (s++[w]) xs)(hn:0<=n/\n<1048576)(hw:w.pos=n / 64):Bo (s++[⟨w.pos,w.bits|||2 ^ (n % 64).toNat⟩]) (xs++[n]):=by
 obtain⟨w1,w2,w3,w4⟩:=u.ok.each w (by simp);obtain⟨s1,s2⟩:=zRT (k:=(n % 64).toNat) ω w4;obtain⟨p1,p2,p3⟩:=List.pairwise_append.1 u.ok.dv;have ah:w.bits|||2 ^ (n % 64).toNat≠0:=fun e=>by
  have:=s2 (n % 64).toNat;rw[e,JX]at this;simp at this
 refine⟨zJ3 ⟨p1,fun x hx=>u.ok.each x (GV _ hx)⟩ ⟨w1,w2⟩ ah s1 (fun x hx=>p3 x hx w (by simp)),fun m=> ?_⟩;have:=u.mem m;rw[zFM]at this;rw[zFM,s2,GM,GS,Qf,QO,<-this];constructor
 ·rintro(h|⟨e,h|h⟩)
  ·exact .inl (.inl h)
  ·exact .inl (.inr ⟨e,h⟩)
  ·exact .inr (by simp only at e;omega)
 ·rintro((h|⟨e,h⟩)|e)
  ·exact .inl h
  ·exact .inr ⟨e,.inl h⟩
  ·subst e;exact .inr ⟨hw,.inr rfl⟩
def laidB:List (Nat×List Value):=[(1,Yi),(0,tzV)]
noncomputable def tb:Ws:=⟨zGJ Tryz.prog,fun f=>if f=20 then some (zBw laidB (.bool true))else none⟩
abbrev G0(f:Nat)(a:List Value)(h:WA)(Q:Value->WA->Prop):Prop:=WC Tryz.prog tb f a h Q
def zTW(f:Nat)(hf:Nat.beq f 20=false:=by rfl):tb.stub f=none:=QC (JU hf)
def zJu{h:WA}{g:Nat}{cs:List Value}(hs:zBP cs cs=true)(ht:z0 h g=some cs):YM h [(g,cs)]=true:=by
 unfold z0 at ht;unfold YM;simp only[List.all_cons,List.all_nil,Qq];split at ht
 ·rename_i c o lo hg;cases ht;rw[hg];exact hs
 ·cases ht
def zQ5{h:WA}{a b:Nat×List Value}(h1:YM h [a]=true)(h2:YM h [b]=true):YM h [a,b]=true:=by
 unfold YM at *;simp only[List.all_cons,List.all_nil,Qq]at *;rw[h1,h2];rfl
def zRB(h:WA)(ht:z0 h 1=some Yi)(hz:z0 h 0=some tzV):G0 20 [] h fun r h'=>r=.bool true/\h=h':=by
 refine WC.stub (s:=zBw laidB (.bool true)) (by show(if 20=20 then some (zBw laidB (.bool true))else none)=_;exact QJ rfl) (v:= .bool true) (h':=h) ?_ ⟨rfl,rfl⟩;have hl:YM h laidB=true:=zQ5 (zJu (by kernel_rfl) ht) (zJu (by kernel_rfl) hz);unfold zBw;rw[hl];rfl
def en{f:Nat}{args:List Value}{h:WA}{Q:Value->WA->Prop}{n:Nat}{rs:List (Nat×Option (Bool×Nat))}{b:WT}{G':Prop}(k:G')(hs:tb.stub f=none:=by exact zTW _)(hc:tb.code f=some ⟨n,rs,b⟩:=by conv=>(lhs;reduce;(try simp only[Int.reduceOfNat,Int.reduceNegSucc])))
  (r:Wrap G'->WX Tryz.prog tb b ⟨zCr args 0 .leaf,[],none⟩ h (zGN Tryz.prog tb rs Q):=by
  intro fe;simp only[zCr,Q8,Nat.reduceAdd];refine go ?_;exact fe.out):G0 f args h Q:=WC.of hs hc (r ⟨k⟩)
set_option maxRecDepth 100000
def zBI{α:Type}{p:α->Bool}{l:List α}(h:∀ x∈l,p x=false):l.any p=false:=by
 rw[G4];intro x hx;rw[h x hx];exact Bool.noConfusion
def zd{l:List Int}{i:Nat}(h:i<l.length):l.getD i 0∈l:=by
 simp[List.getD,QB h]
def zB8{l:List Int}{x:Int}(h:x∈l):∃ i,i<l.length/\l.getD i 0=x:=by
 obtain⟨i,hi,e⟩:=G6 h;exact⟨i,hi,by simp[List.getD,QB hi,e]⟩
def zNy(h:WA)(h0:WA)(p:Value)(n m:Int)(o:WB h0 h p [I m]):
  G0 259 [I n,p] h fun r h'=>r=.bool (decide (n<0\/m<=n))/\WH h h':=by
 refine en ?_;repeat' (first|(refine VE (fun hb=> ?_) (fun hb=> ?_)<;>(try simp only[DB]at hb)<;>refine go ?_)|(refine VI (fun hb=> ?_) (fun hb=> ?_)<;>(try simp only[DB]at hb)<;>refine go ?_))
 all_goals (refine rt ?_;exact⟨by first|(simp[one];done)|(simp[one];omega),WH.refl h⟩)
def zQF(h:WA)(v fv:Value)(l:List Int)(p:Int->Bool)(s:Wc h v l)(hl:(l.length:Int)<=9223372036854775807)(hf:∀ x∈l,∀ h1,WH h h1->WV Tryz.prog tb fv [I x] h1 fun r h'=>r=.bool (p x)/\WH h1 h'):
  G0 136 [v,fv] h fun r h'=>(∃ n:Int,r=I n/\(decide (0<=n))=l.any p)/\WH h h':=by
 refine en ?_;refine VD (fun i=>l.length-i) (fun i t h1=>WH h h1/\zC t 8=I i/\i<=l.length/\∀ j,j<i->p (l.getD j 0)=false) 0 ?_ ?_
 ·exact⟨WH.refl h,WJ,QQ _,fun j hj=>absurd hj (GJ _)⟩
 rintro i t h1 ab ⟨e1,s8,hi,hm⟩;have s1:=s.ext e1;refine F0 ?_ ?_<;>intro hb
 ·have af:i<l.length:=ω
  refine go ?_;refine VJ (hf _ (zd af) h1 e1) ?_;rintro _ h2 ⟨rfl,e2⟩;refine go ?_;refine VE (fun hb=> ?_) (fun hb=> ?_)
  ·refine gr ?_;refine⟨⟨i,rfl,?_⟩,e1.trans e2⟩;rw[JH.2 ⟨_,zd af,hb⟩];simp
  ·refine go ?_;refine zA (i+1) ω ⟨e1.trans e2,Wy,ω,fun j hj=> ?_⟩;by_cases e:j=i
   ·subst e;exact hb
   ·exact hm j ω
 ·refine gr ?_;refine⟨⟨-1,rfl,?_⟩,e1⟩;rw[zBI fun x hx=>by obtain⟨j,hj,rfl⟩:=zB8 hx;exact hm j ω];rfl
def zAi(h:WA)(v fv:Value)(l:List Int)(p:Int->Bool)(s:Wc h v l)(hl:(l.length:Int)<=9223372036854775807)(hf:∀ x∈l,∀ h1,WH h h1->WV Tryz.prog tb fv [I x] h1 fun r h'=>r=.bool (p x)/\WH h1 h'):
  G0 73 [v,fv] h fun r h'=>r=.bool (l.any p)/\WH h h':=by
 refine en ?_;refine VA (zQF h v fv l p s hl hf) ?_;rintro _ h1 ⟨⟨n,rfl,e⟩,e1⟩;refine gr ?_;exact⟨by rw[<-e];rfl,e1⟩
def zBJ(h:WA)(v:Value)(m:Int)(l:List Int)(s:Wc h v l)(hl:(l.length:Int)<=9223372036854775807):
  G0 209 [I m,v] h fun r h'=>r=.bool (yl m l)/\WH h h':=by
 refine en ?_;refine VH ?_;intro p h1 e1 o1;refine go ?_;refine VA (zAi h1 v _ l (fun n=>decide (n<0\/m<=n)) (s.ext e1) hl ?_) ?_
 ·intro x hx h2 e2;exact WV.func (zNy h2 h p x m (o1.ext e2))
 rintro _ h2 ⟨rfl,e2⟩;refine gr ?_;refine⟨?_,e1.trans e2⟩;show Value.bool _=_;congr 1;rw[GX];simp only[yl,Ge,G4,QX,QI,Qc];exact⟨fun h x hx=>by have:=h x hx;omega,fun h x hx=>by have:=h x hx;omega⟩
def zOv(h:WA)(v:Value)(l:List Int)(s:Wc h v l)(hl:l.length<=1000)(hb:∀ x∈l,0<=x/\x<=1000):
  G0 212 [v] h fun r h'=>r=I l.sum/\h=h':=by
 refine en ?_;refine VD (fun i=>l.length-i) (fun i t h1=>h=h1/\zC t 7=I i/\zC t 2=I (l.take i).sum/\i<=l.length/\0<=(l.take i).sum/\(l.take i).sum<=1000*i) 0 ?_ ?_
 ·exact⟨rfl,WJ,WJ,QQ _,by simp,by simp⟩
 rintro i t _ ab ⟨rfl,s7,s2,hi,hm,hn⟩;refine F0 ?_ ?_<;>intro hc
 ·have af:i<l.length:=ω
  have hx:=hb _ (zd af);refine go ?_;have e:(l.take (i+1)).sum=(l.take i).sum+l.getD i 0:=by
   rw[GF,Gs];simp[List.getD,QB af]
  refine zA (i+1) ω ⟨rfl,Wy,by rw[e];exact WJ,ω,ω,ω⟩
 ·refine gr ?_;have:i=l.length:=ω
  subst this;exact⟨by simp[one],rfl⟩
def zN5(h:WA)(x:WF)(va:Value):
  G0 211 [.agg #[.int .u8 x.kind,I x.elem,I x.many,va]] h fun r h'=>r=.bool (Ya x)/\WH h h':=by
 refine en ?_;refine VH ?_;intro p h1 e1 o1;refine go ?_;repeat' (first|(refine VE (fun hb=> ?_) (fun hb=> ?_)<;>(try simp only[DB]at hb)<;>refine go ?_)|(refine VI (fun hb=> ?_) (fun hb=> ?_)<;>(try simp only[DB]at hb)<;>refine go ?_))
 all_goals (refine rt ?_;exact⟨by simp[one,Ya, *]<;>omega,e1⟩)
def zPB(h:WA)(x:WF)(va:Value)(s:Wc h va x.parts):
  G0 208 [.agg #[.int .u8 x.kind,I x.elem,I x.many,va]] h fun r h'=>r=.bool (yT x)/\WH h h':=by
 refine en ?_;refine VH ?_;intro p h1 e1 o1;have s1:=s.ext e1;refine go ?_;repeat' (first|(refine VE (fun hb=> ?_) (fun hb=> ?_)<;>(try simp only[DB]at hb)<;>refine go ?_)|(refine VI (fun hb=> ?_) (fun hb=> ?_)<;>(try simp only[DB]at hb)<;>refine go ?_))
 all_goals (refine rt ?_;refine⟨?_,e1⟩;simp[one,yT, *])
def zD{α:Type}{c:Nat}{R:WA->List Value->α->Prop}{h:WA}{v:Value}{T:List α}(s:W7 c R h v T):∃ a n k,v=.slice a n k:=let⟨_,a,_⟩:=s;a.shape
def ZX{h:WA}{v:Value}{T:List WF}{i:Nat}(s:BB h v T)(hi:i<T.length):∃ cs,RTy h cs (T.getD i default)/\Wv h v (i*4) cs/\zJQ v:=by
 obtain⟨cs,a,_,c⟩:=s.at hi;exact⟨cs,by simpa [List.getD,QB hi]using a,c,s.some hi⟩
def zST(h h0:WA)(p tv:Value)(T:List WF)(n:Int)(o:WB h0 h p [tv])(s:BB h tv T)(hn:0<=n/\n<T.length):
  G0 210 [I n,p] h fun r h'=>r=.bool (!Ya (T.getD n.toNat default))/\WH h h':=by
 obtain⟨i,rfl⟩:∃ i:Nat,n=i:=⟨n.toNat,ω⟩;obtain⟨cs,⟨va,rfl,sv,hv⟩,pc,hs⟩:=ZX (i:=i) s ω;refine en ?_;refine VA (zN5 h _ va) ?_;rintro _ h1 ⟨rfl,e1⟩;refine gr ?_;exact⟨rfl,e1⟩
def zTj(h:WA)(tv sv:Value)(T:List WF)(k:Nat)(aC:List Int)(st:BB h tv T)(ss:Wc h sv aC)(hk:k<T.length)(hT:T.length<=100)(hp:∀ x∈T,x.parts.length<=100)(hsz:aC.length=k)
  (aW:∀ x∈aC,0<=x/\x<=1000):
  G0 159 [tv,I k,sv] h fun r h'=>r=.tuple #[I (Zq T (T.getD k default) k aC).1,.bool (Zq T (T.getD k default) k aC).2]/\WH h h':=by
 have C4:T.getD k default∈T:=by simp[List.getD,QB hk]
 have C5:=hp _ C4;generalize hx:T.getD k default=x at *;have C5:x.parts.length<=100:=C5;obtain⟨_,_,_,rfl⟩:=zD st;refine en ?_;refine VH ?_;intro p3 h1 e1 o3;have bZ:=st.ext e1;obtain⟨cs,hR,pc,hs⟩:=ZX (i:=k) bZ hk;rw[hx]at hR;obtain⟨va,rfl,C6,hv⟩:=hR;refine go ?_;refine WO.al ?_;intro p8 h2 e2 o8;refine go ?_;refine VG o8 e2 ?_ (h1:=zUf (C6.ext e2) _ _ _ _);intro h3 e3 o8 _;have o3:=o3.ext e3;have mr:=bZ.ext e3;have HN:=(ss.ext e1).ext e3;have C7:=C6.ext e3;refine go ?_;refine VA (zPB h3 x va C7) ?_;rintro _ h4 ⟨rfl,e4⟩;have o3:=o3.ext e4;have fp:=o8.ext e4;have o8:=fp;have nM:=mr.ext e4;have xH:=HN.ext e4;have so:=C7.ext e4;have cB:=(e1.trans e3).trans e4;clear st bZ mr ss HN C6 C7 e1 e2 e3 e4 pc hs;refine F0 ?_ ?_<;>intro hb<;>refine go ?_
 ·refine VI (fun hc=> ?_) (fun hc=> ?_)<;>refine go ?_<;>refine rt ?_<;>exact⟨by simp[one,Zq,hb,hc],cB⟩
 refine VE (fun aI=> ?_) (fun aI=> ?_)<;>simp only[DB]at aI<;>refine go ?_
 ·refine VI (fun hc=> ?_) (fun hc=> ?_)<;>refine go ?_
  ·refine WO.bl [x.elem] ?_;intro v5 h5 e5 o5;have Sy:=nM.ext e5;have o3:=o3.ext e5;refine go ?_;refine VA (zBJ h5 v5 _ [x.elem] o5.sl (by simp)) ?_;rintro _ h6 ⟨rfl,e6⟩;refine go ?_;refine VI (fun hd=> ?_) (fun hd=> ?_)<;>refine go ?_<;>refine rt ?_<;>exact⟨by simp[one,Zq,aI,hc,hd],(cB.trans e5).trans e6⟩
  ·refine rt ?_;exact⟨by simp[one,Zq,aI,hc],cB⟩
 refine VE (fun fR=> ?_) (fun fR=> ?_)<;>simp only[DB]at fR<;>refine go ?_
 ·refine WO.bl [x.elem] ?_;intro v5 h5 e5 o5;have jj:=so.ext e5;have o8:=o8.ext e5;refine go ?_;refine Vc (.inr o5) jj e5 (by simp;omega) ?_;intro v6 h6 e6 o6;have LM:=nM.ext e6;have o3:=o3.ext e6;have HO:=so.ext e6;have o8:=WB.ext fp e6;have dD:=cB.trans e6;refine go ?_;refine VI (fun hc=> ?_) (fun hc=> ?_)<;>refine go ?_
  ·refine VI (fun hd=> ?_) (fun hd=> ?_)<;>simp only[DB]at hd<;>refine go ?_
   ·have qe:x.parts.length<=4:=ω
    refine VA (zBJ h6 v6 _ _ o6.sl (by simp;omega)) ?_;rintro _ h7 ⟨rfl,e7⟩;have o3:=o3.ext e7;have LN:=LM.ext e7;refine go ?_;refine VI (fun he=> ?_) (fun he=> ?_)<;>refine go ?_
    ·have aq:∀ n∈[x.elem]++x.parts,0<=n/\n<(T.length:Int):=by
      intro n hn;have:=QX.1 he n hn;simpa using this
     refine VA (zAi h7 v6 _ _ (fun n=> !Ya (T.getD n.toNat default)) (o6.sl.ext e7) (by simp;omega) ?_) ?_
     ·intro n hn h8 e8;exact WV.func (zST h8 h p3 _ T n (o3.ext e8) (LN.ext e8) (aq n hn))
     rintro _ h8 ⟨rfl,e8⟩;refine go ?_;have l9:(!([x.elem]++x.parts).any fun n=> !Ya (T.getD n.toNat default))=([x.elem]++x.parts).all fun n=>Ya (T.getD n.toNat default):=by
      rw[List.not_any_eq_all_not];simp
     refine VI (fun hf=> ?_) (fun hf=> ?_)<;>refine go ?_<;>refine rt ?_<;>refine⟨?_,(dD.trans e7).trans e8⟩<;>rw[l9]at hf<;>rw[JV]at hf he<;>rw[zJ4 fR,hc,he,hf,Qa qe]<;>rfl
    ·refine rt ?_;refine⟨?_,dD.trans e7⟩;rw[JV]at he;rw[zJ4 fR,hc,he,Qa qe];rfl
   ·refine rt ?_;refine⟨?_,dD⟩;rw[zJ4 fR,hc,QY (show ¬x.parts.length<=4 by omega)];rfl
  ·refine rt ?_;refine⟨?_,dD⟩;rw[zJ4 fR,hc];rfl
 refine VE (fun jk=> ?_) (fun jk=> ?_)<;>simp only[DB]at jk<;>refine go ?_
 ·refine VI (fun hc=> ?_) (fun hc=> ?_)<;>refine go ?_
  ·refine VA (zBJ h4 va _ _ so hv) ?_;rintro _ h5 ⟨rfl,e5⟩;have jj:=so.ext e5;have uD:=xH.ext e5;have o8:=o8.ext e5;refine F0 ?_ ?_<;>intro hd<;>refine go ?_
   ·refine rt ?_;exact⟨by simp[one,Zq,jk,hc,hd],cB.trans e5⟩
   have aq:∀ n∈x.parts,0<=n/\n<(k:Int):=by
    intro n hn;have:=QX.1 hd n hn;simpa using this
   refine VD (fun i=>x.parts.length-i) (fun i t h1=>WH h5 h1/\zC t 77=I i/\i<=x.parts.length/\∃ v,zC t 12=v/\WP h5 h1 v ((x.parts.take i).map fun n=>aC.getD n.toNat 0)) 0 ?_ ?_
   ·exact⟨WH.refl _,WJ,QQ _,_,WJ,.inl ⟨rfl,rfl⟩⟩
   ·rintro i t h6 ab ⟨e6,Sz,hi,v,mu,cT⟩;have HO:=jj.ext e6;have HP:=uD.ext e6;refine F0 ?_ ?_<;>intro he
    ·have af:i<x.parts.length:=ω
     have fN:=aq _ (zd af);refine go ?_;refine WO.bl [aC.getD (x.parts.getD i 0).toNat 0] ?_;intro v7 h7 e7 o7;refine go ?_;refine Vc (cT.ext e7) o7.sl (e6.trans e7) (by simp;omega) ?_;intro v8 h8 e8 o8;refine go ?_;refine zA (i+1) ω ⟨e8,Wy,ω,_,WJ,?_⟩;have e:(x.parts.take (i+1)).map (fun n=>aC.getD n.toNat 0)=(x.parts.take i).map (fun n=>aC.getD n.toNat 0)++[aC.getD (x.parts.getD i 0).toNat 0]:=by
      rw[GF,Q5];simp[List.getD,QB af]
     rw[e];exact o8
    ·have:i=x.parts.length:=ω
     subst this;rw[Qs]at cT;have aP:∀ y∈x.parts.map (fun n=>aC.getD n.toNat 0),0<=y/\y<=1000:=by
      intro y hy;obtain⟨n,hn,rfl⟩:=Qw.1 hy;have:=aq n hn;exact aW _ (zd ω)
     have cT:=cT.sl;refine go ?_;have lq:(x.parts.map fun n=>aC.getD n.toNat 0).length=x.parts.length:=Qr ..;have jV:=(cB.trans e5).trans e6;have hr:∀ {b1 b2:Bool},decide (0<x.parts.length)=b1->decide (x.parts.length<=8)=b2->Value.tuple #[I (Zq T x k aC).1,.bool (Zq T x k aC).2]=
       .tuple #[I (x.parts.map fun n=>aC.getD n.toNat 0).sum,.bool (b1&&b2&&decide ((x.parts.map fun n=>aC.getD n.toNat 0).sum<=32))]:=by
      intro b1 b2 h1 h2;rw[zTB jk,hc,hd,h1,h2];rfl
     clear aW hp hx C4 o3 o8 fp nM xH so uD jj HP HO ab;refine VI (fun hf=> ?_) (fun hf=> ?_)<;>simp only[DB,Qr]at hf<;>refine go ?_
     ·refine VA (zOv h6 v _ cT (by simp;omega) aP) ?_;rintro _ _ ⟨rfl,rfl⟩;refine go ?_;refine VI (fun hg=> ?_) (fun hg=> ?_)<;>simp only[DB,Qr]at hg<;>refine go ?_
      ·refine rt ?_;refine⟨?_,jV⟩;rw[hr (Qa ω) (Qa ω)];rfl
      ·refine rt ?_;refine⟨?_,jV⟩;rw[hr (Qa ω) (QY ω)];rfl
     ·refine VA (zOv h6 v _ cT (by simp;omega) aP) ?_;rintro _ _ ⟨rfl,rfl⟩;refine gr ?_;refine⟨?_,jV⟩;rw[hr (QY ω) rfl];rfl
  ·refine rt ?_;exact⟨by simp[one,Zq,jk,hc],cB⟩
 refine VE (fun uE=> ?_) (fun uE=> ?_)<;>simp only[DB]at uE<;>refine go ?_
 ·refine VI (fun hc=> ?_) (fun hc=> ?_)<;>refine go ?_
  ·refine WO.bl [x.elem] ?_;intro v5 h5 e5 o5;have uD:=xH.ext e5;have o8:=o8.ext e5;refine go ?_;refine VA (zBJ h5 v5 _ [x.elem] o5.sl (by simp)) ?_;rintro _ h6 ⟨rfl,e6⟩;have HP:=uD.ext e6;have o8:=o8.ext e6;have jV:=(cB.trans e5).trans e6;have hr:∀ {b1 b2 b3:Bool},yl k [x.elem]=b1->decide (1<=x.many)=b2->decide (x.many<=16)=b3->Value.tuple #[I (Zq T x k aC).1,.bool (Zq T x k aC).2]=
     (if b1&&b2&&b3 then .tuple #[I (x.many*aC.getD x.elem.toNat 0),.bool (decide (x.many*aC.getD x.elem.toNat 0<=32))]else .tuple #[I 0,.bool false]):=by
    intro b1 b2 b3 h1 h2 h3;rw[zQB uE,hc,h1,h2,h3];cases b1<;>cases b2<;>cases b3<;>rfl
   have aq:yl k [x.elem]=true->0<=x.elem/\x.elem<(k:Int):=by
    intro hd;have:=QX.1 hd x.elem (by simp);simpa using this
   have qh:∀ n:Int,0<=n/\n<(k:Int)->0<=aC.getD n.toNat 0/\aC.getD n.toNat 0<=1000:=fun n hn=>aW _ (zd ω);clear aW hp hx C4 o3 fp nM xH so uD o5;refine go ?_;refine VI (fun hd=> ?_) (fun hd=> ?_)<;>refine go ?_
   ·have aq:=aq hd;have hs:=qh _ aq;refine VI (fun he=> ?_) (fun he=> ?_)<;>simp only[DB]at he<;>refine go ?_
    ·refine VE (fun hf=> ?_) (fun hf=> ?_)<;>simp only[DB]at hf<;>refine go ?_
     ·refine rt ?_;refine⟨?_,jV⟩;rw[hr hd (Qa he) (QY ω)];rfl
     ·have cC:x.many*aC.getD x.elem.toNat 0<=16*1000:=Int.mul_le_mul ω hs.2 hs.1 ω;have gg:0<=x.many*aC.getD x.elem.toNat 0:=Int.mul_nonneg ω hs.1;refine gr ?_;refine⟨?_,jV⟩;rw[hr hd (Qa he) (Qa ω)];rfl
    ·refine rt ?_;refine⟨?_,jV⟩;rw[hr hd (QY ω) rfl];cases(decide (x.many<=16))<;>rfl
   ·refine rt ?_;refine⟨?_,jV⟩;rw[hr hd rfl rfl];rfl
  ·refine rt ?_;refine⟨?_,cB⟩;rw[zQB uE,hc];rfl
 ·refine rt ?_;exact⟨by simp[one,Zq,hb,aI,fR,jk,uE],cB⟩
def zQ2{T:List WF}{x:WF}{k:Nat}{s:List Int}(hs:∀ y∈s,0<=y/\y<=1000)(hk:s.length=k)(h:(Zq T x k s).2=true):0<=(Zq T x k s).1/\(Zq T x k s).1<=1000:=by
 unfold Zq at h |-;by_cases h1:x.kind=1
 ·rw[QJ h1];simp
 rw[QC h1]at h |-;by_cases h2:x.kind=2
 ·rw[QJ h2];simp
 rw[QC h2]at h |-;by_cases h3:x.kind=3
 ·rw[QJ h3];simp
 rw[QC h3]at h |-;by_cases h4:x.kind=4
 ·rw[QJ h4]at h |-;cases hc:(yT x&&yl k x.parts)with
  |false=>rw[hc]at h;simp at h
  |true=>
   rw[hc]at h;simp only[Qz]at h |-;simp only[QI,Qc]at h hc;have bN:∀ l:List Int,(∀ y∈l,0<=y)->0<=l.sum:=by
    intro l;induction l with
    |nil=>intro _;simp
    |cons a l ih=>intro hl;have:=ih fun y hy=>hl y (by simp[hy]);have:=hl a (by simp);simp;omega
   have:=bN (x.parts.map fun n=>s.getD n.toNat 0) fun y hy=>by
    obtain⟨n,hn,rfl⟩:=Qw.1 hy;have:=QX.1 hc.2 n hn;simp at this;exact(hs _ (zd ω)).1
   omega
 rw[QC h4]at h |-;by_cases h5:x.kind=5
 ·rw[QJ h5]at h |-;cases hc:(yT x&&yl k [x.elem]&&decide (1<=x.many)&&decide (x.many<=16))with
  |false=>rw[hc]at h;simp at h
  |true=>
   rw[hc]at h;simp only[Qz]at h |-;simp only[QI,Qc]at h hc;have aq:0<=x.elem/\x.elem<(k:Int):=by
    have:=QX.1 hc.1.1.2 x.elem (by simp);simpa using this
   have:=Int.mul_nonneg (a:=x.many) (b:=s.getD x.elem.toNat 0) ω (hs _ (zd ω)).1;omega
 rw[QC h5];simp
def zF4{T:List WF}:∀ {k:Nat} {s:List Int},YN T k=some s->s.length=k/\∀ y∈s,0<=y/\y<=1000
 |0,s,h=>by cases h;simp
 |k+1,s,h=>by
  unfold YN at h;cases hk:YN T k with
  |none=>rw[hk]at h;cases h
  |some s0=>
   rw[hk]at h;obtain⟨h1,h2⟩:=zF4 hk;simp only at h;split at h
   ·cases h;rename_i hm;refine⟨by simp[h1],fun y hy=> ?_⟩;rcases Qf.1 hy with hy|hy
    ·exact h2 y hy
    ·simp at hy;subst hy;exact zQ2 h2 h1 hm
   ·cases h
def zEm{T:List WF}:∀ {k m:Nat},YN T k=none->k<=m->YN T m=none
 |k,0,h,hm=>by have:k=0:=ω
               subst this;exact h
 |k,m+1,h,hm=>by
  by_cases e:k=m+1
  ·subst e;exact h
  ·unfold YN;rw[zEm h ω]
def zKF(h:WA)(tv:Value)(T:List WF)(st:BB h tv T)(hT:T.length<=100)(hp:∀ x∈T,x.parts.length<=100):
  G0 107 [tv] h fun r h'=>r=I (y8 T)/\WH h h':=by
 obtain⟨_,_,_,rfl⟩:=zD st;refine en ?_;refine VE (fun hb=> ?_) (fun hb=> ?_)<;>simp only[DB]at hb<;>refine go ?_
 ·refine rt ?_;refine⟨?_,WH.refl h⟩;unfold y8;rw[QJ ω];rfl
 have eK:¬16<T.length:=ω
 refine VD (fun i=>T.length-i) (fun i t h1=>WH h h1/\zC t 12=I i/\i<=T.length/\∃ v s,zC t 3=v/\YN T i=some s/\WP h h1 v s) 0 ?_ ?_
 ·exact⟨WH.refl _,WJ,QQ _,_,[],WJ,rfl,.inl ⟨rfl,rfl⟩⟩
 rintro i t h1 ab ⟨e1,mu,hi,v,s,s3,hs,o⟩;have bZ:=st.ext e1;obtain⟨hl,hr⟩:=zF4 hs;refine F0 ?_ ?_<;>intro hc<;>refine go ?_
 ·have af:i<T.length:=ω
  refine VA (zTj h1 _ v T i s bZ o.sl af hT hp hl hr) ?_;rintro _ h2 ⟨rfl,e2⟩;have o2:=o.ext e2;refine go ?_;have aL:YN T (i+1)=if(Zq T (T.getD i default) i s).2 then some (s++[(Zq T (T.getD i default) i s).1])else none:=by
   conv=>lhs;unfold YN
   rw[hs]
  refine VE (fun hd=> ?_) (fun hd=> ?_)<;>simp only[DB]at hd<;>refine go ?_
  ·refine rt ?_;refine⟨?_,e1.trans e2⟩;rw[hd,QC (by simp)]at aL;unfold y8;rw[QC eK,zEm aL ω];rfl
  ·refine WO.bl [(Zq T (T.getD i default) i s).1] ?_;intro v3 h3 e3 o3;refine go ?_;refine Vc (o2.ext e3) o3.sl ((e1.trans e2).trans e3) (by simp;omega) ?_;intro v4 h4 e4 o4;refine go ?_;rw[hd,QJ rfl]at aL;exact zA (i+1) ω ⟨e4,Wy,ω,_,_,WJ,aL,o4⟩
 ·refine rt ?_;refine⟨?_,e1⟩;have:i=T.length:=ω
  subst this;unfold y8;rw[QC eK,hs];rfl
structure Wu where
 op:Int
 ty:Int
 a:Int
 b:Int
 n:Int
 args:List Int
 frm:List Int
structure SK where
 kind:Int
 a:Int
 to:Int
 aK:Int
structure Wk where
 ins:List Wu
 fin:SK
structure We where
 sig:Int
 blocks:List Wk
instance:Inhabited Wu:=⟨⟨0,0,0,0,0,[],[]⟩⟩
instance:Inhabited Wk:=⟨⟨[],⟨0,0,0,0⟩⟩⟩
instance:Inhabited We:=⟨⟨0,[]⟩⟩
def Bn(h:WA)(cs:List Value)(x:Wu):Prop:=∃ va vf,cs=[.int .u8 x.op,I x.ty,I x.a,I x.b,I x.n,va,vf]/\Wc h va x.args/\Wc h vf x.frm/\(x.args.length:Int)<=1152921504606846976/\(x.frm.length:Int)<=1152921504606846976/\0<=x.op/\x.op<=255
def Bn.ext{h h' cs x}(r:Bn h cs x)(e:WH h h'):Bn h' cs x:=let⟨va,vf,a,b,c,d⟩:=r;⟨va,vf,a,b.ext e,c.ext e,d⟩
def SB(h:WA)(cs:List Value)(x:Wk):Prop:=∃ vi,cs=[vi,.int .u8 x.fin.kind,I x.fin.a,I x.fin.to,I x.fin.aK]/\W7 7 Bn h vi x.ins/\(x.ins.length:Int)<=1152921504606846976
def SB.ext{h h' cs x}(r:SB h cs x)(e:WH h h'):SB h' cs x:=let⟨va,a,b,c⟩:=r;⟨va,a,W7.ext (fun _ _ r=>Bn.ext r e) b e,c⟩
def RFn(h:WA)(cs:List Value)(x:We):Prop:=∃ vb,cs=[I x.sig,vb]/\W7 5 SB h vb x.blocks/\(x.blocks.length:Int)<=1152921504606846976
def RFn.ext{h h' cs x}(r:RFn h cs x)(e:WH h h'):RFn h' cs x:=let⟨va,a,b,c⟩:=r;⟨va,a,W7.ext (fun _ _ r=>SB.ext r e) b e,c⟩
abbrev Bx(h:WA)(v:Value)(l:List Wu):Prop:=W7 7 Bn h v l
abbrev Bb(h:WA)(v:Value)(l:List Wk):Prop:=W7 5 SB h v l
abbrev BA(h:WA)(v:Value)(l:List We):Prop:=W7 2 RFn h v l
def Bx.ext{h h' v T}(s:Bx h v T)(e:WH h h'):Bx h' v T:=W7.ext (fun _ _ r=>Bn.ext r e) s e
def Bb.ext{h h' v T}(s:Bb h v T)(e:WH h h'):Bb h' v T:=W7.ext (fun _ _ r=>SB.ext r e) s e
def BA.ext{h h' v T}(s:BA h v T)(e:WH h h'):BA h' v T:=W7.ext (fun _ _ r=>RFn.ext r e) s e
def yv{α:Type}[Inhabited α]{c:Nat}{R:WA->List Value->α->Prop}{h:WA}{v:Value}{T:List α}{i:Nat}(s:W7 c R h v T)(hi:i<T.length):∃ cs,R h cs (T.getD i default)/\Wv h v (i*c) cs/\zJQ v:=by
 obtain⟨cs,a,_,c⟩:=s.at hi;exact⟨cs,by simpa [List.getD,QB hi]using a,c,s.some hi⟩
def SA(h:WA):Prop:=z0 h 1=some Yi/\1<h.n
def SA.ext{h h'}(t:SA h)(e:WH h h'):SA h':=⟨e.row t.2 t.1,QG t.2 e.n⟩
def zT0:(cut Yi (0+0*6) 6).bind (zI true)=some (.agg (Yv (hasT.getD 0 (false,false,false,false,false,false))).toArray):=by kernel_rfl
def zUF:(cut Yi (0+1*6) 6).bind (zI true)=some (.agg (Yv (hasT.getD 1 (false,false,false,false,false,false))).toArray):=by kernel_rfl
def zVk:(cut Yi (0+2*6) 6).bind (zI true)=some (.agg (Yv (hasT.getD 2 (false,false,false,false,false,false))).toArray):=by kernel_rfl
def zVy:(cut Yi (0+3*6) 6).bind (zI true)=some (.agg (Yv (hasT.getD 3 (false,false,false,false,false,false))).toArray):=by kernel_rfl
def zVv:(cut Yi (0+4*6) 6).bind (zI true)=some (.agg (Yv (hasT.getD 4 (false,false,false,false,false,false))).toArray):=by kernel_rfl
def zVl:(cut Yi (0+5*6) 6).bind (zI true)=some (.agg (Yv (hasT.getD 5 (false,false,false,false,false,false))).toArray):=by kernel_rfl
def zVt:(cut Yi (0+6*6) 6).bind (zI true)=some (.agg (Yv (hasT.getD 6 (false,false,false,false,false,false))).toArray):=by kernel_rfl
def zVa:(cut Yi (0+7*6) 6).bind (zI true)=some (.agg (Yv (hasT.getD 7 (false,false,false,false,false,false))).toArray):=by kernel_rfl
def zVb:(cut Yi (0+8*6) 6).bind (zI true)=some (.agg (Yv (hasT.getD 8 (false,false,false,false,false,false))).toArray):=by kernel_rfl
def zVw:(cut Yi (0+9*6) 6).bind (zI true)=some (.agg (Yv (hasT.getD 9 (false,false,false,false,false,false))).toArray):=by kernel_rfl
def zU7:(cut Yi (0+10*6) 6).bind (zI true)=some (.agg (Yv (hasT.getD 10 (false,false,false,false,false,false))).toArray):=by kernel_rfl
def zU6:(cut Yi (0+11*6) 6).bind (zI true)=some (.agg (Yv (hasT.getD 11 (false,false,false,false,false,false))).toArray):=by kernel_rfl
def zVK:(cut Yi (0+12*6) 6).bind (zI true)=some (.agg (Yv (hasT.getD 12 (false,false,false,false,false,false))).toArray):=by kernel_rfl
def zUo:(cut Yi (0+13*6) 6).bind (zI true)=some (.agg (Yv (hasT.getD 13 (false,false,false,false,false,false))).toArray):=by kernel_rfl
def zUv:(cut Yi (0+14*6) 6).bind (zI true)=some (.agg (Yv (hasT.getD 14 (false,false,false,false,false,false))).toArray):=by kernel_rfl
def zVW:(cut Yi (0+15*6) 6).bind (zI true)=some (.agg (Yv (hasT.getD 15 (false,false,false,false,false,false))).toArray):=by kernel_rfl
def zUr:(cut Yi (0+16*6) 6).bind (zI true)=some (.agg (Yv (hasT.getD 16 (false,false,false,false,false,false))).toArray):=by kernel_rfl
def zVV:(cut Yi (0+17*6) 6).bind (zI true)=some (.agg (Yv (hasT.getD 17 (false,false,false,false,false,false))).toArray):=by kernel_rfl
def zVO:(cut Yi (0+18*6) 6).bind (zI true)=some (.agg (Yv (hasT.getD 18 (false,false,false,false,false,false))).toArray):=by kernel_rfl
def zVQ:(cut Yi (0+19*6) 6).bind (zI true)=some (.agg (Yv (hasT.getD 19 (false,false,false,false,false,false))).toArray):=by kernel_rfl
def zVT:(cut Yi (0+20*6) 6).bind (zI true)=some (.agg (Yv (hasT.getD 20 (false,false,false,false,false,false))).toArray):=by kernel_rfl
def zU5:(cut Yi (0+21*6) 6).bind (zI true)=some (.agg (Yv (hasT.getD 21 (false,false,false,false,false,false))).toArray):=by kernel_rfl
def zVP:(cut Yi (0+22*6) 6).bind (zI true)=some (.agg (Yv (hasT.getD 22 (false,false,false,false,false,false))).toArray):=by kernel_rfl
def zTs:∀ i,i<23->(cut Yi (0+i*6) 6).bind (zI true)=some (.agg (Yv (hasT.getD i (false,false,false,false,false,false))).toArray):=by
 intro i hi;match i,hi with
 |0,_=>exact zT0
 |1,_=>exact zUF
 |2,_=>exact zVk
 |3,_=>exact zVy
 |4,_=>exact zVv
 |5,_=>exact zVl
 |6,_=>exact zVt
 |7,_=>exact zVa
 |8,_=>exact zVb
 |9,_=>exact zVw
 |10,_=>exact zU7
 |11,_=>exact zU6
 |12,_=>exact zVK
 |13,_=>exact zUo
 |14,_=>exact zUv
 |15,_=>exact zVW
 |16,_=>exact zUr
 |17,_=>exact zVV
 |18,_=>exact zVO
 |19,_=>exact zVQ
 |20,_=>exact zVT
 |21,_=>exact zU5
 |22,_=>exact zVP
 |n+23,h=>exact absurd h ω
def zp(n m:Int):Bool:=decide (0<=n)&&decide (n<m)
def zGr(l:List Int)(m:Int):Bool:=l.all fun n=>zp n m
structure SP where
 types:Int
 funcs:Int
 a7:Int
 blocks:Int
def zAs(x:Wu)(s:SP):Bool:=
 if x.op=3\/x.op=18 then decide (0<=x.n)&&decide (x.n<s.funcs)else if x.op=14 then decide (0<=x.n)&&decide (x.n<8)else true
def zL(l:List Wk):Int:=(l.map fun b=>(b.ins.length:Int)).sum
def zB6(x:SK)(s:SP):Bool:=
 if x.kind=1 then(decide (x.a=0)&&decide (x.aK=0))&&zp x.to s.blocks
 else if x.kind=2 then zp x.a s.a7&&zp x.to s.blocks&&zp x.aK s.blocks
 else if x.kind=3 then(decide (x.to=0)&&decide (x.aK=0))&&zp x.a s.a7
 else false
def zRy(x:Wu)(s:SP):Bool:=
 let q:=zl x.op
 ((((decide (q=(false,false,false,false,false,false))||(q.1&& !zp x.a s.a7))||(q.2.1&& !zp x.b s.a7))|| !zGr x.args s.a7)|| !zAs x s)
def zMZ(x:Wu):Bool:=
 let q:=zl x.op
 ((((!q.1&& !decide (x.a=0))||(!q.2.1&& !decide (x.b=0)))||(!q.2.2.1&& !decide (x.n=0)))||(!q.2.2.2.1&&decide (0<(x.args.length:Int))))||(!q.2.2.2.2.1&&decide (0<(x.frm.length:Int)))
def zMw(x:Wu)(s:SP):Bool:=
 let q:=zl x.op
 (q.2.2.2.2.2&&zp x.ty s.types)||(!q.2.2.2.2.2&&decide (x.ty=0))
def zDK(x:Wu)(s:SP):Bool:=
 !zRy x s&&(if(zl x.op).2.2.2.2.1 then !zMZ x&&zMw x s&&zGr x.frm s.blocks&&decide (x.frm.length=x.args.length)&&decide (1<=x.frm.length)&&decide (x.frm.length<=16)else !zMZ x&&zMw x s&&decide (x.args.length<=4))
def zD4(b:Wk)(s:SP):Bool:=(b.ins.any fun x=> !zDK x s)|| !zB6 b.fin s
def szL(T:List WF)(nf:Int)(f:We):SP:=⟨T.length,nf,((T.getD f.sig.toNat default).parts.length:Int)+zL f.blocks,f.blocks.length⟩
def zDM(T:List WF)(f:We):Bool:=
 (((!zp f.sig T.length|| !decide ((T.getD f.sig.toNat default).kind=3))|| !zp ((f.blocks.length:Int)-1) 16)||decide (128<zL f.blocks))
def B8(T:List WF)(nf:Int)(f:We):Bool:=if zDM T f then false else !(f.blocks.any fun b=>zD4 b (szL T nf f))
def Yl(T:List WF)(F:List We):Int:=
 if y8 T≠0 then y8 T else if(!zp ((F.length:Int)-1) 8||F.any fun f=> !B8 T F.length f)then 60 else 0
def ZW(T:List WF)(F:List We)(f:Int):Int×Int:=
 if Yl T F≠0 then(0,Yl T F)else if zp f F.length then(((T.getD (F.getD f.toNat default).sig.toNat default).parts.length:Int),0)else(0,2)
def zAc(T:List WF)(F:List We)(f:Int):Int×Int:=
 if(ZW T F f).2≠0 then(0,(ZW T F f).2)else((ZW T F f).1+zL (F.getD f.toNat default).blocks,0)
structure Bd(T:List WF)(F:List We):Prop where
 types:T.length<=100
 parts:∀ x∈T,x.parts.length<=100
 funcs:F.length<=1000
 blocks:∀ f∈F,f.blocks.length<=1000
 ins:∀ f∈F,∀ b∈f.blocks,b.ins.length<=1000
def ZN(h:WA)(n m:Int):G0 108 [I n,I m] h fun r h'=>r=.bool (zp n m)/\h=h':=by
 refine en ?_;repeat' (first|(refine VE (fun hb=> ?_) (fun hb=> ?_)<;>(try simp only[DB]at hb)<;>refine go ?_)|(refine VI (fun hb=> ?_) (fun hb=> ?_)<;>(try simp only[DB]at hb)<;>refine go ?_))
 all_goals (refine rt ?_;exact⟨by simp[one,zp, *]<;>omega,rfl⟩)
def zSl(h h0:WA)(p:Value)(n m:Int)(o:WB h0 h p [I m]):G0 260 [I n,p] h fun r h'=>r=.bool (!zp n m)/\WH h h':=by
 refine en ?_;refine VA (ZN h n m) ?_;rintro _ _ ⟨rfl,rfl⟩;refine gr ?_;exact⟨rfl,WH.refl h⟩
def zPl(h:WA)(v:Value)(m:Int)(l:List Int)(s:Wc h v l)(hl:(l.length:Int)<=9223372036854775807):G0 214 [v,I m] h fun r h'=>r=.bool (zGr l m)/\WH h h':=by
 refine en ?_;refine VH ?_;intro p h1 e1 o1;have s1:=s.ext e1;refine go ?_;refine VA (zAi h1 v _ l (fun n=> !zp n m) s1 hl ?_) ?_
 ·intro x hx h2 e2;exact WV.func (zSl h2 h p x m (o1.ext e2))
 rintro _ h2 ⟨rfl,e2⟩;refine gr ?_;refine⟨?_,e1.trans e2⟩;show Value.bool _=_;rw[List.not_any_eq_all_not];simp[zGr]
def zNh(h:WA)(x:Wu)(va vf:Value)(s:SP):
  G0 215 [.agg #[.int .u8 x.op,I x.ty,I x.a,I x.b,I x.n,va,vf],.agg #[I s.types,I s.funcs,I s.a7,I s.blocks]] h fun r h'=>r=.bool (zAs x s)/\WH h h':=by
 refine en ?_;refine VH ?_;intro p2 h1 e1 o1;refine VH ?_;intro p3 h2 e2 o2;have o1:=o1.ext e2;refine go ?_;repeat' (first|(refine VE (fun hb=> ?_) (fun hb=> ?_)<;>(try simp only[DB]at hb)<;>refine go ?_)|(refine VI (fun hb=> ?_) (fun hb=> ?_)<;>(try simp only[DB]at hb)<;>refine go ?_))
 all_goals (refine rt ?_;exact⟨by simp[one,zAs, *]<;>omega,e1.trans e2⟩)
def zP1(h:WA)(op:Int)(tb:SA h)(h0:0<=op)(LO:op<=255):
  WC Tryz.prog Go.Proofs.YtndffgfnndoifaaGreatDoor.tb 213 [.int .u8 op] h fun r h'=>r=.agg (Yv (zl op)).toArray/\WH h h':=by
 refine en ?_;refine WO.al ?_;intro p h1 e1 o1;have t1:=(tb.ext e1).1;refine F0 ?_ ?_<;>intro hb
 ·have ht:=zTs op.toNat ω;obtain⟨i,rfl⟩:∃ i:Nat,op=i:=⟨op.toNat,ω⟩;rw[QZ]at ht;refine go ?_;refine VG o1 e1 ?_;intro h2 e2 o2 _;refine gr ?_;exact⟨rfl,e2⟩
 ·refine go ?_;refine VG o1 e1 ?_;intro h2 e2 o2 _;refine gr ?_;refine⟨?_,e2⟩;unfold zl;have hl:hasT.length<=op.toNat:=by simp[hasT];omega
  rw[QD,JL hl];rfl
def zIL(h:WA)(sig:Int)(vb:Value)(l:List Wk)(s:Bb h vb l)(hl:l.length<=1000)(hb:∀ b∈l,b.ins.length<=1000):
  G0 117 [.agg #[I sig,vb]] h fun r h'=>r=I (zL l)/\WH h h':=by
 refine en ?_;refine VH ?_;intro p h1 e1 o1;have s1:=s.ext e1;refine go ?_;refine VD (fun i=>l.length-i) (fun i t h2=>WH h1 h2/\zC t 8=I i/\i<=l.length/\zC t 2=I (zL (l.take i))/\0<=zL (l.take i)/\zL (l.take i)<=1000*i) 0 ?_ ?_
 ·exact⟨WH.refl _,WJ,QQ _,WJ,by simp[zL],by simp[zL]⟩
 rintro i t h2 ab ⟨e2,s8,hi,s2,hm,hn⟩;have s3:=s1.ext e2;refine F0 ?_ ?_<;>intro hc
 ·have af:i<l.length:=ω
  obtain⟨cs,⟨vi,rfl,si,sq⟩,pc,hs⟩:=yv s3 af;obtain⟨_,_,_,rfl⟩:=zD si;have xI:(l.getD i default).ins.length<=1000:=hb _ (by simp[List.getD,QB af]);refine go ?_;refine WO.al ?_;intro p4 h3 e3 o3;refine VG o3 e3 ?_;intro h4 e4 o4 _;have si:=Bx.ext si e4;refine go ?_;have e:zL (l.take (i+1))=zL (l.take i)+((l.getD i default).ins.length:Int):=by
   unfold zL;rw[GF,Q5,Gs];simp[List.getD,QB af]
  exact zA (i+1) ω ⟨e2.trans e4,Wy,ω,by rw[e];exact WJ,ω,ω⟩
 ·refine gr ?_;have:i=l.length:=ω
  subst this;exact⟨by simp[one],e1.trans e2⟩
def zTh(h:WA)(x:SK)(s:SP):
  G0 166 [.agg #[.int .u8 x.kind,I x.a,I x.to,I x.aK],.agg #[I s.types,I s.funcs,I s.a7,I s.blocks]] h fun r h'=>r=.bool (zB6 x s)/\WH h h':=by
 refine en ?_;refine VH ?_;intro p2 h1 e1 o1;refine VH ?_;intro p3 h2 e2 o2;have o1:=o1.ext e2;refine F0 ?_ ?_<;>intro hb<;>refine go ?_
 ·refine V2 (zLB (xs:=#[.int .u8 x.kind,I x.a,I x.to,I x.aK]) (ys:=#[.int .u8 x.kind,I 0,I x.to,I 0]) (b:=decide (x.a=0)&&decide (x.aK=0)) (by kernel_rfl) (by simp[zD1,zGu,I];rw[GX];simp)) ?_;refine go ?_;refine VI (fun hc=> ?_) (fun hc=> ?_)<;>refine go ?_
  ·refine VA (ZN h2 x.to s.blocks) ?_;rintro _ _ ⟨rfl,rfl⟩;refine gr ?_;exact⟨by simp only[zB6,QJ hb,hc,Qh];rfl,e1.trans e2⟩
  ·refine rt ?_;exact⟨by simp only[zB6,QJ hb,hc,Qj];rfl,e1.trans e2⟩
 refine VE (fun aI=> ?_) (fun aI=> ?_)<;>simp only[DB]at aI<;>refine go ?_
 ·refine VA (ZN h2 x.a s.a7) ?_;rintro _ _ ⟨rfl,rfl⟩;refine go ?_;refine VI (fun hc=> ?_) (fun hc=> ?_)<;>refine go ?_
  ·refine VA (ZN h2 x.to s.blocks) ?_;rintro _ _ ⟨rfl,rfl⟩;refine go ?_;refine VI (fun hd=> ?_) (fun hd=> ?_)<;>refine go ?_
   ·refine VA (ZN h2 x.aK s.blocks) ?_;rintro _ _ ⟨rfl,rfl⟩;refine gr ?_;exact⟨by simp only[zB6,QC hb,QJ aI,hc,hd,Qh];rfl,e1.trans e2⟩
   ·refine rt ?_;exact⟨by simp only[zB6,QC hb,QJ aI,hc,hd,Qh,Qj];rfl,e1.trans e2⟩
  ·refine rt ?_;exact⟨by simp only[zB6,QC hb,QJ aI,hc,Qh,Qj];rfl,e1.trans e2⟩
 refine VE (fun fR=> ?_) (fun fR=> ?_)<;>simp only[DB]at fR<;>refine go ?_
 ·refine V2 (zLB (xs:=#[.int .u8 x.kind,I x.a,I x.to,I x.aK]) (ys:=#[.int .u8 x.kind,I x.a,I 0,I 0]) (b:=decide (x.to=0)&&decide (x.aK=0)) (by kernel_rfl) (by simp[zD1,zGu,I];rw[GX];simp)) ?_;refine go ?_;refine VI (fun hc=> ?_) (fun hc=> ?_)<;>refine go ?_
  ·refine VA (ZN h2 x.a s.a7) ?_;rintro _ _ ⟨rfl,rfl⟩;refine gr ?_;exact⟨by simp only[zB6,QC hb,QC aI,QJ fR,hc,Qh];rfl,e1.trans e2⟩
  ·refine rt ?_;exact⟨by simp only[zB6,QC hb,QC aI,QJ fR,hc,Qj];rfl,e1.trans e2⟩
 ·refine rt ?_;exact⟨by simp only[zB6,QC hb,QC aI,QC fR];rfl,e1.trans e2⟩
def zUT(h:WA)(x:Wu)(va vf:Value)(s:SP)(T:SA h)(sa:Wc h va x.args)(sf:Wc h vf x.frm)(dP:(x.args.length:Int)<=9223372036854775807)(mw:(x.frm.length:Int)<=9223372036854775807)(ho:0<=x.op/\x.op<=255):
  G0 162 [.agg #[.int .u8 x.op,I x.ty,I x.a,I x.b,I x.n,va,vf],.agg #[I s.types,I s.funcs,I s.a7,I s.blocks]] h fun r h'=>r=.bool (zDK x s)/\WH h h':=by
 refine en ?_;refine VH ?_;intro p2 h1 e1 o1;refine VH ?_;intro p3 h2 e2 o2;have o1:=o1.ext e2;have T2:=(T.ext e1).ext e2;refine go ?_;refine VA (zP1 h2 x.op T2 ho.1 ho.2) ?_;rintro _ h3 ⟨rfl,e3⟩;refine go ?_;refine WO.al ?_;intro p5 h4 e4 o5;refine VG o5 e4 ?_;intro h5 e5 o5 _;have o1:=(o1.ext e3).ext e5;have o2:=(o2.ext e3).ext e5;have cH:=((e1.trans e2).trans e3).trans e5;have xJ:=sa.ext cH;have uF:=sf.ext cH;have bm:zDK x s=zDK x s:=rfl;conv at bm=>rhs;unfold zDK zRy zMZ zMw
 generalize hq:zl x.op=q at *;obtain⟨qa,qb,qn,qg,qf,qw⟩:=q;simp only at bm;refine go ?_;refine V2 (zLB (xs:=#[.bool qa,.bool qb,.bool qn,.bool qg,.bool qf,.bool qw]) (ys:=#[.bool false,.bool false,.bool false,.bool false,.bool false,.bool false]) (b:=decide ((qa,qb,qn,qg,qf,qw)=(false,false,false,false,false,false))) (by kernel_rfl) (by cases qa<;>cases qb<;>cases qn<;>cases qg<;>cases qf<;>cases qw<;>rfl)) ?_;replace o5:WB h3 h5 p5 [.bool qa,.bool qb,.bool qn,.bool qg,.bool qf,.bool qw]:=o5;obtain⟨c0,a8⟩:∃ c:Bool,c=decide ((qa,qb,qn,qg,qf,qw)=(false,false,false,false,false,false)):=⟨_,rfl⟩;rw[<-a8]at bm;rw[<-a8];refine VV 12 (fun t' h'=>h5=h'/\zC t' 25=.bool (c0||(qa&& !zp x.a s.a7))) ?_ ?_<;>simp only[Qv,GK,GZ,GI]
 ·refine go ?_;refine VI (fun hc=> ?_) (fun hc=> ?_)<;>refine go ?_
  ·exact⟨rfl,rfl,rfl,by simp only[hc,Qh,Qj,Qo,Qq,Qu,Qx,Q0,Q7,Qe,Ql];exact WJ⟩
  refine VI (fun hd=> ?_) (fun hd=> ?_)<;>(try simp only[DB]at hd)<;>refine go ?_
  ·refine VA (ZN h5 x.a s.a7) ?_;rintro _ _ ⟨rfl,rfl⟩;refine go ?_;exact⟨rfl,rfl,rfl,by simp only[hc,hd,Qh,Qj,Qo,Qq,Qu,Qx,Q0,Q7,Qe,Ql];exact WJ⟩
  ·exact⟨rfl,rfl,rfl,by simp only[hc,hd,Qh,Qj,Qo,Qq,Qu,Qx,Q0,Q7,Qe,Ql];exact WJ⟩
 rintro t1 _ iQ ⟨rfl,LP⟩;obtain⟨c1,pt⟩:∃ c:Bool,c=(c0||(qa&& !zp x.a s.a7)):=⟨_,rfl⟩;rw[<-pt]at LP bm;refine VV 12 (fun t' h'=>h5=h'/\zC t' 37=.bool (c1||(qb&& !zp x.b s.a7))) ?_ ?_<;>simp only[Qv,GK,GZ,GI]
 ·refine go ?_;refine VI (fun hc=> ?_) (fun hc=> ?_)<;>refine go ?_
  ·exact⟨rfl,rfl,rfl,by simp only[hc,Qh,Qj,Qo,Qq,Qu,Qx,Q0,Q7,Qe,Ql];exact WJ⟩
  refine VI (fun hd=> ?_) (fun hd=> ?_)<;>(try simp only[DB]at hd)<;>refine go ?_
  ·refine VA (ZN h5 x.b s.a7) ?_;rintro _ _ ⟨rfl,rfl⟩;refine go ?_;exact⟨rfl,rfl,rfl,by simp only[hc,hd,Qh,Qj,Qo,Qq,Qu,Qx,Q0,Q7,Qe,Ql];exact WJ⟩
  ·exact⟨rfl,rfl,rfl,by simp only[hc,hd,Qh,Qj,Qo,Qq,Qu,Qx,Q0,Q7,Qe,Ql];exact WJ⟩
 rintro t2 _ jh ⟨rfl,LQ⟩;obtain⟨c2,fc⟩:∃ c:Bool,c=(c1||(qb&& !zp x.b s.a7)):=⟨_,rfl⟩;rw[<-fc]at LQ bm;refine VV 8 (fun t' h'=>WH h5 h'/\zC t' 45=.bool (c2|| !zGr x.args s.a7)) ?_ ?_<;>simp only[Qv,GK,GZ,GI]
 ·refine go ?_;refine VI (fun hc=> ?_) (fun hc=> ?_)<;>refine go ?_
  ·exact⟨rfl,rfl,WH.refl _,by simp only[hc,Qh,Qj,Qo,Qq,Qu,Qx,Q0,Q7,Qe,Ql];exact WJ⟩
  refine VA (zPl h5 va s.a7 x.args xJ dP) ?_;rintro _ h6 ⟨rfl,e6⟩;refine go ?_;exact⟨rfl,rfl,e6,by simp only[hc,Qh,Qj,Qo,Qq,Qu,Qx,Q0,Q7,Qe,Ql];exact WJ⟩
 rintro t3 h6 xG ⟨e6,LR⟩;obtain⟨c3,A8⟩:∃ c:Bool,c=(c2|| !zGr x.args s.a7):=⟨_,rfl⟩;rw[<-A8]at LR bm;have o1:=o1.ext e6;have o2:=o2.ext e6;have o5:=o5.ext e6;have xK:=xJ.ext e6;have HQ:=uF.ext e6;have dD:=cH.trans e6;refine VV 6 (fun t' h'=>WH h6 h'/\zC t' 51=.bool (c3|| !zAs x s)) ?_ ?_<;>simp only[Qv,GK,GZ,GI]
 ·refine go ?_;refine VI (fun hc=> ?_) (fun hc=> ?_)<;>refine go ?_
  ·exact⟨rfl,rfl,WH.refl _,by simp only[hc,Qh,Qj,Qo,Qq,Qu,Qx,Q0,Q7,Qe,Ql];exact WJ⟩
  refine VA (zNh h6 x va vf s) ?_;rintro _ h7 ⟨rfl,e7⟩;refine go ?_;exact⟨rfl,rfl,e7,by simp only[hc,Qh,Qj,Qo,Qq,Qu,Qx,Q0,Q7,Qe,Ql];exact WJ⟩
 rintro t4 h7 HR ⟨e7,xL⟩;obtain⟨c4,A9⟩:∃ c:Bool,c=(c3|| !zAs x s):=⟨_,rfl⟩;rw[<-A9]at xL bm;have o1:=o1.ext e7;have o2:=o2.ext e7;have o5:=o5.ext e7;have LS:=xK.ext e7;have HT:=HQ.ext e7;have eU:=dD.trans e7;refine go ?_;refine VE (fun hz=> ?_) (fun hz=> ?_)<;>rw[hz]at bm
 ·refine gr ?_;exact⟨by rw[bm];rfl,eU⟩
 refine goC ?_;refine goC ?_;refine VV 8 (fun t' h'=>h7=h'/\zC t' 59=.bool (!qa&& !decide (x.a=0))) ?_ ?_<;>simp only[Qv,GK,GZ,GI]
 ·refine go ?_;refine VI (fun hd=> ?_) (fun hd=> ?_)<;>(try simp only[DB]at hd)<;>refine go ?_
  ·exact⟨rfl,rfl,rfl,by simp only[hd,Qh,Qj,Qo,Qq,Qu,Qx,Q0,Q7,Qe,Ql];exact WJ⟩
  ·exact⟨rfl,rfl,rfl,by simp only[hd,Qh,Qj,Qo,Qq,Qu,Qx,Q0,Q7,Qe,Ql];exact WJ⟩
 rintro t5 _ xM ⟨rfl,LU⟩;obtain⟨d0,hd0⟩:∃ c:Bool,c=(!qa&& !decide (x.a=0)):=⟨_,rfl⟩;rw[<-hd0]at LU bm;refine goC ?_;refine VV 10 (fun t' h'=>h7=h'/\zC t' 69=.bool (d0||(!qb&& !decide (x.b=0)))) ?_ ?_<;>simp only[Qv,GK,GZ,GI]
 ·refine go ?_;refine VI (fun hc=> ?_) (fun hc=> ?_)<;>refine go ?_
  ·exact⟨rfl,rfl,rfl,by simp only[hc,Qh,Qj,Qo,Qq,Qu,Qx,Q0,Q7,Qe,Ql];exact WJ⟩
  refine VI (fun hd=> ?_) (fun hd=> ?_)<;>(try simp only[DB]at hd)<;>refine go ?_
  ·exact⟨rfl,rfl,rfl,by simp only[hc,hd,Qh,Qj,Qo,Qq,Qu,Qx,Q0,Q7,Qe,Ql];exact WJ⟩
  ·exact⟨rfl,rfl,rfl,by simp only[hc,hd,Qh,Qj,Qo,Qq,Qu,Qx,Q0,Q7,Qe,Ql];exact WJ⟩
 rintro t6 _ xN ⟨rfl,LV⟩;obtain⟨d1,hd1⟩:∃ c:Bool,c=(d0||(!qb&& !decide (x.b=0))):=⟨_,rfl⟩;rw[<-hd1]at LV bm;refine goC ?_;refine VV 10 (fun t' h'=>h7=h'/\zC t' 79=.bool (d1||(!qn&& !decide (x.n=0)))) ?_ ?_<;>simp only[Qv,GK,GZ,GI]
 ·refine go ?_;refine VI (fun hc=> ?_) (fun hc=> ?_)<;>refine go ?_
  ·exact⟨rfl,rfl,rfl,by simp only[hc,Qh,Qj,Qo,Qq,Qu,Qx,Q0,Q7,Qe,Ql];exact WJ⟩
  refine VI (fun hd=> ?_) (fun hd=> ?_)<;>(try simp only[DB]at hd)<;>refine go ?_
  ·exact⟨rfl,rfl,rfl,by simp only[hc,hd,Qh,Qj,Qo,Qq,Qu,Qx,Q0,Q7,Qe,Ql];exact WJ⟩
  ·exact⟨rfl,rfl,rfl,by simp only[hc,hd,Qh,Qj,Qo,Qq,Qu,Qx,Q0,Q7,Qe,Ql];exact WJ⟩
 rintro t7 _ C8 ⟨rfl,LW⟩;obtain⟨d2,pK⟩:∃ c:Bool,c=(d1||(!qn&& !decide (x.n=0))):=⟨_,rfl⟩;rw[<-pK]at LW bm;refine goC ?_;refine VV 11 (fun t' h'=>h7=h'/\zC t' 90=.bool (d2||(!qg&&decide (0<(x.args.length:Int))))) ?_ ?_<;>simp only[Qv,GK,GZ,GI]
 ·refine go ?_;refine VI (fun hc=> ?_) (fun hc=> ?_)<;>refine go ?_
  ·exact⟨rfl,rfl,rfl,by simp only[hc,Qh,Qj,Qo,Qq,Qu,Qx,Q0,Q7,Qe,Ql];exact WJ⟩
  refine VI (fun hd=> ?_) (fun hd=> ?_)<;>(try simp only[DB]at hd)<;>refine go ?_
  ·exact⟨rfl,rfl,rfl,by simp only[hc,hd,Qh,Qj,Qo,Qq,Qu,Qx,Q0,Q7,Qe,Ql];exact WJ⟩
  ·exact⟨rfl,rfl,rfl,by simp only[hc,hd,Qh,Qj,Qo,Qq,Qu,Qx,Q0,Q7,Qe,Ql];exact WJ⟩
 rintro t8 _ xO ⟨rfl,LX⟩;obtain⟨d3,LY⟩:∃ c:Bool,c=(d2||(!qg&&decide (0<(x.args.length:Int)))):=⟨_,rfl⟩;rw[<-LY]at LX bm;refine goC ?_;refine VV 12 (fun t' h'=>h7=h'/\zC t' 6=.bool (d3||(!qf&&decide (0<(x.frm.length:Int))))) ?_ ?_<;>simp only[Qv,GK,GZ,GI]
 ·refine go ?_;refine VI (fun hc=> ?_) (fun hc=> ?_)<;>refine go ?_
  ·exact⟨rfl,rfl,rfl,by simp only[hc,Qh,Qj,Qo,Qq,Qu,Qx,Q0,Q7,Qe,Ql];exact WJ⟩
  refine VI (fun hd=> ?_) (fun hd=> ?_)<;>(try simp only[DB]at hd)<;>refine go ?_
  ·exact⟨rfl,rfl,rfl,by simp only[hc,hd,Qh,Qj,Qo,Qq,Qu,Qx,Q0,Q7,Qe,Ql];exact WJ⟩
  ·exact⟨rfl,rfl,rfl,by simp only[hc,hd,Qh,Qj,Qo,Qq,Qu,Qx,Q0,Q7,Qe,Ql];exact WJ⟩
 rintro t9 _ LZ ⟨rfl,s6⟩;obtain⟨d4,L0⟩:∃ c:Bool,c=(d3||(!qf&&decide (0<(x.frm.length:Int)))):=⟨_,rfl⟩;rw[<-L0]at s6 bm;refine goC ?_;refine VV 9 (fun t' h'=>h7=h'/\zC t' 110=.bool (qw&&zp x.ty s.types)) ?_ ?_<;>simp only[Qv,GK,GZ,GI]
 ·refine go ?_;refine VI (fun hd=> ?_) (fun hd=> ?_)<;>(try simp only[DB]at hd)<;>refine go ?_
  ·refine VA (ZN h7 x.ty s.types) ?_;rintro _ _ ⟨rfl,rfl⟩;refine go ?_;exact⟨rfl,rfl,rfl,by simp only[hd,Qh,Qj,Qo,Qq,Qu,Qx,Q0,Q7,Qe,Ql];exact WJ⟩
  ·exact⟨rfl,rfl,rfl,by simp only[hd,Qh,Qj,Qo,Qq,Qu,Qx,Q0,Q7,Qe,Ql];exact WJ⟩
 rintro L3 _ C9 ⟨rfl,Da⟩;obtain⟨k0,kN⟩:∃ c:Bool,c=(qw&&zp x.ty s.types):=⟨_,rfl⟩;rw[<-kN]at Da bm;refine goC ?_;refine VV 11 (fun t' h'=>h7=h'/\zC t' 7=.bool (k0||(!qw&&decide (x.ty=0)))) ?_ ?_<;>simp only[Qv,GK,GZ,GI]
 ·refine go ?_;refine VI (fun hc=> ?_) (fun hc=> ?_)<;>refine go ?_
  ·exact⟨rfl,rfl,rfl,by simp only[hc,Qh,Qj,Qo,Qq,Qu,Qx,Q0,Q7,Qe,Ql];exact WJ⟩
  refine VI (fun hd=> ?_) (fun hd=> ?_)<;>(try simp only[DB]at hd)<;>refine go ?_
  ·exact⟨rfl,rfl,rfl,by simp only[hc,hd,Qh,Qj,Qo,Qq,Qu,Qx,Q0,Q7,Qe,Ql];exact WJ⟩
  ·exact⟨rfl,rfl,rfl,by simp only[hc,hd,Qh,Qj,Qo,Qq,Qu,Qx,Q0,Q7,Qe,Ql];exact WJ⟩
 rintro SZ _ L4 ⟨rfl,s7⟩;obtain⟨k1,cV⟩:∃ c:Bool,c=(k0||(!qw&&decide (x.ty=0))):=⟨_,rfl⟩;rw[<-cV]at s7 bm;refine go ?_;refine VE (fun hf=> ?_) (fun hf=> ?_)<;>rw[hf]at bm<;>refine go ?_
 ·refine VI (fun hd=> ?_) (fun hd=> ?_)<;>(try simp only[DB]at hd)<;>refine go ?_
  ·refine VI (fun he=> ?_) (fun he=> ?_)<;>refine go ?_
   ·refine VA (zPl h7 vf s.blocks x.frm HT mw) ?_;rintro _ h8 ⟨rfl,e8⟩;have o1:=o1.ext e8;have S7:=LS.ext e8;have S9:=HT.ext e8;refine go ?_;refine VI (fun hg=> ?_) (fun hg=> ?_)<;>refine go ?_
    ·refine VI (fun hh=> ?_) (fun hh=> ?_)<;>simp only[DB]at hh<;>refine go ?_
     ·refine VI (fun hi=> ?_) (fun hi=> ?_)<;>simp only[DB]at hi<;>refine go ?_
      ·refine rt ?_;refine⟨?_,eU.trans e8⟩;have qi:decide ((x.frm.length:Int)<=16)=decide (x.frm.length<=16):=by rw[GX];simp only[Qc];omega
       rw[qi,bm,hd,he,hg,Qa (show x.frm.length=x.args.length by omega),Qa (show 1<=x.frm.length by omega)];rfl
      ·refine rt ?_;refine⟨?_,eU.trans e8⟩;rw[bm,hd,he,hg,Qa (show x.frm.length=x.args.length by omega),QY (show ¬1<=x.frm.length by omega)];rfl
     ·refine rt ?_;refine⟨?_,eU.trans e8⟩;rw[bm,hd,he,hg,QY (show ¬x.frm.length=x.args.length by omega)];rfl
    ·refine rt ?_;refine⟨?_,eU.trans e8⟩;rw[bm,hd,he,hg];rfl
   ·refine rt ?_;refine⟨?_,eU⟩;rw[bm,hd,he];rfl
  ·refine rt ?_;refine⟨?_,eU⟩;rw[bm,hd];rfl
 ·refine VI (fun hd=> ?_) (fun hd=> ?_)<;>(try simp only[DB]at hd)<;>refine go ?_
  ·refine VI (fun he=> ?_) (fun he=> ?_)<;>refine go ?_
   ·refine rt ?_;refine⟨?_,eU⟩;have qi:decide ((x.args.length:Int)<=4)=decide (x.args.length<=4):=by rw[GX];simp only[Qc];omega
    rw[qi,bm,hd,he];rfl
   ·refine rt ?_;refine⟨?_,eU⟩;rw[bm,hd,he];rfl
  ·refine rt ?_;refine⟨?_,eU⟩;rw[bm,hd];rfl
end Go.Proofs.YtndffgfnndoifaaGreatDoor
