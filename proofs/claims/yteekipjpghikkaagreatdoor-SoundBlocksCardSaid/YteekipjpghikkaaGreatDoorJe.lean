/- What functions of the program come to in the abstract machine, and plain laws about it; no statement of the seat is proved in this text. -/
import Derived.Test.YteekipjpghikkaaGreatDoorJd
set_option linter.unusedVariables false
set_option linter.unusedSimpArgs false
set_option maxHeartbeats 1000000
namespace Go.Proofs.YteekipjpghikkaaGreatDoor
noncomputable section
open Go.Am
set_option maxRecDepth 100000 in
theorem zOy:∀ i:Nat,i<256->(match (⟨#[0,1,2,2,3,3,3,3,4,4,4,4,4,4,4,4,5,5,5,5,5,5,5,5,5,5,5,5,5,5,5,5,6,6,6,6,6,6,6,6,6,6,6,6,6,6,6,6,6,6,6,6,6,6,6,6,6,6,6,6,6,6,6,6,7,7,7,7,7,7,7,7,7,7,7,7,7,7,7,7,7,7,7,7,7,7,7,7,7,7,7,7,7,7,7,7,7,7,7,7,7,7,7,7,7,7,7,7,7,7,7,7,7,7,7,7,7,7,7,7,7,7,7,7,7,7,7,7,8,8,8,8,8,8,8,8,8,8,8,8,8,8,8,8,8,8,8,8,8,8,8,8,8,8,8,8,8,8,8,8,8,8,8,8,8,8,8,8,8,8,8,8,8,8,8,8,8,8,8,8,8,8,8,8,8,8,8,8,8,8,8,8,8,8,8,8,8,8,8,8,8,8,8,8,8,8,8,8,8,8,8,8,8,8,8,8,8,8,8,8,8,8,8,8,8,8,8,8,8,8,8,8,8,8,8,8,8,8,8,8,8,8,8,8,8,8,8,8,8,8,8,8,8,8,8,8]⟩:ByteArray)[i]? with|some b=>Nat.ble b.toNat 8&&(Nat.beq i 0||Nat.ble (2 ^ b.toNat) (2 * i))|none=>false)=true:=by decide+kernel
theorem zSJ {i:Nat} (h:i<256):∃ b:UInt8,(⟨#[0,1,2,2,3,3,3,3,4,4,4,4,4,4,4,4,5,5,5,5,5,5,5,5,5,5,5,5,5,5,5,5,6,6,6,6,6,6,6,6,6,6,6,6,6,6,6,6,6,6,6,6,6,6,6,6,6,6,6,6,6,6,6,6,7,7,7,7,7,7,7,7,7,7,7,7,7,7,7,7,7,7,7,7,7,7,7,7,7,7,7,7,7,7,7,7,7,7,7,7,7,7,7,7,7,7,7,7,7,7,7,7,7,7,7,7,7,7,7,7,7,7,7,7,7,7,7,7,8,8,8,8,8,8,8,8,8,8,8,8,8,8,8,8,8,8,8,8,8,8,8,8,8,8,8,8,8,8,8,8,8,8,8,8,8,8,8,8,8,8,8,8,8,8,8,8,8,8,8,8,8,8,8,8,8,8,8,8,8,8,8,8,8,8,8,8,8,8,8,8,8,8,8,8,8,8,8,8,8,8,8,8,8,8,8,8,8,8,8,8,8,8,8,8,8,8,8,8,8,8,8,8,8,8,8,8,8,8,8,8,8,8,8,8,8,8,8,8,8,8,8,8,8,8,8,8]⟩:ByteArray)[i]?=some b/\b.toNat<=8/\(i≠0->2 ^ b.toNat<=2 * i):=by
 have:=zOy i h;split at this
 ·rename_i b hb;rw[QJ,GA]at this;refine⟨b,hb,QM this.1,fun hi=> ?_⟩;rcases this.2 with h2|h2
  ·exact absurd (QL h2) hi
  ·exact QM h2
 ·cases this
def zQq:ACode:=(oV (oR [oN 2 0]) (oV (oV (oR [oM 3 0,⟨some 4,none,(.bin .geq (.tmp 3) (.const (.int .u64 4294967296)))⟩]) (oJ 4 (oV (oR [oM 5 0,⟨some 6,none,(.bin .shr (.tmp 5) (.const (.int .u64 32)))⟩,oM 0 6]) (oR [oN 2 32])) .skip)) (oV (oV (oR [oM 7 0,⟨some 8,none,(.bin .geq (.tmp 7) (.const (.int .u64 65536)))⟩]) (oJ 8 (oV (oR [oM 9 0,⟨some 10,none,(.bin .shr (.tmp 9) (.const (.int .u64 16)))⟩,oM 0 10]) (oR [oM 11 2,oC .add 12 11 16,oM 2 12])) .skip)) (oV (oV (oR [oM 13 0,⟨some 14,none,(.bin .geq (.tmp 13) (.const (.int .u64 256)))⟩]) (oJ 14 (oV (oR [oM 15 0,⟨some 16,none,(.bin .shr (.tmp 15) (.const (.int .u64 8)))⟩,oM 0 16]) (oR [oM 17 2,oC .add 18 17 8,oM 2 18])) .skip)) (oV (oR [oM 19 2,oM 20 0,⟨some 21,none,(.conv .u8 (.tmp 20))⟩,⟨some 22,none,(.elemStr (.const (.string ⟨#[0,1,2,2,3,3,3,3,4,4,4,4,4,4,4,4,5,5,5,5,5,5,5,5,5,5,5,5,5,5,5,5,6,6,6,6,6,6,6,6,6,6,6,6,6,6,6,6,6,6,6,6,6,6,6,6,6,6,6,6,6,6,6,6,7,7,7,7,7,7,7,7,7,7,7,7,7,7,7,7,7,7,7,7,7,7,7,7,7,7,7,7,7,7,7,7,7,7,7,7,7,7,7,7,7,7,7,7,7,7,7,7,7,7,7,7,7,7,7,7,7,7,7,7,7,7,7,7,8,8,8,8,8,8,8,8,8,8,8,8,8,8,8,8,8,8,8,8,8,8,8,8,8,8,8,8,8,8,8,8,8,8,8,8,8,8,8,8,8,8,8,8,8,8,8,8,8,8,8,8,8,8,8,8,8,8,8,8,8,8,8,8,8,8,8,8,8,8,8,8,8,8,8,8,8,8,8,8,8,8,8,8,8,8,8,8,8,8,8,8,8,8,8,8,8,8,8,8,8,8,8,8,8,8,8,8,8,8,8,8,8,8,8,8,8,8,8,8,8,8,8,8,8,8,8,8]⟩)) (.tmp 21))⟩,⟨some 23,none,(.conv .i64 (.tmp 22))⟩,oB .add 24 19 23,oM 2 24]) .ret)))))
theorem zOP (h:AHeap) (n:Int) (h0:0<=n) (h1:n<=2000000000):
  WC Tryz.prog tb 225 [.int .u64 n] h fun r h'=>(∃ k:Nat,r=I k/\k<=40/\(n≠0->2 ^ k<=2 * n))/\h=h':=by
 refine en 25 [(2,none)] zQq ?_;refine WX.cutA [9,10,0,11,12,2] (by kernel_rfl) (fun t h'=>h=h'/\∃ (m:Int) (k:Nat),zB t 0= .int .u64 m/\zB t 2=I k/\(0<=m/\m<=65535/\k<=16)/\(n≠0->m≠0)/\(n≠0->∀ j:Nat,2 ^ j<=2 * m->2 ^ (k+j)<=2 * n)) ?_ ?_
 ·refine WX.br (fun hb=> ?_) (fun hb=> ?_)<;>simp only[DB]at hb<;>refine go ?_
  ·refine WO.bin (vx:= .int .u64 n) (vy:= .int .u64 16) zT rfl (zU7 h0) ?_;refine go ?_;refine zE ⟨rfl,n / 65536,16,sl_,sl_,by omega,by omega,fun _ j hj=> ?_⟩;rw[Int.pow_add];have e:(2:Int) ^ 16=65536:=rfl;rw[e];generalize (2:Int) ^ j=z at hj |-;omega
  ·exact zE ⟨rfl,n,0,sl_,sl_,by omega,id,fun _ j hj=>by rw[Q4];exact hj⟩
 rintro t1 _ hs1 ⟨rfl,m,k,s0,s2,hm,hz,hj⟩;refine go ?_;refine WX.cutA [15,16,0,17,18,2] (by kernel_rfl) (fun t h'=>h=h'/\∃ (m:Int) (k:Nat),zB t 0= .int .u64 m/\zB t 2=I k/\(0<=m/\m<=255/\k<=24)/\(n≠0->m≠0)/\(n≠0->∀ j:Nat,2 ^ j<=2 * m->2 ^ (k+j)<=2 * n)) ?_ ?_
 ·refine WX.br (fun hb=> ?_) (fun hb=> ?_)<;>simp only[DB]at hb<;>refine go ?_
  ·refine WO.bin (vx:= .int .u64 m) (vy:= .int .u64 8) zT rfl (zVg hm.1) ?_;refine go ?_;refine zE ⟨rfl,m / 256,k+8,sl_,sl_,by omega,by omega,fun hn j hj2=> ?_⟩;have:=hj hn (8+j) (by
    rw[Int.pow_add];have e:(2:Int) ^ 8=256:=rfl;rw[e];generalize (2:Int) ^ j=z at hj2 |-;omega)
   rw[Nat.add_assoc];exact this
  ·exact zE ⟨rfl,m,k,sl_,sl_,by omega,hz,hj⟩
 clear hj hz hm s0 s2;rintro t2 _ hs2 ⟨rfl,m,k,s0,s2,hm,hz,hj⟩;obtain⟨b,hb1,hb2,hb3⟩:=zSJ (i:=m.toNat) (by omega);refine go ?_;have e2:asN (.int .u8 m)=some m.toNat:=by
  obtain⟨q,rfl⟩:∃ q:Nat,m=q:=⟨m.toNat,by omega⟩;rfl
 rw[zTB (by omega) (by omega)];refine WO.eStr hb1 e2 ?_;refine gr ?_;refine⟨⟨k+b.toNat,by simp[one],by omega,fun hn=>hj hn _ ?_⟩,rfl⟩;have:=hb3 (by have:=hz hn;omega);have h2:((2 ^ b.toNat:Nat):Int)<=((2 * m.toNat:Nat):Int):=by exact_mod_cast this
 rw[Int.natCast_pow]at h2;have h3:((2 * m.toNat:Nat):Int)=2 * m:=by omega
 rw[h3]at h2;exact h2
def zR8:ACode:=(oV (oR [oN 2 0]) (oV (.cond (.const (.bool false)) (oV (oR [oM 3 0,⟨some 4,none,(.conv .u32 (.tmp 3))⟩,o1 5 224 4,oM 2 5]) .ret) .skip) (oV (oR [oM 6 0,o1 7 225 6,oM 2 7]) .ret)))
theorem zPZ (h:AHeap) (n:Int) (h0:0<=n) (h1:n<=2000000000):
  WC Tryz.prog tb 198 [.int .u64 n] h fun r h'=>(∃ k:Nat,r=I k/\k<=40/\(n≠0->2 ^ k<=2 * n))/\h=h':=by
 refine en 8 [(2,none)] zR8 ?_;refine WO.con (zOP h n h0 h1) ?_;rintro _ _ ⟨⟨k,rfl,hk⟩,rfl⟩;refine gr ?_;exact⟨⟨k,rfl,hk⟩,rfl⟩
def zQO:ACode:=(oV (oR [oK 2 (.int .u64 0)]) (oV (oR [oM 3 0,⟨some 4,none,(.conv .u64 (.tmp 3))⟩,o1 5 198 4,⟨some 6,none,(.bin .shl (.const (.int .u64 1)) (.tmp 5))⟩,oM 2 6]) .ret))
theorem zPx (h:AHeap) (n:Int) (h0:1<=n) (h1:n<=2000000000):
  WC Tryz.prog tb 232 [I n] h fun r h'=>(∃ m:Int,r= .int .u64 m/\1<=m/\m<=2 * n)/\h=h':=by
 refine en 7 [(2,none)] zQO ?_;rw[ZM (by omega) (by omega)];refine WO.con (zPZ h n (by omega) h1) ?_;rintro _ _ ⟨⟨k,rfl,hk,hk2⟩,rfl⟩;have hk3:=hk2 (by omega);have hpos:(0:Int)<2 ^ k:=Int.pow_pos (by decide);refine go ?_;refine WO.bin (vx:= .int .u64 1) (vy:=I k) (v:= .int .u64 (2 ^ k)) rfl zT (by
  simp only[zd,IntKind.bits];rw[QD (by omega),GQ,Gl (by omega),Int.one_mul,ZM (by omega) (by omega)]) ?_
 refine gr ?_;exact⟨⟨_,rfl,by omega,hk3⟩,rfl⟩
def zQj:ACode:=(oV (oR [oK 2 (.int .u64 0)]) (oV (o6 [oM 3 0,(⟨some 4,none,(.nilCheck (.tmp 3))⟩,[]),oL 5 4,oM 6 0,(⟨some 7,none,(.nilCheck (.tmp 6))⟩,[]),oL 8 7,(⟨some 9,none,(.bin .shl (.tmp 8) (.const (.int .u64 13)))⟩,[]),oB .xor 10 5 9,(⟨some 11,none,(.nilCheck (.tmp 3))⟩,[]),oS 1 11 10]) (oV (o6 [oM 12 0,(⟨some 13,none,(.nilCheck (.tmp 12))⟩,[]),oL 14 13,oM 15 0,(⟨some 16,none,(.nilCheck (.tmp 15))⟩,[]),oL 17 16,(⟨some 18,none,(.bin .shr (.tmp 17) (.const (.int .u64 7)))⟩,[]),oB .xor 19 14 18,(⟨some 20,none,(.nilCheck (.tmp 12))⟩,[]),oS 1 20 19]) (oV (o6 [oM 21 0,(⟨some 22,none,(.nilCheck (.tmp 21))⟩,[]),oL 23 22,oM 24 0,(⟨some 25,none,(.nilCheck (.tmp 24))⟩,[]),oL 26 25,(⟨some 27,none,(.bin .shl (.tmp 26) (.const (.int .u64 17)))⟩,[]),oB .xor 28 23 27,(⟨some 29,none,(.nilCheck (.tmp 21))⟩,[]),oS 1 29 28]) (oV (oR [oM 30 0,⟨some 31,none,(.nilCheck (.tmp 30))⟩,oL 32 31,oM 2 32]) .ret)))))
theorem zNi (h0 h:AHeap) (p:Value) (n:Int) (e0:Ext h0 h) (hm:h0.mark<=h0.n) (o:OwnC h0 h p [.int .u64 n]):
  WC Tryz.prog tb 233 [p] h fun r h'=>(∃ m:Int,r= .int .u64 m/\OwnC h0 h' p [.int .u64 m])/\Ext h0 h'/\UpdC p h h':=by
 obtain⟨g,rfl⟩:∃ g,p= .pointer (some ⟨g,0,none⟩):=let ⟨g,_,_,e,_⟩:=o;⟨g,e⟩;have shl:∀ (a:Int) (b:Int),0<=b->∃ r,zd .shl (.int .u64 a) (.int .u64 b)=some (.int .u64 r):=fun a b hb=>⟨_,by simp only[zd];rw[QD (by omega)]⟩;have shr:∀ (a:Int) (b:Int),0<=b->∃ r,zd .shr (.int .u64 a) (.int .u64 b)=some (.int .u64 r):=fun a b hb=>⟨_,by simp only[zd];rw[QD (by omega)]⟩;have xor:∀ (a b:Int),∃ r,zd .xor (.int .u64 a) (.int .u64 b)=some (.int .u64 r):=fun a b=>⟨_,by simp only[zd,Qv];rfl⟩;refine en 33 [(2,none)] zQj ?_;refine WX.regionU2 0 rfl rfl ?_;have oX:OwnC h0 (inC (zC 0 h)) (.pointer (some ⟨g,0,none⟩)) [.int .u64 n]:=o;refine goU ?_;obtain⟨r1,hr1⟩:=shl n 13 (by decide);refine WO.bin zT rfl hr1 ?_;refine nQ ?_;refine goU ?_;obtain⟨x1,hx1⟩:=xor n r1;refine WO.bin zT zT hx1 ?_;refine nQ ?_;refine goU ?_;refine WU2.stN [.int .u64 x1] o e0 (by rw[e0.mark];exact hm) ?_;intro h1 e1 o1 u1;refine go ?_;refine WX.regionU2 0 rfl rfl ?_;have oX1:OwnC h0 (inC (zC 0 h1)) (.pointer (some ⟨g,0,none⟩)) [.int .u64 x1]:=o1;refine goU ?_;obtain⟨r2,hr2⟩:=shr x1 7 (by decide);refine WO.bin zT rfl hr2 ?_;refine nQ ?_;refine goU ?_;obtain⟨x2,hx2⟩:=xor x1 r2;refine WO.bin zT zT hx2 ?_;refine nQ ?_;refine goU ?_;refine WU2.stN [.int .u64 x2] o1 e1 (by rw[e1.mark];exact hm) ?_;intro h2 e2 o2 u2;refine go ?_;refine WX.regionU2 0 rfl rfl ?_;have oX2:OwnC h0 (inC (zC 0 h2)) (.pointer (some ⟨g,0,none⟩)) [.int .u64 x2]:=o2;refine goU ?_;obtain⟨r3,hr3⟩:=shl x2 17 (by decide);refine WO.bin zT rfl hr3 ?_;refine nQ ?_;refine goU ?_;obtain⟨x3,hx3⟩:=xor x2 r3;refine WO.bin zT zT hx3 ?_;refine nQ ?_;refine goU ?_;refine WU2.stN [.int .u64 x3] o2 e2 (by rw[e2.mark];exact hm) ?_;intro h3 e3 o3 u3;refine gr ?_;exact⟨⟨x3,rfl,o3⟩,e3,(u1.trans u2).trans u3⟩
def zSY:ACode:=(oV (oR [oN 8 0,oN 9 0]) (oV (oV (o6 [oM 10 0,oM 11 2,oI 1 12 10 11,oL 13 12,oM 14 0,oM 15 1,oI 1 16 14 15,oL 17 16,o2 18 221 13 17]) (oJ 18 (oV (oR [oM 19 3,⟨some 20,none,(.nilCheck (.tmp 19))⟩,oL 21 20,oC .add 22 21 1,⟨some 23,none,(.nilCheck (.tmp 19))⟩,oS 1 23 22]) (oV (oR [oM 24 2,oM 25 1,oM 8 24,oM 9 25]) .ret)) .skip)) (oV (oR [oM 26 1,oM 27 2,oM 8 26,oM 9 27]) .ret)))
theorem zCz (h0 h:AHeap) (v p:Value) (xs:List Int) (a b n:Int) (e0:Ext h0 h) (s:SlI h0 v xs) (o:OwnC h0 h p [I n]) (hn:0<=n/\n<=1000) (ha:0<=a/\a<xs.length) (hb:0<=b/\b<xs.length):
  WC Tryz.prog tb 240 [v,I a,I b,p] h fun r h'=>(∃ c d m:Int,r= .tuple #[I c,I d]/\((c=a/\d=b)\/(c=b/\d=a))/\(0<=m/\m<=n+1)/\OwnC h0 h' p [I m])/\Ext h0 h':=by
 obtain⟨g,rfl⟩:∃ g,p= .pointer (some ⟨g,0,none⟩):=let ⟨g,_,_,e,_⟩:=o;⟨g,e⟩;refine en 28 [(8,none),(9,none)] zSY ?_;refine WX.regionU2 0 rfl rfl ?_;have srX:SlI (inC (zC 0 h)) v xs:=by have:=s.ext e0;exact this
 refine goU ?_;refine WO.con (ZN _ (atI xs b) (atI xs a)) ?_;rintro _ _ ⟨rfl,rfl⟩;refine nQ ?_;refine goU ?_;rw[zAb];refine WX.br (fun he=> ?_) (fun he=> ?_)<;>simp only[DB]at he<;>refine go ?_
 ·refine WO.stC0 o e0 ?_;intro h1 e1 o1 _;refine gr ?_;exact⟨⟨b,a,n+1,rfl,.inr ⟨rfl,rfl⟩,by omega,o1⟩,e1⟩
 ·refine rt ?_;exact⟨⟨a,b,n,rfl,.inl ⟨rfl,rfl⟩,by omega,o⟩,e0⟩
def zQf:ACode:=(oV (oR [oN 10 0]) (oV (oR [oM 12 0,oM 13 1,oM 14 2,oM 15 4,o4 16 240 12 13 14 15,oM 11 16,oE 17 11 0,oE 18 11 1,oM 1 17,oM 2 18]) (oV (oR [oM 20 0,oM 21 2,oM 22 3,oM 23 4,o4 24 240 20 21 22 23,oM 19 24,oE 25 19 0,oE 26 19 1,oM 2 25,oM 3 26]) (oV (oR [oM 28 0,oM 29 1,oM 30 2,oM 31 4,o4 32 240 28 29 30 31,oM 27 32,oE 33 27 0,oE 34 27 1,oM 1 33,oM 2 34]) (oV (oR [oM 35 2,oM 10 35]) .ret)))))
theorem zF5 (h0 h:AHeap) (v p:Value) (xs:List Int) (a b c n:Int) (e0:Ext h0 h) (s:SlI h0 v xs) (o:OwnC h0 h p [I n]) (hn:0<=n/\n<=900) (ha:0<=a/\a<xs.length) (hb:0<=b/\b<xs.length) (hc:0<=c/\c<xs.length):
  WC Tryz.prog tb 235 [v,I a,I b,I c,p] h fun r h'=>(∃ d m:Int,r=I d/\(d=a\/d=b\/d=c)/\(0<=m/\m<=n+3)/\OwnC h0 h' p [I m])/\Ext h0 h':=by
 refine en 36 [(10,none)] zQf ?_;refine WO.con (zCz h0 h v p xs a b n e0 s o (by omega) ha hb) ?_;rintro _ h1 ⟨⟨a1,b1,n1,rfl,q1,m1,o1⟩,e1⟩;refine go ?_;refine WO.con (zCz h0 h1 v p xs b1 c n1 e1 s o1 (by omega) (by omega) hc) ?_;rintro _ h2 ⟨⟨b2,c2,n2,rfl,q2,m2,o2⟩,e2⟩;refine go ?_;refine WO.con (zCz h0 h2 v p xs a1 b2 n2 e2 s o2 (by omega) (by omega) (by omega)) ?_;rintro _ h3 ⟨⟨a3,b3,n3,rfl,q3,m3,o3⟩,e3⟩;refine gr ?_;exact⟨⟨b3,n3,rfl,by omega,by omega,o3⟩,e3⟩
def zP9:ACode:=(oV (oR [oN 6 0]) (oV (oR [oM 7 0,oM 8 1,oC .sub 9 8 1,oM 10 1,oM 11 1,oC .add 12 11 1,oM 13 2,⟨some 14,none,(.call (.func 235) [(.tmp 7),(.tmp 9),(.tmp 10),(.tmp 12),(.tmp 13)])⟩,oM 6 14]) .ret))
theorem zAu (h0 h:AHeap) (v p:Value) (xs:List Int) (a n:Int) (e0:Ext h0 h) (s:SlI h0 v xs) (o:OwnC h0 h p [I n]) (hn:0<=n/\n<=900) (ha:1<=a/\a+1<xs.length) (hl:xs.length<=1000000000):
  WC Tryz.prog tb 234 [v,I a,p] h fun r h'=>(∃ d m:Int,r=I d/\(a - 1<=d/\d<=a+1)/\(0<=m/\m<=n+3)/\OwnC h0 h' p [I m])/\Ext h0 h':=by
 refine en 15 [(6,none)] zP9 ?_;refine WO.con (zF5 h0 h v p xs (a - 1) a (a+1) n e0 s o hn (by omega) (by omega) (by omega)) ?_;rintro _ h1 ⟨⟨d,m,rfl,q1,m1,o1⟩,e1⟩;refine gr ?_;exact⟨⟨d,m,rfl,by omega,m1,o1⟩,e1⟩
def zP4:ACode:=(oV (oR [oN 6 0,oN 7 0]) (oV (oR [oM 13 2,oM 14 1,oB .sub 15 13 14,oM 8 15]) (oV (oR [⟨some 9,none,(.alloc [(.int .i64 0)])⟩]) (oV (oR [oM 16 1,oM 17 8,oC .quo 18 17 4,oC .mul 19 18 1,oB .add 20 16 19,oM 10 20]) (oV (oR [oM 21 1,oM 22 8,oC .quo 23 22 4,oC .mul 24 23 2,oB .add 25 21 24,oM 11 25]) (oV (oR [oM 26 1,oM 27 8,oC .quo 28 27 4,oC .mul 29 28 3,oB .add 30 26 29,oM 12 30]) (oV (oV (oR [oM 31 8,oC .geq 32 31 8]) (oJ 32 (oV (oV (oR [oM 33 8,oC .geq 34 33 50]) (oJ 34 (oV (oR [oM 35 0,oM 36 10,o3 37 234 35 36 9,oM 10 37]) (oV (oR [oM 38 0,oM 39 11,o3 40 234 38 39 9,oM 11 40]) (oR [oM 41 0,oM 42 12,o3 43 234 41 42 9,oM 12 43]))) .skip)) (oR [oM 44 0,oM 45 10,oM 46 11,oM 47 12,⟨some 48,none,(.call (.func 235) [(.tmp 44),(.tmp 45),(.tmp 46),(.tmp 47),(.tmp 9)])⟩,oM 11 48])) .skip)) (oV (oR [oL 49 9]) (o5 0 (oV (oR [oC .eql 52 49 0,oM 51 52]) (oJ 51 (oV (oR [oM 53 11,oM 6 53,oN 7 1]) .ret) (oV (oR [oC .eql 55 49 12,oM 54 55]) (oJ 54 (oV (oR [oM 56 11,oM 6 56,oN 7 2]) .ret) (oV (oR [oM 50 11,oM 6 50,oN 7 0]) .ret))))))))))))))
theorem zNe (h:AHeap) (v:Value) (xs:List Int) (a b:Int) (s:SlI h v xs) (h0:0<=a) (hab:a+12<b) (hb:b<=xs.length) (hlen:xs.length<=1000000000):
  WC Tryz.prog tb 218 [v,I a,I b] h fun r h'=>(∃ d hint:Int,r= .tuple #[I d,I hint]/\(a<=d/\d<b))/\Ext h h':=by
 have e4:(b - a).tdiv 4=(b - a) / 4:=Gw (by omega);refine en 57 [(6,none),(7,none)] zP4 ?_;refine WO.al ?_;intro p h1 e1 o1;refine go ?_;refine WO.quo (a:=b - a) (c:=4) (by decide) (by omega) (by omega) ?_;rw[e4];refine go ?_;refine WO.quo (a:=b - a) (c:=4) (by decide) (by omega) (by omega) ?_;rw[e4];refine go ?_;refine WO.quo (a:=b - a) (c:=4) (by decide) (by omega) (by omega) ?_;rw[e4];refine go ?_;refine WX.cutA [35,36,37,10,38,39,40,11,41,42,43,12] (by kernel_rfl) (fun t h'=>Ext h h'/\∃ i j k n:Int,zB t 10=I i/\zB t 11=I j/\zB t 12=I k/\(a<=i/\i<b)/\(a<=j/\j<b)/\(a<=k/\k<b)/\(0<=n/\n<=9)/\OwnC h h' p [I n]) ?_ ?_
 ·refine WX.br (fun he=> ?_) (fun he=> ?_)<;>simp only[DB]at he<;>refine go ?_
  ·refine WO.con (zAu h h1 v p xs (a+(b - a) / 4 * 1) 0 e1 s o1 (by omega) (by omega) hlen) ?_;rintro _ h2 ⟨⟨i,n1,rfl,q1,m1,o2⟩,e2⟩;refine go ?_;refine WO.con (zAu h h2 v p xs (a+(b - a) / 4 * 2) n1 e2 s o2 (by omega) (by omega) hlen) ?_;rintro _ h3 ⟨⟨j,n2,rfl,q2,m2,o3⟩,e3⟩;refine go ?_;refine WO.con (zAu h h3 v p xs (a+(b - a) / 4 * 3) n2 e3 s o3 (by omega) (by omega) hlen) ?_;rintro _ h4 ⟨⟨k,n3,rfl,q3,m3,o4⟩,e4⟩;refine go ?_;exact zE ⟨e4,i,j,k,n3,sl_,sl_,sl_,by omega,by omega,by omega,by omega,o4⟩
  ·exact zE ⟨e1,a+(b - a) / 4 * 1,a+(b - a) / 4 * 2,a+(b - a) / 4 * 3,0,sl_,sl_,sl_,by omega,by omega,by omega,by omega,o1⟩
 rintro t5 h5 hs5 ⟨e5,i,j,k,n,s10,s11,s12,hi,hj,hk,hn,o5⟩;refine go ?_;refine WO.con (zF5 h h5 v p xs i j k n e5 s o5 (by omega) (by omega) (by omega) (by omega)) ?_;rintro _ h6 ⟨⟨d,m,rfl,q6,m6,o6⟩,e6⟩;obtain⟨g,rfl⟩:∃ g,p= .pointer (some ⟨g,0,none⟩):=let ⟨g,_,_,e,_⟩:=o6;⟨g,e⟩;refine go ?_;refine WX.br (fun he=> ?_) (fun he=> ?_)<;>simp only[DB]at he<;>refine go ?_
 ·refine rt ?_;exact⟨⟨_,_,rfl,by omega⟩,e6⟩
 refine WX.br (fun he=> ?_) (fun he=> ?_)<;>simp only[DB]at he<;>refine go ?_<;>refine rt ?_
 ·exact⟨⟨_,_,rfl,by omega⟩,e6⟩
 ·exact⟨⟨_,_,rfl,by omega⟩,e6⟩
def zLW:ACode:=(oV (oV (oR [oM 26 9,oM 27 1,oM 28 6,oC .quo 29 28 4,oC .mul 30 29 2,oB .add 31 27 30,oC .add 32 31 1,oB .leq 33 26 32]) (oT 33 0)) (oV (o5 1 (oV (oR [o1 36 233 7,oM 37 8,⟨some 38,none,(.bin .sub (.tmp 37) (.const (.int .u64 1)))⟩,oB .and 39 36 38,⟨some 40,none,(.conv .i64 (.tmp 39))⟩,oM 10 40]) (oV (oV (oR [oM 41 10,oM 42 6,oB .geq 43 41 42]) (oJ 43 (oR [oM 44 10,oM 45 6,oB .sub 46 44 45,oM 10 46]) .skip)) (o6 [oM 47 0,oM 48 9,oM 49 0,oM 50 1,oM 51 10,oB .add 52 50 51,oM 53 0,oM 54 1,oM 55 10,oB .add 56 54 55,oI 1 57 53 56,oL 58 57,oM 59 0,oM 60 9,oI 1 61 59 60,oL 62 61,oI 1 63 47 48,oS 1 63 58,oI 1 64 49 52,oS 1 64 62])))) (oR [oM 34 9,oC .add 35 34 1,oM 9 35])))
def zSb:ACode:=(oV (oR [oM 11 2,oM 12 1,oB .sub 13 11 12,oM 6 13]) (oV (oR [oM 14 6,oC .geq 15 14 8]) (oJ 15 (oV (oR [oM 16 6,⟨some 17,none,(.conv .u64 (.tmp 16))⟩,⟨some 7,none,(.alloc [(.int .u64 0)])⟩,oS 1 7 17]) (oV (oR [oM 18 6,o1 19 232 18,oM 8 19]) (oV (oR [oM 20 1,oM 21 6,oC .quo 22 21 4,oC .mul 23 22 2,oB .add 24 20 23,oC .sub 25 24 1,oM 9 25]) (o5 0 (.loop zLW))))) .skip)))
theorem zOz (hB h:AHeap) (v:Value) (xs:List Int) (a b:Int) (e0:Ext hB h) (hmB:hB.mark<=hB.n) (o:OwnI hB h v xs) (h0:0<=a) (hab:a+12<b) (hb:b<=xs.length) (hlen:xs.length<=1000000000):
  WC Tryz.prog tb 217 [v,I a,I b] h fun r h'=>∃ ys,SS hB h v a b xs ys h':=by
 have e4:(b - a).tdiv 4=(b - a) / 4:=Gw (by omega);have s0:=SS.start a b o e0;refine en 65 [] zSb ?_;refine WO.al ?_;intro p h1 e1 o1;have s1:=s0.extd e1;obtain⟨g,hg,rfl⟩:∃ g,h.n<=g/\p= .pointer (some ⟨g,0,none⟩):=let ⟨g,hg,_,e,_⟩:=o1;⟨g,hg,e⟩;have o1:=o1.since e0;refine go ?_;refine WO.stC0 o1 s1.ext ?_;intro h2 e2 o2 u2;have s2:=s1.updC o hg e2 u2;refine go ?_;refine WO.con (zPx h2 (b - a) (by omega) (by omega)) ?_;rintro _ _ ⟨⟨m,rfl,hm1,hm2⟩,rfl⟩;refine go ?_;refine WO.quo (a:=b - a) (c:=4) (by decide) (by omega) (by omega) ?_;rw[e4];refine go ?_;refine WX.loopA [26,27,28,29,30,31,32,33,36,37,38,39,40,10,41,42,43,44,45,46,10,47,48,49,50,51,52,53,54,55,56,57,58,59,60,61,62,63,64,34,35,9] (by kernel_rfl) (fun x=>(b - x.2.1).toNat) (fun (x:List Int×Int×Int) t h4=>SS hB h v a b xs x.1 h4/\zB t 9=I x.2.1/\(a<=x.2.1/\x.2.1<b)/\OwnC hB h4 (.pointer (some ⟨g,0,none⟩)) [.int .u64 x.2.2]) (xs,a+(b - a) / 4 * 2 - 1,IntKind.u64.wrap (b - a)) ?_ ?_
 ·exact⟨s2,sl_,by simp only;omega,o2⟩
 rintro⟨ys,i,x⟩ t h4 hsame ⟨s4,s9,hi,o4⟩;simp only at s4 s9 hi o4;have hl4:=s4.len;refine go ?_;refine WO.quo (a:=b - a) (c:=4) (by decide) (by omega) (by omega) ?_;rw[e4];refine go ?_;refine WX.br (fun he=> ?_) (fun he=> ?_)<;>simp only[DB]at he<;>refine go ?_
 ·refine WO.con (zNi hB h4 _ x s4.ext hmB o4) ?_;rintro _ h5 ⟨⟨y,rfl,o5⟩,e5,u5⟩;have s5:=s4.updC o hg e5 u5;refine go ?_;refine WO.bin (vy:= .int .u64 1) (v:= .int .u64 (m - 1)) zT rfl (by simp only[zd,Qv];rw[ZM (by omega) (by omega)]) ?_;refine go ?_;obtain⟨r,hr,hr0,hr1⟩:=zQ8 y (m:=m - 1) (by omega);refine WO.bin zT zT hr ?_;refine go ?_;refine WX.cutA [44,45,46,10] (by kernel_rfl) (fun t h'=>h5=h'/\∃ k:Int,zB t 10=I k/\0<=k/\k<b - a) ?_ ?_
  ·refine WX.br (fun hf=> ?_) (fun hf=> ?_)<;>simp only[DB]at hf<;>refine go ?_
   ·exact zE ⟨rfl,_,sl_,by omega,by omega⟩
   ·exact zE ⟨rfl,_,sl_,by omega,by omega⟩
  rintro t6 _ hs6 ⟨rfl,k,s10,hk0,hk1⟩;refine go ?_;refine WX.regionU2 0 rfl rfl ?_;have srX:SlI (inC (zC 0 h5)) v ys:=(s5.own).sl;refine goU ?_;refine WU2.swA (i) (a+k) (s5).own (s5).ext (by rw[(s5).ext.mark];exact hmB) ?_;intro h7 e7 o7 u7;have s7:=s5.swp e7 o7 u7 h0 hb (by omega) (by omega);have o7':=o5.updV o hg u7;refine go ?_;exact zA (swp ys i (a+k),i+1,y) (by simp only;omega) ⟨s7,sl_,by simp only;omega,o7'⟩
 ·refine rtN ?_;exact⟨ys,s4⟩
set_option maxRecDepth 100000
theorem zQF {a b i j:Int} {zs:List Int} (h0:0<=a) (hi:b<=i/\i<zs.length) (hj:b<=j/\j<zs.length) (s:Srt a b zs):Srt a b (swp zs i j):=fun p q h1 h2 h3=>by
 rw[yU (by omega) (by omega) (by omega),yU (by omega) (by omega) (by omega),QD (by omega),QD (by omega),QD (by omega),QD (by omega)];exact s p q h1 h2 h3
def zLH:ACode:=(oV (oV (o6 [oM 17 7,oM 18 2,oB .lss 19 17 18,oM 20 19,oG 20 (oM 21 0),oG 20 (oM 22 7),oG 20 (oI 1 23 21 22),oG 20 (oL 24 23),oG 20 (oM 25 0),oG 20 (oM 26 7),oG 20 (oC .sub 27 26 1),oG 20 (oI 1 28 25 27),oG 20 (oL 29 28),oG 20 (o2 30 221 24 29),oG 20 (oW 31 30),oP 32 20 31]) (oT 32 2)) (o5 3 (oR [oM 33 7,oC .add 34 33 1,oM 7 34])))
def zLp:ACode:=(oV (oV (oR [oM 64 9,oC .geq 65 64 1]) (oT 65 4)) (oV (o5 5 (oV (oV (o6 [oM 68 0,oM 69 9,oI 1 70 68 69,oL 71 70,oM 72 0,oM 73 9,oC .sub 74 73 1,oI 1 75 72 74,oL 76 75,o2 77 221 71 76,oW 78 77]) (oJ 78 (.exit 4) .skip)) (o6 [oM 79 0,oM 80 9,oM 81 0,oM 82 9,oC .sub 83 82 1,oM 84 0,oM 85 9,oC .sub 86 85 1,oI 1 87 84 86,oL 88 87,oM 89 0,oM 90 9,oI 1 91 89 90,oL 92 91,oI 1 93 79 80,oS 1 93 88,oI 1 94 81 83,oS 1 94 92]))) (oR [oM 66 9,oC .sub 67 66 1,oM 9 67])))
def zMX:ACode:=(oV (oV (oR [oM 101 10,oM 102 2,oB .lss 103 101 102]) (oT 103 6)) (oV (o5 7 (oV (oV (o6 [oM 106 0,oM 107 10,oI 1 108 106 107,oL 109 108,oM 110 0,oM 111 10,oC .sub 112 111 1,oI 1 113 110 112,oL 114 113,o2 115 221 109 114,oW 116 115]) (oJ 116 (.exit 6) .skip)) (o6 [oM 117 0,oM 118 10,oM 119 0,oM 120 10,oC .sub 121 120 1,oM 122 0,oM 123 10,oC .sub 124 123 1,oI 1 125 122 124,oL 126 125,oM 127 0,oM 128 10,oI 1 129 127 128,oL 130 129,oI 1 131 117 118,oS 1 131 126,oI 1 132 119 121,oS 1 132 130]))) (oR [oM 104 10,oC .add 105 104 1,oM 10 105])))
def zLX:ACode:=(oV (oV (oR [oM 13 8,oC .lss 14 13 5]) (oT 14 0)) (oV (o5 1 (oV (o5 2 (.loop zLH)) (oV (oV (oR [oM 35 7,oM 36 2,oB .eql 37 35 36]) (oJ 37 (oV (oR [oK 6 (.bool true)]) .ret) .skip)) (oV (oV (oR [oM 38 2,oM 39 1,oB .sub 40 38 39,oC .lss 41 40 50]) (oJ 41 (oV (oR [oZ 6]) .ret) .skip)) (oV (o6 [oM 42 0,oM 43 7,oM 44 0,oM 45 7,oC .sub 46 45 1,oM 47 0,oM 48 7,oC .sub 49 48 1,oI 1 50 47 49,oL 51 50,oM 52 0,oM 53 7,oI 1 54 52 53,oL 55 54,oI 1 56 42 43,oS 1 56 51,oI 1 57 44 46,oS 1 57 55]) (oV (oV (oR [oM 58 7,oM 59 1,oB .sub 60 58 59,oC .geq 61 60 2]) (oJ 61 (oV (oR [oM 62 7,oC .sub 63 62 1,oM 9 63]) (o5 4 (.loop zLp))) .skip)) (oV (oR [oM 95 2,oM 96 7,oB .sub 97 95 96,oC .geq 98 97 2]) (oJ 98 (oV (oR [oM 99 7,oC .add 100 99 1,oM 10 100]) (o5 6 (.loop zMX))) .skip)))))))) (oR [oM 15 8,oC .add 16 15 1,oM 8 16])))
def zQ9:ACode:=(oV (oR [oZ 6]) (oV (oR [oM 11 1,oC .add 12 11 1,oM 7 12]) (oV (oV (oR [oN 8 0]) (o5 0 (.loop zLX))) (oV (oR [oZ 6]) .ret))))
theorem zI4 (hB h:AHeap) (v:Value) (xs:List Int) (a b:Int) (e0:Ext hB h) (hmB:hB.mark<=hB.n) (o:OwnI hB h v xs) (h0:0<=a) (hab:a<b) (hb:b<=xs.length) (hlen:xs.length<=1000000000) (hpre:0<a->∀ k,a<=k->k<b->atI xs (a - 1)<=atI xs k):
  WC Tryz.prog tb 220 [v,I a,I b] h fun r h'=>∃ ys w,r= .bool w/\SS hB h v a b xs ys h'/\(w=true->Srt a b ys):=by
 have s0:=SS.start a b o e0;have low:Hid (∀ ys,PI a b xs ys->0<a->∀ k,a<=k->k<b->atI ys (a - 1)<=atI ys k):=Hid.mk fun ys p ha=>by
  have e1:atI ys (a - 1)=atI xs (a - 1):=p.out _ (by omega) (.inl (by omega));rw[e1];exact p.all (p:=fun x=>atI xs (a - 1)<=x) h0 hb (hpre ha)
 refine en 133 [(6,none)] zQ9 ?_;refine WX.loopA [13,14,17,18,19,20,21,22,23,24,25,26,27,28,29,30,31,32,33,34,7,35,36,37,6,38,39,40,41,6,42,43,44,45,46,47,48,49,50,51,52,53,54,55,56,57,58,59,60,61,62,63,9,64,65,68,69,70,71,72,73,74,75,76,77,78,79,80,81,82,83,84,85,86,87,88,89,90,91,92,93,94,66,67,9,95,96,97,98,99,100,10,101,102,103,106,107,108,109,110,111,112,113,114,115,116,117,118,119,120,121,122,123,124,125,126,127,128,129,130,131,132,104,105,10,15,16,8] (by kernel_rfl) (fun x=>(5 - x.2.2).toNat) (fun (x:List Int×Int×Int) t h4=>SS hB h v a b xs x.1 h4/\zB t 7=I x.2.1/\zB t 8=I x.2.2/\(a+1<=x.2.1/\x.2.1<=b)/\(0<=x.2.2/\x.2.2<=5)/\Srt a x.2.1 x.1) (xs,a+1,0) ?_ ?_
 ·exact⟨s0,sl_,sl_,by simp only;omega,by simp only;omega,Srt.small (by simp only;omega)⟩
 rintro⟨ys,i,c⟩ t h4 hsame ⟨s4,s7,s8,hi,hc,hs⟩;simp only at s4 s7 s8 hi hc hs;have hl4:=s4.len;refine go ?_;refine WX.br (fun hx=> ?_) (fun hx=> ?_)<;>simp only[DB]at hx;case refine_2=>
  refine gr ?_;exact⟨_,_,rfl,s4,fun h=>by cases h⟩
 refine go ?_;refine WX.loopA [17,18,19,20,21,22,23,24,25,26,27,28,29,30,31,32,33,34,7] (by kernel_rfl) (fun i=>(b - i).toNat) (fun (i:Int) t h2=>h4=h2/\zB t 7=I i/\(a+1<=i/\i<=b)/\Srt a i ys) i ?_ ?_
 ·exact⟨rfl,sl_,hi,hs⟩
 clear hs hi s7;rintro i t _ hsame2 ⟨rfl,s7,hi,hs⟩;refine go ?_;refine WX.cutA [17,18,19,20,21,22,23,24,25,26,27,28,29,30,31,32] (by kernel_rfl) (fun t h'=>h4=h'/\zB t 32= .bool (decide (i<b/\¬(atI ys i<atI ys (i - 1))))) ?_ ?_
 ·refine WX.regionU2 0 rfl rfl ?_;have srX:SlI (inC (zC 0 h4)) v ys:=(s4.own).sl;refine goU ?_;refine WO.sp (fun hd=> ?_) (fun hd=> ?_)<;>simp only[DB]at hd<;>refine goU ?_
  ·refine WO.con (ZN _ (atI ys i) (atI ys (i - 1))) ?_;rintro _ _ ⟨rfl,rfl⟩;refine nQ ?_;refine goU ?_;exact zE ⟨rfl,by rw[show decide (i<b/\¬(atI ys i<atI ys (i - 1)))= !decide (atI ys i<atI ys (i - 1)) from zCS hd];exact sl_⟩
  ·exact zE ⟨rfl,by rw[show decide (i<b/\¬(atI ys i<atI ys (i - 1)))=false from QT (fun hh=>absurd hh.1 (by omega))];exact sl_⟩
 rintro t5 _ hs5 ⟨rfl,q5⟩;refine go ?_;refine WX.br (fun he=> ?_) (fun he=> ?_)<;>simp only[DB]at he
 ·refine go ?_;refine zA (i+1) (by omega) ⟨rfl,sl_,by omega,fun p q h1 h2 h3=> ?_⟩;by_cases e:q=i
  ·by_cases e2:p=i
   ·rw[e,e2];exact Qi _
   ·have:=hs p (i - 1) h1 (by omega) (by omega);rw[e];omega
  ·exact hs p q h1 h2 (by omega)
 refine go ?_;refine WX.br (fun hf=> ?_) (fun hf=> ?_)<;>simp only[DB]at hf
 ·refine gr ?_;subst hf;exact⟨_,_,rfl,s4,fun _=>hs⟩
 refine go ?_;refine WX.br (fun hg=> ?_) (fun hg=> ?_)<;>simp only[DB]at hg
 ·refine gr ?_;exact⟨_,_,rfl,s4,fun h=>by cases h⟩
 have hlt:atI ys i<atI ys (i - 1):=Int.not_le.1 fun hh=>he ⟨by omega,hh⟩;refine go ?_;refine WX.regionU2 0 rfl rfl ?_;have srX:SlI (inC (zC 0 h4)) v ys:=(s4.own).sl;refine goU ?_;refine WU2.swA (i) (i - 1) (s4).own (s4).ext (by rw[(s4).ext.mark];exact hmB) ?_;intro h6 e6 o6 u6;have s6:=s4.swp e6 o6 u6 h0 hb (by omega) (by omega);have hz:∀ p q,a<=p->p<=q->q<i->q≠i - 1->atI (swp ys i (i - 1)) p<=atI (swp ys i (i - 1)) q:=fun p q h1 h2 h3 h4=>by
  rw[yU (by omega) (by omega) (by omega),yU (by omega) (by omega) (by omega),QD (by omega),QD (by omega),QD (by omega),QD (by omega)];exact hs p q h1 h2 h3
 clear o6 e6 u6 s4 hl4 hs he hlt;generalize swp ys i (i - 1)=zs at s6 hz;have hl6:=s6.len;refine go ?_;refine WX.cutA [62,63,9,64,65,68,69,70,71,72,73,74,75,76,77,78,79,80,81,82,83,84,85,86,87,88,89,90,91,92,93,94,66,67,9] (by kernel_rfl) (fun t h'=>∃ ws,SS hB h v a b xs ws h'/\Srt a i ws) ?_ ?_
 ·refine WX.br (fun hj=> ?_) (fun hj=> ?_)<;>simp only[DB]at hj<;>refine go ?_
  ·refine WX.loopA [64,65,68,69,70,71,72,73,74,75,76,77,78,79,80,81,82,83,84,85,86,87,88,89,90,91,92,93,94,66,67,9] (by kernel_rfl) (fun x=>(x.2+1).toNat) (fun (x:List Int×Int) t h7=>SS hB h v a b xs x.1 h7/\zB t 9=I x.2/\(a<=x.2/\x.2<=i - 1)/\∀ p q,a<=p->p<=q->q<i->q≠x.2->atI x.1 p<=atI x.1 q) (zs,i - 1) ?_ ?_
   ·exact⟨s6,sl_,by simp only;omega,hz⟩
   rintro⟨ws,j⟩ t h7 hsame3 ⟨s7',s9,hj2,hw⟩;simp only at s7' s9 hj2 hw;have hl7:=s7'.len;have fin:(j<1\/¬atI ws j<atI ws (j - 1))->Srt a i ws:=fun hor p q h1 h2 h3=>by
    by_cases e:q=j
    ·by_cases e2:p=j
     ·rw[e,e2];exact Qi _
     ·have:=hw p (j - 1) h1 (by omega) (by omega) (by omega);rw[e];rcases hor with hh|hh
      ·omega
      ·omega
    ·exact hw p q h1 h2 h3 e
   refine go ?_;refine WX.br (fun hk=> ?_) (fun hk=> ?_)<;>simp only[DB]at hk;case refine_2=>
    refine go ?_;exact zE ⟨ws,s7',fin (.inl (by omega))⟩
   refine go ?_;refine WX.regionU2 0 rfl rfl ?_;have srX:SlI (inC (zC 0 h7)) v ws:=(s7'.own).sl;refine goU ?_;refine WO.con (ZN _ (atI ws j) (atI ws (j - 1))) ?_;rintro _ _ ⟨rfl,rfl⟩;refine nQ ?_;refine goU ?_;rw[zAb];refine WX.br (fun hm=> ?_) (fun hm=> ?_)<;>simp only[DB]at hm
   ·refine go ?_;exact zE ⟨ws,s7',fin (.inr (by omega))⟩
   have hja:a<j:=by
    by_cases e:a<j
    ·exact e
    ·have ej:j=a:=by omega
     subst ej;have:=low.out ws s7'.pi (by omega) j (by omega) (by omega);omega
   refine go ?_;refine WX.regionU2 0 rfl rfl ?_;have srX:SlI (inC (zC 0 h7)) v ws:=(s7'.own).sl;refine goU ?_;refine WU2.swA (j) (j - 1) (s7').own (s7').ext (by rw[(s7').ext.mark];exact hmB) ?_;intro h8 e8 o8 u8;have s8':=s7'.swp e8 o8 u8 h0 hb (by omega) (by omega);refine go ?_;refine zA (swp ws j (j - 1),j - 1) (by simp only;omega) ⟨s8',sl_,by simp only;omega,fun p q h1 h2 h3 h4=> ?_⟩;exact zIg (i:=i - 1) h0 hja (by omega) (by omega) hm (fun p q h1 h2 h3 h4=>hw p q h1 h2 (by omega) h4) p q h1 h2 (by omega) h4
  ·exact zE ⟨zs,s6,Srt.small (by omega)⟩
 clear s6 hz hl6;rintro t7 h7 hs7 ⟨zs,s6,hz⟩;have hl6:=s6.len;refine go ?_;refine WX.cutA [99,100,10,101,102,103,106,107,108,109,110,111,112,113,114,115,116,117,118,119,120,121,122,123,124,125,126,127,128,129,130,131,132,104,105,10] (by kernel_rfl) (fun t h'=>∃ ws,SS hB h v a b xs ws h'/\Srt a i ws) ?_ ?_
 ·refine WX.br (fun hj=> ?_) (fun hj=> ?_)<;>simp only[DB]at hj<;>refine go ?_
  ·refine WX.loopA [101,102,103,106,107,108,109,110,111,112,113,114,115,116,117,118,119,120,121,122,123,124,125,126,127,128,129,130,131,132,104,105,10] (by kernel_rfl) (fun x=>(b - x.2).toNat) (fun (x:List Int×Int) t h7=>SS hB h v a b xs x.1 h7/\zB t 10=I x.2/\(i+1<=x.2/\x.2<=b)/\Srt a i x.1) (zs,i+1) ?_ ?_
   ·exact⟨s6,sl_,by simp only;omega,hz⟩
   rintro⟨ws,j⟩ t h7 hsame3 ⟨s7',s10,hj2,hw⟩;simp only at s7' s10 hj2 hw;have hl7:=s7'.len;refine go ?_;refine WX.br (fun hk=> ?_) (fun hk=> ?_)<;>simp only[DB]at hk;case refine_2=>
    refine go ?_;exact zE ⟨ws,s7',hw⟩
   refine go ?_;refine WX.regionU2 0 rfl rfl ?_;have srX:SlI (inC (zC 0 h7)) v ws:=(s7'.own).sl;refine goU ?_;refine WO.con (ZN _ (atI ws j) (atI ws (j - 1))) ?_;rintro _ _ ⟨rfl,rfl⟩;refine nQ ?_;refine goU ?_;rw[zAb];refine WX.br (fun hm=> ?_) (fun hm=> ?_)<;>simp only[DB]at hm
   ·refine go ?_;exact zE ⟨ws,s7',hw⟩
   refine go ?_;refine WX.regionU2 0 rfl rfl ?_;have srX:SlI (inC (zC 0 h7)) v ws:=(s7'.own).sl;refine goU ?_;refine WU2.swA (j) (j - 1) (s7').own (s7').ext (by rw[(s7').ext.mark];exact hmB) ?_;intro h8 e8 o8 u8;have s8':=s7'.swp e8 o8 u8 h0 hb (by omega) (by omega);refine go ?_;exact zA (swp ws j (j - 1),j+1) (by simp only;omega) ⟨s8',sl_,by simp only;omega,zQF h0 (by omega) (by omega) hw⟩
  ·exact zE ⟨zs,s6,hz⟩
 clear s6 hz hl6;rintro t8 h8 hs8 ⟨zs,s6,hz⟩;refine go ?_;exact zA (zs,i,c+1) (by simp only;omega) ⟨s6,sl_,sl_,hi,by simp only;omega,hz⟩
def zNB:ACode:=(o5 1 (oV (oR [oM 19 2,oM 20 1,oB .sub 21 19 20,oM 10 21]) (oV (oV (oR [oM 22 10,oC .leq 23 22 12]) (oJ 23 (oV (oR [oM 24 0,oM 25 1,oM 26 2,o3 27 215 24 25 26]) .ret) .skip)) (oV (oV (oR [oM 28 3,oC .eql 29 28 0]) (oJ 29 (oV (oR [oM 30 0,oM 31 1,oM 32 2,o3 33 216 30 31 32]) .ret) .skip)) (oV (oV (oR [oM 34 8,oW 35 34]) (oJ 35 (oV (oR [oM 36 0,oM 37 1,oM 38 2,o3 39 217 36 37 38]) (oR [oM 40 3,oC .sub 41 40 1,oM 3 41])) .skip)) (oV (oR [oM 43 0,oM 44 1,oM 45 2,o3 46 218 43 44 45,oM 42 46,oE 47 42 0,oE 48 42 1,oM 11 47,oM 12 48]) (oV (oV (oR [oM 49 12,oC .eql 50 49 2]) (oJ 50 (oV (oR [oM 51 0,oM 52 1,oM 53 2,o3 54 219 51 52 53]) (oV (oR [oM 55 2,oC .sub 56 55 1,oM 57 11,oM 58 1,oB .sub 59 57 58,oB .sub 60 56 59,oM 11 60]) (oR [oN 12 1]))) .skip)) (oV (oV (oR [oM 61 8,oM 62 61,oG 62 (oM 63 9),oP 64 62 63,oM 65 64,oG 65 (oM 66 12),oG 65 (oC .eql 67 66 1),oP 68 65 67]) (oJ 68 (oV (oR [oM 69 0,oM 70 1,oM 71 2,o3 72 220 69 70 71]) (oJ 72 .ret .skip)) .skip)) (oV (oV (o6 [oM 73 1,oC .gtr 74 73 0,oM 75 74,oG 75 (oM 76 0),oG 75 (oM 77 1),oG 75 (oC .sub 78 77 1),oG 75 (oI 1 79 76 78),oG 75 (oL 80 79),oG 75 (oM 81 0),oG 75 (oM 82 11),oG 75 (oI 1 83 81 82),oG 75 (oL 84 83),oG 75 (o2 85 221 80 84),oG 75 (oW 86 85),oP 87 75 86]) (oJ 87 (oV (oR [oM 88 0,oM 89 1,oM 90 2,oM 91 11,o4 92 222 88 89 90 91,oM 13 92]) (oV (oR [oM 93 13,oM 1 93]) (.exit 1))) .skip)) (oV (oR [oM 95 0,oM 96 1,oM 97 2,oM 98 11,o4 99 223 95 96 97 98,oM 94 99,oE 100 94 0,oE 101 94 1,oM 14 100,oM 15 101]) (oV (oR [oM 102 15,oM 9 102]) (oV (oR [oM 103 14,oM 104 1,oB .sub 105 103 104,oM 106 2,oM 107 14,oB .sub 108 106 107,oM 16 105,oM 17 108]) (oV (oR [oM 109 10,oC .quo 110 109 8,oM 18 110]) (oV (oR [oM 111 16,oM 112 17,oB .lss 113 111 112]) (oJ 113 (oV (oR [oM 114 16,oM 115 18,oB .geq 116 114 115,oM 8 116]) (oV (oR [oM 117 0,oM 118 1,oM 119 14,oM 120 3,o4 121 197 117 118 119 120]) (oR [oM 122 14,oC .add 123 122 1,oM 1 123]))) (oV (oR [oM 124 17,oM 125 18,oB .geq 126 124 125,oM 8 126]) (oV (oR [oM 127 0,oM 128 14,oC .add 129 128 1,oM 130 2,oM 131 3,o4 132 197 127 129 130 131]) (oR [oM 133 14,oM 2 133]))))))))))))))))))
def zK9:ACode:=(oV (oR [oK 8 (.bool true)]) (oV (oR [oK 9 (.bool true)]) (o5 0 (.loop zNB))))
theorem zTl (n:Nat):∀ (hB h:AHeap) (v:Value) (xs:List Int) (a b lim:Int) (e0:Ext hB h) (hmB:hB.mark<=hB.n) (o:OwnI hB h v xs) (h0:0<=a) (hab:a<=b) (hb:b<=xs.length) (hn:b - a<=n) (hlen:xs.length<=1000000000) (hlim:0<=lim/\lim<=1000) (hpre:0<a->∀ k,a<=k->k<b->atI xs (a - 1)<=atI xs k),
  WC Tryz.prog tb 197 [v,I a,I b,I lim] h fun r h'=>∃ ys,SS hB h v a b xs ys h'/\Srt a b ys:=by
 induction n using Nat.strongRecOn with
 |_ n IH=>
 intro hB h v xs a b lim e0 hmB o h0 hab hb hn hlen hlim hpre;have IH:=Hid.mk IH;have s0:=SS.start a b o e0;refine en 134 [] zK9 ?_;refine WX.loopA [19,20,21,10,22,23,24,25,26,27,28,29,30,31,32,33,34,35,36,37,38,39,40,41,3,43,44,45,46,42,47,48,11,12,49,50,51,52,53,54,55,56,57,58,59,60,11,12,61,62,63,64,65,66,67,68,69,70,71,72,73,74,75,76,77,78,79,80,81,82,83,84,85,86,87,88,89,90,91,92,13,93,1,95,96,97,98,99,94,100,101,14,15,102,9,103,104,105,106,107,108,16,17,109,110,18,111,112,113,114,115,116,8,117,118,119,120,121,122,123,1,124,125,126,8,127,128,129,130,131,132,133,2] (by kernel_rfl) (fun x=>(x.2.2.1 - x.2.1).toNat) (fun (x:List Int×Int×Int×Int×Bool×Bool) t h4=>SS hB h v a b xs x.1 h4/\zB t 1=I x.2.1/\zB t 2=I x.2.2.1/\zB t 3=I x.2.2.2.1/\zB t 8= .bool x.2.2.2.2.1/\zB t 9= .bool x.2.2.2.2.2/\(a<=x.2.1/\x.2.1<=x.2.2.1/\x.2.2.1<=b)/\(0<=x.2.2.2.1/\x.2.2.2.1<=1000)/\Srt a x.2.1 x.1/\Srt x.2.2.1 b x.1/\(∀ p q,a<=p->p<x.2.1->x.2.1<=q->q<b->atI x.1 p<=atI x.1 q)/\(∀ p q,a<=p->p<x.2.2.1->x.2.2.1<=q->q<b->atI x.1 p<=atI x.1 q)/\(0<x.2.1->∀ k,x.2.1<=k->k<x.2.2.1->atI x.1 (x.2.1 - 1)<=atI x.1 k)) (xs,a,b,lim,true,true) ?_ ?_
 ·exact⟨s0,sl_,sl_,sl_,sl_,sl_,by simp only;omega,hlim,Srt.small (by simp only;omega),Srt.small (by simp only;omega),fun p q h1 h2=>by simp only at h2;omega,fun p q h1 h2 h3 h4=>by simp only at h3;omega,hpre⟩
 rintro⟨ys,c,d,lm,wb,wp⟩ t h4 hsame ⟨s4,s1,s2,s3,s8,s9,hcd,hlm,rA,rB,rL,rH,hpr⟩;simp only at s4 s1 s2 s3 s8 s9 hcd hlm rA rB rL rH hpr;have hl4:=s4.len;have whole:Hid (∀ zs h5,SS hB h4 v c d ys zs h5->Srt c d zs->SS hB h v a b xs zs h5/\Srt a b zs):=Hid.mk fun zs h5 s5 r5=>by
  refine⟨s4.call s5 hcd.1 hcd.2.2,fun p q h1 h2 h3=> ?_⟩;have p5:=s5.pi;have o5:=p5.out;by_cases hq:q<c
  ·rw[o5 p (by omega) (.inl (by omega)),o5 q (by omega) (.inl hq)];exact rA p q h1 h2 hq
  by_cases hp:d<=p
  ·rw[o5 p (by omega) (.inr hp),o5 q (by omega) (.inr (by omega))];exact rB p q hp h2 h3
  by_cases hp2:p<c
  ·rw[o5 p (by omega) (.inl hp2)];by_cases hq2:d<=q
   ·rw[o5 q (by omega) (.inr hq2)];exact rL p q h1 hp2 (by omega) h3
   ·exact p5.all (p:=fun x=>atI ys p<=x) (by omega) (by omega) (fun k hk1 hk2=>rL p k h1 hp2 hk1 (by omega)) q (by omega) (by omega)
  ·by_cases hq2:d<=q
   ·rw[o5 q (by omega) (.inr hq2)];exact p5.all (p:=fun x=>x<=atI ys q) (by omega) (by omega) (fun k hk1 hk2=>rH k q (by omega) hk2 hq2 h3) p (by omega) (by omega)
   ·exact r5 p q (by omega) h2 (by omega)
 refine go ?_;refine WX.br (fun hx=> ?_) (fun hx=> ?_)<;>simp only[DB]at hx
 ·refine go ?_;refine WO.con (zHK hB h4 v ys c d s4.ext hmB s4.own (by omega) (by omega) (by omega) (by omega)) ?_;rintro _ h5 ⟨zs,o5,p5,r5,e5,u5⟩;refine gr ?_;exact⟨zs,whole.out zs h5 ⟨o5,e5,u5,p5⟩ r5⟩
 refine go ?_;refine WX.br (fun hy=> ?_) (fun hy=> ?_)<;>simp only[DB]at hy
 ·refine go ?_;refine WO.con (zQ7 hB h4 v ys c d s4.ext hmB s4.own (by omega) (by omega) (by omega) (by omega)) ?_;rintro _ h5 ⟨zs,s5,r5⟩;refine gr ?_;exact⟨zs,whole.out zs h5 s5 r5⟩
 refine go ?_;refine WX.cutA [36,37,38,39,40,41,3] (by kernel_rfl) (fun t h'=>∃ zs l2,SS hB h4 v c d ys zs h'/\zB t 3=I l2/\0<=l2/\l2<=1000) ?_ ?_
 ·refine WX.br (fun hz=> ?_) (fun hz=> ?_)<;>simp only[DB]at hz<;>refine go ?_
  ·refine WO.con (zOz hB h4 v ys c d s4.ext hmB s4.own (by omega) (by omega) (by omega) (by omega)) ?_;rintro _ h5 ⟨zs,s5⟩;refine go ?_;exact zE ⟨zs,lm - 1,s5,sl_,by omega,by omega⟩
  ·exact zE ⟨ys,lm,SS.start c d s4.own s4.ext,sl_,hlm.1,hlm.2⟩
 rintro t5 h5 hs5 ⟨zs,l2,s5,q3,hl2⟩;have hl5:=s5.len;refine go ?_;refine WO.con (zNe h5 v zs c d s5.own.sl (by omega) (by omega) (by omega) (by omega)) ?_;rintro _ h6 ⟨⟨pv,hint,rfl,hpv⟩,e6⟩;have s6:=s5.extd e6;refine go ?_;refine WX.cutA [51,52,53,54,55,56,57,58,59,60,11,12] (by kernel_rfl) (fun t h'=>∃ ws p2 hi2,SS hB h4 v c d ys ws h'/\zB t 11=I p2/\zB t 12=I hi2/\c<=p2/\p2<d) ?_ ?_
 ·refine WX.br (fun hz=> ?_) (fun hz=> ?_)<;>simp only[DB]at hz<;>refine go ?_
  ·refine WO.con (zJE hB h6 v zs c d s6.ext hmB s6.own (by omega) (by omega) (by omega) (by omega)) ?_;rintro _ h7 ⟨ws,s7⟩;refine go ?_;exact zE ⟨ws,_,1,s6.call s7 (by omega) (by omega),sl_,sl_,by omega,by omega⟩
  ·exact zE ⟨zs,pv,hint,s6,sl_,sl_,hpv.1,hpv.2⟩
 clear s5 s6 hl5;rintro t7 h7 hs7 ⟨ws,p2,hi2,s7,q11,q12,hp2⟩;have hl7:=s7.len;have low7:Hid (∀ us,PI c d ys us->0<c->∀ k,c<=k->k<d->atI us (c - 1)<=atI us k):=Hid.mk fun us p hc=>by
  rw[p.out (c - 1) (by omega) (.inl (by omega))];exact p.all (p:=fun x=>atI ys (c - 1)<=x) (by omega) (by omega) (hpr hc)
 have env:Hid (∀ us,PI c d ys us->Srt a c us/\Srt d b us/\(∀ p q,a<=p->p<c->c<=q->q<b->atI us p<=atI us q)/\(∀ p q,a<=p->p<d->d<=q->q<b->atI us p<=atI us q)):=Hid.mk fun us p5=>by
  have o5:=p5.out;refine⟨fun p q h1 h2 h3=> ?_,fun p q h1 h2 h3=> ?_,fun p q h1 h2 h3 h4=> ?_,fun p q h1 h2 h3 h4=> ?_⟩
  ·rw[o5 p (by omega) (.inl (by omega)),o5 q (by omega) (.inl h3)];exact rA p q h1 h2 h3
  ·rw[o5 p (by omega) (.inr (by omega)),o5 q (by omega) (.inr (by omega))];exact rB p q h1 h2 h3
  ·rw[o5 p (by omega) (.inl (by omega))];by_cases hq2:d<=q
   ·rw[o5 q (by omega) (.inr hq2)];exact rL p q h1 h2 h3 h4
   ·exact p5.all (p:=fun x=>atI ys p<=x) (by omega) (by omega) (fun k hk1 hk2=>rL p k h1 h2 hk1 (by omega)) q h3 (by omega)
  ·rw[o5 q (by omega) (.inr (by omega))];by_cases hp:p<c
   ·rw[o5 p (by omega) (.inl hp)];exact rH p q h1 h2 h3 h4
   ·exact p5.all (p:=fun x=>x<=atI ys q) (by omega) (by omega) (fun k hk1 hk2=>rH k q (by omega) hk2 h3 h4) p (by omega) h2
 clear rA rB rL rH hpr;refine go ?_;refine WO.mid 6 (fun t' h'=>h7=h'/\∃ bb,zB t' 68= .bool bb) ?_ ?_<;>simp only[Qn,GB,GM,Q6]
 ·cases wb<;>cases wp<;>refine go ?_<;>exact⟨rfl,rfl,rfl,_,sl_⟩
 rintro t8 _ hs8 ⟨rfl,bb,q68⟩;refine go ?_;refine WX.cutA [69,70,71,72] (by kernel_rfl) (fun t h'=>∃ us,SS hB h4 v c d ys us h') ?_ ?_
 ·refine WX.br (fun hz=> ?_) (fun hz=> ?_)<;>refine go ?_
  ·refine WO.con (zI4 hB h7 v ws c d s7.ext hmB s7.own (by omega) (by omega) (by omega) (by omega) (low7.out ws s7.pi)) ?_;rintro _ h9 ⟨us,w,rfl,s9',r9⟩;have r9:=Hid.mk r9;refine WO.nil ?_;refine Zz ?_;refine WX.br (fun hw=> ?_) (fun hw=> ?_)
   ·refine WX.ret ?_;refine zCq ?_;refine gr ?_;exact⟨us,whole.out us h9 (s7.call s9' (by omega) (by omega)) (r9.out hw)⟩
   ·refine WX.skip ?_;exact zE ⟨us,s7.call s9' (by omega) (by omega)⟩
  ·exact zE ⟨ws,s7⟩
 clear s7 hl7;rintro t9 h9 hs9 ⟨us,s9'⟩;have hl9:=s9'.len;refine go ?_;refine WX.cutA [73,74,75,76,77,78,79,80,81,82,83,84,85,86,87] (by kernel_rfl) (fun t h'=>h9=h'/\zB t 87= .bool (decide (0<c/\¬(atI us (c - 1)<atI us p2)))) ?_ ?_
 ·refine WX.regionU2 0 rfl rfl ?_;have srX:SlI (inC (zC 0 h9)) v us:=(s9'.own).sl;refine goU ?_;refine WO.sp (fun hd=> ?_) (fun hd=> ?_)<;>simp only[DB]at hd<;>refine goU ?_
  ·refine WO.con (ZN _ (atI us (c - 1)) (atI us p2)) ?_;rintro _ _ ⟨rfl,rfl⟩;refine nQ ?_;refine goU ?_;exact zE ⟨rfl,by rw[show decide (0<c/\¬(atI us (c - 1)<atI us p2))= !decide (atI us (c - 1)<atI us p2) from zCS hd];exact sl_⟩
  ·exact zE ⟨rfl,by rw[show decide (0<c/\¬(atI us (c - 1)<atI us p2))=false from QT (fun hh=>absurd hh.1 (by omega))];exact sl_⟩
 rintro t10 _ hs10 ⟨rfl,q10⟩;refine go ?_;refine WX.br (fun hz=> ?_) (fun hz=> ?_)<;>simp only[DB]at hz<;>refine go ?_
 ·refine WO.con (zHS hB h9 v us c d p2 s9'.ext hmB s9'.own (by omega) (by omega) (by omega) (by omega)) ?_;rintro _ h11 ⟨zs,m,rfl,s11,hm,lo,hi⟩;have sw:=s9'.call s11 (Qi _) (Qi _);obtain⟨eA,eB,eL,eH⟩:=env.out zs sw.pi;have lz:=low7.out zs sw.pi hz.1;have hP:atI us p2<=atI zs (c - 1):=by
   rw[s11.pi.out (c - 1) (by omega) (.inl (by omega))];omega
  refine go ?_;refine zA (zs,m,d,l2,wb,wp) (by simp only;omega) ⟨s4.call sw hcd.1 hcd.2.2,sl_,sl_,sl_,sl_,sl_,by simp only;omega,hl2,fun p q h1 h2 h3=> ?_,eB,fun p q h1 h2 h3 h4=> ?_,eH,fun h1 k h2 h3=> ?_⟩
  ·simp only at h3 |-;by_cases hq:q<c
   ·exact eA p q h1 h2 hq
   by_cases hp:p<c
   ·exact eL p q h1 hp (by omega) (by omega)
   ·have x1:=lo p (by omega) (by omega);have x2:=lz q (by omega) (by omega);omega
  ·simp only at h2 h3 |-;by_cases hp:p<c
   ·exact eL p q h1 hp (by omega) h4
   by_cases hq:d<=q
   ·exact eH p q h1 (by omega) hq h4
   ·have x1:=lo p (by omega) (by omega);have x2:=hi q (by omega) (by omega);omega
  ·simp only at h1 h2 h3 |-;have x1:=lo (m - 1) (by omega) (by omega);have x2:=hi k (by omega) (by omega);omega
 ·refine WO.con (zGu hB h9 v us c d p2 s9'.ext hmB s9'.own (by omega) (by omega) (by omega) (by omega)) ?_;rintro _ h11 ⟨zs,m,w,rfl,s11,hm,lo,hi⟩;have sw:=s9'.call s11 (Qi _) (Qi _);have hlw:=sw.len;refine go ?_;refine WO.quo (a:=d - c) (c:=8) (by decide) (by rw[Gw (by omega)];omega) (by rw[Gw (by omega)];omega) ?_;refine go ?_;refine WX.br (fun hy2=> ?_) (fun hy2=> ?_)<;>simp only[DB]at hy2<;>refine go ?_
  ·refine WO.con (IH.out (m - c).toNat (by omega) hB h11 v zs c m l2 sw.ext hmB sw.own (by omega) (by omega) (by omega) (by omega) (by omega) hl2 (fun h1 k h2 h3=>low7.out zs sw.pi h1 k h2 (by omega))) ?_;rintro _ h12 ⟨vs,s12,r12⟩;have st:=sw.call s12 (Qi _) (by omega);obtain⟨eA,eB,eL,eH⟩:=env.out vs st.pi;have same:∀ k,m<=k->atI vs k=atI zs k:=fun k hk=>s12.pi.out k (by omega) (.inr hk);have left:∀ k,c<=k->k<m->atI vs k<=atI zs m:=s12.pi.all (p:=fun x=>x<=atI zs m) (by omega) (by omega) (fun k h1 h2=>lo k h1 h2);refine go ?_;refine zA (vs,m+1,d,l2,decide ((d - c).tdiv 8<=m - c),w) (by simp only;omega) ⟨s4.call st hcd.1 hcd.2.2,sl_,sl_,sl_,sl_,sl_,by simp only;omega,hl2,fun p q h1 h2 h3=> ?_,eB,fun p q h1 h2 h3 h4=> ?_,eH,fun h1 k h2 h3=> ?_⟩
   ·simp only at h3 |-;by_cases hq:q<c
    ·exact eA p q h1 h2 hq
    by_cases hp:p<c
    ·exact eL p q h1 hp (by omega) (by omega)
    by_cases hqm:q=m
    ·by_cases hpm:p=m
     ·rw[hqm,hpm];exact Qi _
     ·rw[hqm,same m (Qi _)];exact left p (by omega) (by omega)
    ·exact r12 p q (by omega) h2 (by omega)
   ·simp only at h2 h3 |-;by_cases hp:p<c
    ·exact eL p q h1 hp (by omega) h4
    by_cases hq:d<=q
    ·exact eH p q h1 (by omega) hq h4
    ·rw[same q (by omega)];have x2:=hi q (by omega) (by omega);by_cases hpm:p=m
     ·rw[hpm,same m (Qi _)];exact x2
     ·have x1:=left p (by omega) (by omega);omega
   ·simp only at h1 h2 h3 |-;rw[show m+1 - 1=m by omega,same m (Qi _),same k (by omega)];exact hi k (by omega) h3
  ·refine WO.con (IH.out (d - (m+1)).toNat (by omega) hB h11 v zs (m+1) d l2 sw.ext hmB sw.own (by omega) (by omega) (by omega) (by omega) (by omega) hl2 (fun h1 k h2 h3=>by rw[show m+1 - 1=m by omega];exact hi k (by omega) h3)) ?_;rintro _ h12 ⟨vs,s12,r12⟩;have st:=sw.call s12 (by omega) (Qi _);obtain⟨eA,eB,eL,eH⟩:=env.out vs st.pi;have same:∀ k,0<=k->k<=m->atI vs k=atI zs k:=fun k h0 hk=>s12.pi.out k h0 (.inl (by omega));have right:∀ k,m+1<=k->k<d->atI zs m<=atI vs k:=s12.pi.all (p:=fun x=>atI zs m<=x) (by omega) (by omega) (fun k h1 h2=>hi k (by omega) h2);refine go ?_;refine zA (vs,c,m,l2,decide ((d - c).tdiv 8<=d - m),w) (by simp only;omega) ⟨s4.call st hcd.1 hcd.2.2,sl_,sl_,sl_,sl_,sl_,by simp only;omega,hl2,eA,fun p q h1 h2 h3=> ?_,eL,fun p q h1 h2 h3 h4=> ?_,fun h1 k h2 h3=> ?_⟩
   ·simp only at h1 |-;by_cases hp:d<=p
    ·exact eB p q hp h2 h3
    by_cases hq:d<=q
    ·exact eH p q (by omega) (by omega) hq h3
    by_cases hpm:p=m
    ·by_cases hqm:q=m
     ·rw[hqm,hpm];exact Qi _
     ·rw[hpm,same m (by omega) (Qi _)];exact right q (by omega) (by omega)
    ·exact r12 p q (by omega) h2 (by omega)
   ·simp only at h2 h3 |-;by_cases hp:p<c
    ·exact eL p q h1 hp (by omega) h4
    by_cases hq:d<=q
    ·exact eH p q h1 (by omega) hq h4
    ·have x1:=lo p (by omega) h2;rw[same p (by omega) (by omega)];by_cases hqm:q=m
     ·rw[hqm,same m (by omega) (Qi _)];exact x1
     ·have x2:=right q (by omega) (by omega);omega
   ·simp only at h1 h2 h3 |-;exact low7.out vs st.pi h1 k h2 (by omega)
theorem zFa (h:AHeap):WC Tryz.prog tb 215 [.slice none 0 0,I 0,I 0] h fun r h'=>h=h':=by
 refine en 49 [] zKr ?_;refine WX.loopA [10,11,12,15,7,16,17,18,19,20,21,22,23,24,25,26,27,28,29,30,33,34,35,36,37,38,39,40,41,42,43,44,45,46,47,48,31,32,7,13,14,6] (by kernel_rfl) (fun _=>0) (fun (_:Unit) t h1=>h=h1/\zB t 6=I 1) () ?_ ?_
 ·exact⟨rfl,sl_⟩
 rintro _ t _ hsame ⟨rfl,s6⟩;refine go ?_;refine rtN ?_;rfl
theorem zRq (h:AHeap) (k:Int):WC Tryz.prog tb 197 [.slice none 0 0,I 0,I 0,I k] h fun r h'=>h=h':=by
 refine en 134 [] zK9 ?_;refine WX.loopA [19,20,21,10,22,23,24,25,26,27,28,29,30,31,32,33,34,35,36,37,38,39,40,41,3,43,44,45,46,42,47,48,11,12,49,50,51,52,53,54,55,56,57,58,59,60,11,12,61,62,63,64,65,66,67,68,69,70,71,72,73,74,75,76,77,78,79,80,81,82,83,84,85,86,87,88,89,90,91,92,13,93,1,95,96,97,98,99,94,100,101,14,15,102,9,103,104,105,106,107,108,16,17,109,110,18,111,112,113,114,115,116,8,117,118,119,120,121,122,123,1,124,125,126,8,127,128,129,130,131,132,133,2] (by kernel_rfl) (fun _=>0) (fun (_:Unit) t h1=>h=h1/\zB t 1=I 0/\zB t 2=I 0) () ?_ ?_
 ·exact⟨rfl,sl_,sl_⟩
 rintro _ t _ hsame ⟨rfl,s1,s2⟩;refine go ?_;refine WO.con (zFa h) ?_;rintro _ _ rfl;refine gr ?_;rfl
def ZS (xs:List Int):List Int:=xs.mergeSort (fun a b=>decide (a<=b))
def zSe:ACode:=(oV (oR [oM 3 0,oQ 4 3,oM 2 4]) (oR [oM 5 0,oM 6 2,oM 7 2,⟨some 8,none,(.conv .u64 (.tmp 7))⟩,o1 9 198 8,⟨some 10,none,(.call (.func 197) [(.tmp 5),(.const (.int .i64 0)),(.tmp 6),(.tmp 9)])⟩]))
theorem zLC (hB h:AHeap) (v:Value) (xs:List Int) (e0:Ext hB h) (hmB:hB.mark<=hB.n) (o:OwnN hB h v xs) (hlen:xs.length<=1000000000):
  WC Tryz.prog tb 159 [v] h fun r h'=>OwnN hB h' v (ZS xs)/\Ext hB h'/\Upd v h h':=by
 have s:SlI h v xs:=o.sl;refine en 11 [] zSe ?_;rw[ZM (by omega) (by omega)];refine WO.con (zPZ h xs.length (by omega) (by omega)) ?_;rintro _ _ ⟨⟨k,rfl,hk,hk2⟩,rfl⟩;refine go ?_;rcases o with ⟨rfl,rfl⟩|o
 ·rw[show ((([]:List Int).length:Nat):Int)=0 from rfl];refine WO.con (zRq h k) ?_;rintro _ _ rfl;refine go ?_;refine rtN ?_;exact⟨.inl ⟨rfl,by simp[ZS]⟩,e0,Upd.refl _ _⟩
 refine WO.con (zTl xs.length hB h v xs 0 xs.length k e0 hmB o (by omega) (by omega) (by omega) (by omega) hlen (by omega) (fun h=>by omega)) ?_;rintro _ h2 ⟨ys,s2,r2⟩;refine go ?_;refine rtN ?_;have:ys=ZS xs:=zJm s2.pi.perm (by rw[s2.len];exact r2);exact⟨.inr (this▸s2.own),s2.ext,s2.upd⟩
set_option maxRecDepth 100000
def zLj:ACode:=(oV (oR [oB .lss 8 7 6]) (oV (oT 8 0) (oV (o5 1 (oV (oR [oI 1 9 5 7,oL 10 9,oM 4 10]) (oV (oR [oM 11 0,oM 12 4,⟨some 13,none,(.call (.tmp 11) [(.tmp 12)])⟩,oW 14 13]) (oJ 14 .ret .skip)))) (oR [oC .add 15 7 1,oM 7 15]))))
def zQt:ACode:=(oV (oR [oL 5 1,oQ 6 5,oN 7 0]) (o5 0 (.loop zLj)))
theorem zJC (hA h:AHeap) (y p v:Value) (l:List Int) (hl:(l.length:Int)<=1000000000) (J:Nat->AHeap->Prop) (h0:J 0 h) (hr:∀ i h',J i h'->OwnC hA h' p [v]/\SlI h' v l)
  (hy:∀ i h',i<l.length->J i h'->WV Tryz.prog tb y [I (l.getD i 0)] h' fun r h''=>r= .bool true/\J (i+1) h''):
  WC Tryz.prog tb 160 [y,p] h fun _ h'=>J l.length h':=by
 obtain⟨o,s⟩:=hr 0 h h0;obtain⟨_,_,_,rfl⟩:=SlC.shape s;have hr:=Hid.mk hr;have hy:=Hid.mk hy;refine en 16 [] zQt ?_;refine WX.loopA [8,9,10,4,11,12,13,14,15,7] (by kernel_rfl) (fun i=>l.length - i) (fun i t h1=>zB t 7=I i/\i<=l.length/\J i h1) 0 ?_ ?_
 ·exact⟨sl_,QV _,h0⟩
 rintro i t h1 hsame ⟨s7,hi,j1⟩;obtain⟨o1,s1⟩:=hr.out i h1 j1;refine go ?_;refine WX.br (fun hb=> ?_) (fun hb=> ?_)<;>simp only[DB]at hb
 ·have hi':i<l.length:=by omega
  refine go ?_;refine WO.conV (hy.out i h1 hi' j1) ?_;rintro _ h2 ⟨rfl,j2⟩;refine go ?_;exact zA (i+1) (by omega) ⟨sln,by omega,j2⟩
 ·refine go ?_;refine rtN ?_;have:i=l.length:=by omega
  subst this;exact j1
def zQW:ACode:=(oV (oR [oX 1 0,⟨some 2,none,(.mov (.const .nilFunc))⟩]) (oV (oR [⟨some 3,none,(.mkFunc (.func 160) [] [(.tmp 1)])⟩,oM 2 3]) .ret))
theorem zMu (h:AHeap) (v:Value):
  WC Tryz.prog tb 107 [v] h fun r h'=>(∃ p,r= .func (.func 160) #[] #[p]/\OwnC h h' p v.cells.toList)/\Ext h h':=by
 refine en 4 [(2,none)] zQW ?_;refine WO.bx ?_;intro p h1 e1 o1;refine gr ?_;exact⟨⟨p,rfl,o1⟩,e1⟩
def zRb:ACode:=(oV (oR [oX 2 0,oK 4 (.slice none 0 0)]) (oV (oV (oR [oM 6 1]) (o5 0 (.rangeFunc (.tmp 6) [7] (oR [oM 5 7]) (o5 1 (oR [oL 8 2,oM 9 5,⟨some 10,none,(.buildSlice 1 1 [(.int .i64 0)] [(0,1,(.tmp 9))])⟩,oY 1 11 8 10,oS 1 2 11]))))) (oV (oR [oL 12 2,oM 4 12]) .ret)))
theorem zGW (h:AHeap) (p v:Value) (l:List Int) (hA:AHeap) (hl:(l.length:Int)<=1000000000) (o:OwnC hA h p [v]) (s:SlI h v l):
  WC Tryz.prog tb 196 [.slice none 0 0,.func (.func 160) #[] #[p]] h fun r h'=>OwnN h h' r l/\Ext h h':=by
 refine en 13 [(4,none)] zRb ?_;refine WO.bx ?_;intro p2 h1 e1 o1;refine go ?_;refine WX.rangeG ?_;intro L g r hO rdy eO hL hg lL lg;have o2:=o1.ext eO;have eb:=e1.trans eO;refine WV.func ?_;refine WC.mono (zJC hA hO _ p v l hl (fun i h'=>Ext h h'/\Lies h' L (.loop r)/\Lies h' g (.deferred (some []))/\∃ w,OwnC h h' p2 [w]/\OwnN h h' w (l.take i)) ?_ ?_ ?_) ?_
 ·exact⟨eb,lL,lg,.slice none 0 0,o2,.inl ⟨rfl,rfl⟩⟩
 ·rintro i h' ⟨e',_⟩;exact⟨o.ext e',s.ext e'⟩
 ·rintro i h' hi ⟨e',lL',lg',w,ow,on⟩;refine WV.yieldG lL' rdy rfl ?_;simp only[zA8];refine go ?_;refine zBE ?_;intro h2 hh2;have e2:Ext h h2:=by rw[hh2];exact e'.set (by have:=e1.n;omega) lL'.1 _
  have ow2:OwnC h h2 p2 [w]:=by rw[hh2];exact ow.setR lL' rfl
  have on2:OwnN h h2 w (l.take i):=by rw[hh2];exact on.setR lL' rfl
  have lL2:Lies h2 L (.loop (busy r)):=by rw[hh2];exact lL'.self
  have lg2:Lies h2 g (.deferred (some [])):=by
   rw[hh2];refine lg'.set ?_;intro e;subst e;have:=lg'.2;rw[lL'.2]at this;cases this
  clear hh2;obtain⟨_,_,_,rfl⟩:=SlC.shape on2.sl;refine go ?_;refine WO.bl [l.getD i 0] ?_;intro v3 h3 e3 o3;refine go ?_;have e03:=e2.trans e3;have htl:(l.take i).length<=i:=by rw[Q1];omega
  refine WO.appendF (v:= .slice _ _ _) (w:=v3) (by exact zT) (by exact zT) (on2.ext e3) o3.sl e03 (by simp) (by simp only[Qa];omega) ?_;intro h4 e4 o4 u4;have ow4:=OwnC.upd (ow2.ext e3) (on2.ext e3) u4;have lL4:=(lL2.ext e3).upd rfl (on2.ext e3) u4;have lg4:=(lg2.ext e3).upd rfl (on2.ext e3) u4;refine go ?_;refine WO.stC0 ow4 e4 ?_;intro h5 e5 ow5 u5;have on5:=OwnI.updC o4 ow4 u5;have lL5:=lL4.updC rfl ow4 u5;have lg5:=lg4.updC rfl ow4 u5;refine go ?_;refine zA7 lL5 ?_;have tk:l.take (i+1)=l.take i++[l.getD i 0]:=by rw[GI];simp[List.getD,QB hi]
  refine⟨rfl,e5.set (by have:=e1.n;omega) lL5.1 _,lL5.self,lg5.set ?_,_,ow5.setR lL5 rfl,?_⟩
  ·intro e;subst e;have:=lg5.2;rw[lL5.2]at this;cases this
  ·rw[tk];exact(OwnN.setR (.inr on5) lL5 rfl)
 ·rintro _ h2 ⟨e2,lL2,lg2,w,ow,on⟩;refine⟨lL2,fun r3=> ?_⟩;have lgL:g≠L:=by intro e;subst e;have:=lg2.2;rw[lL2.2]at this;cases this
  obtain⟨h3,hh3⟩:∃ h3,h3=h2.set L (.loop r3):=⟨_,rfl⟩;have e3:Ext h h3:=by rw[hh3];exact e2.set (by have:=e1.n;omega) lL2.1 _
  have ow3:OwnC h h3 p2 [w]:=by rw[hh3];exact ow.setR lL2 rfl
  have on3:OwnN h h3 w (l.take l.length):=by rw[hh3];exact on.setR lL2 rfl
  have lg3:Lies h3 g (.deferred (some [])):=by rw[hh3];exact lg2.set lgL
  rw[<-hh3];clear hh3;obtain⟨_,_,_,rfl⟩:=SlC.shape on3.sl;refine go ?_;refine zEM lg3 ?_;refine rt ?_;rw[GN]at on3;exact⟨on3.setR lg3 rfl,e3.set (by have:=e1.n;omega) lg3.1 _⟩
def zRR:ACode:=(oV (oR [oK 2 (.slice none 0 0)]) (oV (oR [oM 3 0,⟨some 4,none,(.call (.func 196) [(.const (.slice none 0 0)),(.tmp 3)])⟩,oM 2 4]) .ret))
theorem zJl (h:AHeap) (p v:Value) (l:List Int) (hA:AHeap) (hl:(l.length:Int)<=1000000000) (o:OwnC hA h p [v]) (s:SlI h v l):
  WC Tryz.prog tb 158 [.func (.func 160) #[] #[p]] h fun r h'=>OwnN h h' r l/\Ext h h':=by
 refine en 5 [(2,none)] zRR ?_;refine WO.con (zGW h p v l hA hl o s) ?_;rintro r h1 ⟨o1,e1⟩;refine gr ?_;exact⟨o1,e1⟩
def zQE:ACode:=(oV (oR [oK 2 (.slice none 0 0)]) (oV (oR [oM 4 0,o1 5 158 4,oM 3 5]) (oV (oR [oM 6 3,o1 7 159 6]) (oV (oR [oM 8 3,oM 2 8]) .ret))))
theorem zMo (h:AHeap) (p v:Value) (l:List Int) (hA:AHeap) (hl:(l.length:Int)<=1000000000) (hm:h.mark<=h.n) (o:OwnC hA h p [v]) (s:SlI h v l):
  WC Tryz.prog tb 106 [.func (.func 160) #[] #[p]] h fun r h'=>OwnN h h' r (ZS l)/\Ext h h':=by
 refine en 9 [(2,none)] zQE ?_;refine WO.con (zJl h p v l hA hl o s) ?_;rintro r h1 ⟨o1,e1⟩;refine go ?_;refine WO.con (zLC h h1 r l e1 hm o1 (by omega)) ?_;rintro _ h2 ⟨o2,e2,u2⟩;refine gr ?_;exact⟨o2,e2⟩
def Yn (T:List LType) (F:List LFn) (f:Int):List Int:=(Zl (nxL (zD T F f 0).1) (zD T F f 0).1.length [0] ([],[])).2
theorem zEL {L:List LBlk} (hin:∀ b,0<=b/\b<(L.length:Int)->∀ c∈nxL L b,0<=c/\c<(L.length:Int)) (m:List Int) (hm:∀ c∈m,0<=c/\c<(L.length:Int)):(Zl (nxL L) L.length m ([],[])).2.length<=L.length:=by
 have:∀ (m:List Int) (s:DS),(∀ c∈m,0<=c/\c<(L.length:Int))->(Zl (nxL L) L.length m s).2.length+unb L.length (Zl (nxL L) L.length m s).1<=s.2.length+unb L.length s.1:=by
  intro m;induction m with
  |nil=>intro s _;exact QF _
  |cons x m ih=>intro s hm;exact QW (ih _ fun c hc=>hm c (by simp[hc])) (zDC hin _ x s (hm x (by simp)))
 have h1:=this m ([],[]) hm;have h2:=zED L.length [];simp only[Gh]at h1;omega
def yM (T:List LType) (F:List LFn) (f:Int):List Int×Int:=
 if (zD T F f 0).2≠0 then ([],(zD T F f 0).2) else (ZS (Yn T F f),0)
def zU (T:List LType) (F:List LFn) (f:Int):List Int×Int:=
 if (zD T F f 0).2≠0 then ([],(zD T F f 0).2) else ((Yn T F f).reverse,0)
def zTM:ACode:=(oV (oR [oX 2 0,oK 4 (.slice none 0 0),oN 5 0]) (oV (oR [oA 2 9 2,oM 10 1,⟨some 11,none,(.call (.func 44) [(.tmp 9),(.tmp 10),(.const (.int .i64 0))])⟩,oM 8 11,oE 12 8 0,oE 13 8 1,oM 6 12,oM 7 13]) (oV (oV (oR [oM 14 7,oC .neq 15 14 0]) (oJ 15 (oV (oR [oM 16 7,oK 4 (.slice none 0 0),oM 5 16]) .ret) .skip)) (oV (oR [oM 17 6,⟨some 18,none,(.buildSlice 1 1 [(.int .i64 0)] [(0,1,(.const (.int .i64 0)))])⟩,o2 19 108 17 18,o1 20 107 19,o1 21 106 20,oM 4 21,oN 5 0]) .ret))))
theorem zIo (h:AHeap) (vt vf:Value) (T:List LType) (F:List LFn) (f:Int) (tt:Tbl h) (hm:h.mark<=h.n) (sm:Small T F) (st:SlT h vt T) (sf:SlF h vf F):
  WC Tryz.prog tb 66 [.agg #[vt,vf],I f] h fun r h'=>(∃ v,r= .tuple #[v,I (yM T F f).2]/\OwnN h h' v (yM T F f).1)/\Ext h h':=by
 refine en 22 [(4,none),(5,none)] zTM ?_;refine WO.bx ?_;intro p h1 e1 o1;refine go ?_;refine WO.con (zBO h1 vt vf T F f 0 (tt.ext e1) (yA e1 hm) sm (st.ext e1) (SlF.ext sf e1)) ?_;rintro _ h2 ⟨⟨v,rfl,sb⟩,e2⟩;have e12:=e1.trans e2;refine go ?_;refine WX.br (fun hb=> ?_) (fun hb=> ?_)<;>simp only[DB]at hb<;>refine go ?_
 ·refine rt ?_;rw[show yM T F f=([],(zD T F f 0).2) from by rw[yM,QI hb]];exact⟨⟨_,rfl,.inl ⟨rfl,rfl⟩⟩,e12⟩
 have hb0:(zD T F f 0).2=0:=by omega
 obtain⟨hlen,hnx⟩:=Zc hb0;obtain⟨_,hpos,_,_⟩:=yh hb0;have hr0:∀ c∈([0]:List Int),0<=c/\c<((zD T F f 0).1.length:Int):=fun c hc=>by
  rw[QQ]at hc;subst hc;exact⟨Qi _,hpos⟩
 have hlp:=zEL hnx [0] hr0;rw[show yM T F f=(ZS (Yn T F f),0) from by rw[yM,QD (by omega)]];refine WO.bl [0] ?_;intro v3 h3 e3 o3;have e13:=e12.trans e3;refine go ?_;refine WO.con (zLA h3 (yA e13 hm) _ v v3 [0] (SlB.ext sb e3) (by omega) hnx o3.sl (by decide) hr0) ?_;rintro q h4 ⟨o4,e4⟩;have e14:=e13.trans e4;obtain⟨qa,qn,qk,rfl⟩:=SlC.shape o4.sl;refine go ?_;refine WO.con (zMu h4 _) ?_;rintro _ h5 ⟨⟨p5,rfl,o5⟩,e5⟩;have e15:=e14.trans e5;refine go ?_;refine WO.con (zMo h5 p5 _ _ h4 (by omega) (yA e15 hm) o5 (o4.sl.ext e5)) ?_;rintro r h6 ⟨o6,e6⟩;refine gr ?_;exact⟨⟨_,rfl,o6.since e15⟩,e15.trans e6⟩
end
end Go.Proofs.YteekipjpghikkaaGreatDoor
