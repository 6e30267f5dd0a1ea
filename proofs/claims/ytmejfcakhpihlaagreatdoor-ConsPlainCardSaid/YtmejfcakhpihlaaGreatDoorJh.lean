/- Walks of functions, plain laws; proves no statement. -/
import Derived.Test.YtmejfcakhpihlaaGreatDoorJg
set_option linter.unusedVariables false
set_option linter.unusedSimpArgs false
set_option maxHeartbeats 2000000
namespace Go.Proofs.YtmejfcakhpihlaaGreatDoor
noncomputable section
open Go.Am
def yj(x:Bl):List Int:=if x.kind=2\/x.kind=3 then[x.a]else[]
theorem zHW(L:List WW)(i:Nat):zI (L.take i)<=zI L:=by
 have h1:zI L=zI (L.take i)+zI (L.drop i):=by
  conv=>lhs;rw[<-GH i L]
  unfold zI;rw[GA,Gu]
 have:=zAc (L.drop i);omega
def zCd(par:Int)(L:List WW):Int:=par+zI L
structure InsU(x:Wg)(N n:Int):Prop where
 op:1<=x.op/\x.op<=22
 uses:∀ r∈zi x,0<=r/\r<N
 args:x.args.length<=20
 frm:x.frm.length<=20
 phi:x.op=22->x.frm.length=x.args.length/\(∀ r∈x.args,0<=r/\r<N)/\(∀ b∈x.frm,0<=b/\b<n)
 none:x.op≠22->x.frm.length=0
structure BlkU(b:WW)(N n:Int):Prop where
 ins:∀ x∈b.ins,InsU x N n
 ends:∀ r∈yj b.fin,0<=r/\r<N
 next:∀ k∈Yh b.fin,0<=k/\k<n
theorem zOt{x:Wg}{s:Br}(h:zCb x s=true):1<=x.op/\x.op<=22:=by
 by_cases h0:0<=x.op
 ·exact((zEw h0).1 h).op
 ·exfalso;have he:zW x.op=(false,false,false,false,false,false):=by
   unfold zW;rw[show x.op.toNat=0 by omega];rfl
  unfold zCb zQp at h;rw[he]at h;simp at h
theorem zVQ{x:Wg}{s:Br}(h:zCb x s=true):InsU x s.regs s.blocks:=by
 have ho:=zOt h;have m:=(zEw (by omega)).1 h;have ha:=zDp (op:=x.op) (by omega);have h22:(zW x.op).2.2.2.2.1=true↔x.op=22:=ha.2.2.2.2.1;have hg:(zW x.op).2.2.2.1=true↔zHx x.op:=ha.2.2.1;have hf:=m.frm;have hgl:=m.g;have hargs:(x.args.length:Int)<=16:=by
  split at hf
  ·omega
  ·omega
 have hfrm:(x.frm.length:Int)<=16:=by
  split at hf
  ·omega
  ·omega
 refine⟨ho,m.uses,by omega,by omega,fun e=> ?_,fun e=> ?_⟩
 ·rw[QI (h22.2 e)]at hf;refine⟨by omega,fun r hr=>m.uses r ?_,hf.2.2.2⟩;unfold zi;rw[show(zW x.op).2.2.2.1=true from hg.2 (by unfold zHx;omega),QI rfl];exact Qi.2 (.inr (Qi.2 (.inr hr)))
 ·rw[QC (fun q=>e (h22.1 q))]at hf;omega
theorem zVH{b:WW}{s:Br}(h:zCc b s=false):BlkU b s.regs s.blocks:=by
 unfold zCc at h;rw[Bool.or_eq_false_iff]at h;obtain⟨h1,h2⟩:=h;have h2:zBN b.fin s=true:=by simpa using h2
 have he:=zNp.1 h2;refine⟨fun x hx=>zVQ ?_,fun r hr=> ?_,fun k hk=> ?_⟩
 ·cases hi:zCb x s with
  |true=>rfl
  |false=>exact absurd h1 (by rw[JG.2 ⟨x,hx,by rw[hi];rfl⟩];simp)
 ·unfold yj at hr;split at hr
  ·rw[QW]at hr;subst hr;rcases he with⟨e,_⟩|⟨e,q,_⟩|⟨e,_,_,q⟩
   ·omega
   ·exact q _ (by simp)
   ·exact q _ (by simp)
  ·cases hr
 ·unfold Yh at hk;rcases he with⟨e,_,_,q⟩|⟨e,_,q⟩|⟨e,_⟩
  ·rw[QI e]at hk;exact q k hk
  ·rw[QC (by omega),QI e]at hk;split at hk
   ·exact q k (by rw[QW]at hk;subst hk;simp)
   ·exact q k hk
  ·rw[QC (by omega),QC (by omega)]at hk;cases hk
theorem zVW{T:List U5}{nf:Int}{f:WP}(h:BX T nf f=true):∀ b∈f.blocks,BlkU b (zCd ((T.getD f.sig.toNat default).parts.length:Int) f.blocks) f.blocks.length:=by
 intro b hb;unfold BX at h;split at h
 ·cases h
 ·have h:(f.blocks.any fun b=>zCc b (szL T nf f))=false:=by simpa using h
  have:=zVH (b:=b) (s:=szL T nf f) (by
   cases q:zCc b (szL T nf f)with
   |false=>rfl
   |true=>rw[JG.2 ⟨b,hb,q⟩]at h;cases h)
  exact this
theorem zUI{T:List U5}{n:Int}{f:WP}(h:BX T n f=true):1<=f.blocks.length/\f.blocks.length<=16/\zI f.blocks<=128:=by
 unfold BX at h;split at h
 ·cases h
 ·rename_i hb;unfold zBl at hb;simp only[GB,GZ,Gg,not_or,Bool.not_eq_false]at hb;obtain⟨⟨⟨_,_⟩,h3⟩,h4⟩:=hb;unfold zS at h3;simp at h3;omega
set_option maxRecDepth 100000
def zR2:U3:=(oV (oR [oX 1 0,oK 2 (.slice none 0 0)]) (oV (oR [oF 0 4 1,oL 5 4,o1 6 136 5,⟨some 3,none,(.alloc [(.bool false),(.bool false),(.bool false),(.bool false),(.bool false),(.bool false)])⟩,oS 6 3 6]) (oV (oV (oR [oF 0 7 3,oL 8 7]) (oJ 8 (oR [oM 9 2,oF 2 10 1,oL 11 10,⟨some 12,none,(.buildSlice 1 1 [(.int .i64 0)] [(0,1,(.tmp 11))])⟩,oY 1 13 9 12,oM 2 13]) .skip)) (oV (oV (oR [oF 1 14 3,oL 15 14]) (oJ 15 (oR [oM 16 2,oF 3 17 1,oL 18 17,⟨some 19,none,(.buildSlice 1 1 [(.int .i64 0)] [(0,1,(.tmp 18))])⟩,oY 1 20 16 19,oM 2 20]) .skip)) (oV (oV (oR [oF 3 21 3,oL 22 21]) (oJ 22 (oR [oM 23 2,oF 5 24 1,oL 25 24,oY 1 26 23 25,oM 2 26]) .skip)) (oV (oR [oM 27 2,oM 2 27]) .ret))))))
theorem zNr(h:U2)(x:Wg)(cs:List Value)(hcs:BM h cs x)(tt:Be h)(hx:x.args.length<=20):
  WC Tryz.prog tb 124 [.agg cs.toArray] h fun r h'=>WJ h h' r (zi x)/\U8 h h':=by
 obtain⟨va,vfr,rfl,sa,sfr,hla,hlf,ho,ho2⟩:=hcs;obtain⟨aa,an,ak,rfl⟩:=Wb.shape sa;obtain⟨fa,fn,fk,rfl⟩:=Wb.shape sfr;refine en 28 [(2,none)] zR2 ?_;refine VH ?_;intro p h1 e1 o1;refine go ?_;refine VA (zPd h1 x.op (tt.ext e1) ho ho2) ?_;rintro _ h2 ⟨rfl,e2⟩;refine go ?_;refine WO.al ?_;intro p3 h3 e3 o3;refine go ?_;refine VG (cs:=YZ (zW x.op)) o3 e3 ?_;intro h4 e4 o4 u4;have e14:=e2.trans e4;have o1:=o1.ext e14;have sa4:=WM.ext sa (e1.trans e14);have o4:=o4.since e2;have o4:=o4.since e1;have e04:=e1.trans e14;clear e1 e2 e3 e4 u4 e14 o3;unfold zi;generalize zW x.op=q at *;obtain⟨qa,qb,qn,qg,qf,qt⟩:=q;simp only;refine go ?_;refine VJ [9,10,11,12,13,2] (by kernel_rfl) (fun t h'=>U8 h4 h'/\∃ w,zB t 2=w/\WJ h4 h' w (if qa then[x.a]else[])) ?_ ?_
 ·cases qa with
  |true=>
   refine go ?_;refine WO.bl [x.a] ?_;intro v h2 e2 o2;refine go ?_;refine Vb (v:= .slice none 0 0) (xs:=[]) (h0:=h4) (.inl ⟨rfl,rfl⟩) o2.sl e2 (by simp) ?_;intro v3 h3 e3 o3;refine go ?_;exact zG ⟨e3,v3,WA,o3⟩
  |false=>
   refine go ?_;exact zG ⟨U8.refl _,_,WA,.inl ⟨rfl,rfl⟩⟩
 rintro t2 h2 hs2 ⟨e2,w2,q2,ow2⟩;have o2:=o1.ext e2;have o42:=o4.ext e2;have l2:(if qa then[x.a]else[]).length<=1:=by split<;>simp
 generalize(if qa then[x.a]else[])=lA at *;refine go ?_;refine VJ [16,17,18,19,20,2] (by kernel_rfl) (fun t h'=>U8 h4 h'/\∃ w,zB t 2=w/\WJ h4 h' w (lA++if qb then[x.b]else[])) ?_ ?_
 ·cases qb with
  |true=>
   refine go ?_;refine WO.bl [x.b] ?_;intro v h3 e3 o3;refine go ?_;refine Vb (WJ.ext ow2 e3) o3.sl (e2.trans e3) (by simp only[Qa];omega) ?_;intro v4 h5 e5 o5;refine go ?_;exact zG ⟨e5,v4,WA,o5⟩
  |false=>
   refine go ?_;exact zG ⟨e2,_,WA,by simpa using ow2⟩
 rintro t3 h3 hs3 ⟨e3,w3,q3,ow3⟩;have o3:=o1.ext e3;have o43:=o4.ext e3;have sa3:=WM.ext sa4 e3;have l3:(lA++if qb then[x.b]else[]).length<=2:=by rw[QM];split<;>simp<;>omega
 rw[<-QZ];generalize(lA++if qb then[x.b]else[])=lB at *;refine go ?_;cases qg with
 |true=>
  refine go ?_;refine Vb ow3 sa3 e3 (by omega) ?_;intro v5 h5 e5 o5;refine gr ?_;exact⟨o5.since e04,e04.trans e5⟩
 |false=>
  refine gr ?_;subst q3;rw[QC (by simp),Gp];exact⟨ow3.since e04,e04.trans e3⟩
def zQl:U3:=(oV (oR [oX 1 0,oK 2 (.slice none 0 0)]) (oV (oV (oR [oF 0 3 1,oL 4 3,oD .eql 5 4 2,oM 6 5,oH 6 (oF 0 7 1),oH 6 (oL 8 7),oH 6 (oD .eql 9 8 3),oO 10 6 9]) (oJ 10 (oV (oR [oF 1 11 1,oL 12 11,⟨some 13,none,(.buildSlice 1 1 [(.int .i64 0)] [(0,1,(.tmp 12))])⟩,oM 2 13]) .ret) .skip)) (oV (oR [oK 2 (.slice none 0 0)]) .ret)))
theorem zIq(h:U2)(x:Bl):WC Tryz.prog tb 130 [.agg #[.int .u8 x.kind,I x.a,I x.to,I x.els]] h fun r h'=>WJ h h' r (yj x)/\U8 h h':=by
 refine en 14 [(2,none)] zQl ?_;refine VH ?_;intro p h1 e1 o1;unfold yj;by_cases c2:x.kind=2
 ·rw[QI (.inl c2)];refine go ?_;refine WO.bl [x.a] ?_;intro v h2 e2 o2;refine gr ?_;exact⟨.inr (o2.since e1),e1.trans e2⟩
 by_cases c3:x.kind=3
 ·rw[QI (.inr c3)];refine go ?_;refine WO.bl [x.a] ?_;intro v h2 e2 o2;refine gr ?_;exact⟨.inr (o2.since e1),e1.trans e2⟩
 rw[QC (by simp[c2,c3])];refine gr ?_;exact⟨.inl ⟨rfl,rfl⟩,e1⟩
set_option maxRecDepth 100000
def zT0:U3:=(oV (oR [oK 2 (.slice none 0 0)]) (oV (oV (oR [oM 3 0,⟨some 4,none,(.isNil 0 false (.tmp 3))⟩]) (oJ 4 (oV (oR [oK 2 (.slice none 0 0)]) .ret) .skip)) (oV (oR [⟨some 5,none,(.buildSlice 0 1 [(.int .i64 0)] [])⟩,oM 6 0,oY 1 7 5 6,oM 2 7]) .ret)))
theorem zIC(h:U2)(v:Value)(l:List Int)(s:WM h v l)(hl:l.length<=1000000):WC Tryz.prog tb 50 [v] h fun r h'=>WJ h h' r l/\U8 h h':=by
 refine en 8 [(2,none)] zT0 ?_;obtain⟨a,n,k,rfl⟩:=Wb.shape s;cases a with
 |none=>
  have hn:l=[]:=by
   rcases s.2 with⟨h0,_⟩|⟨g,off,row,hv,_⟩
   ·exact Ga.1 h0
   ·cases hv
  subst hn;refine go ?_;refine VE (fun hb=> ?_) (fun hb=> ?_)
  ·refine gr ?_;exact⟨.inl ⟨rfl,rfl⟩,U8.refl _⟩
  ·exact absurd hb (by simp)
 |some a=>
  refine go ?_;refine VE (fun hb=> ?_) (fun hb=> ?_)
  ·exact absurd hb (by simp)
  ·refine go ?_;refine WO.bl [] ?_;intro v1 h1 e1 o1;have s1:=WM.ext s e1;refine go ?_;refine Vb (.inr o1) s1 e1 (by simp only[Gz];omega) ?_;intro v2 h2 e2 o2;refine gr ?_;exact⟨o2,e2⟩
set_option maxRecDepth 100000
theorem zJt{k:Int}(h0:0<=k)(h:k<4294967296):yK .and (.int .u64 k) (.int .u64 4294967295)=some (.int .u64 k):=by
 have e:(BitVec.ofInt 64 k&&& BitVec.ofInt 64 4294967295).toNat=k.toNat:=by
  rw[BitVec.toNat_and,show(BitVec.ofInt 64 4294967295).toNat=2 ^ 32-1 from rfl,Nat.and_two_pow_sub_one_eq_mod,BitVec.toNat_ofInt];omega
 simp only[yK,ne_eq,not_true_eq_false,Gi];rw[show((BitVec.ofInt (IntKind.bits .u64) k&&& BitVec.ofInt (IntKind.bits .u64) 4294967295).toNat)=k.toNat from e,show((k.toNat:Nat):Int)=k by omega,Yp h0 (by omega)];rfl
theorem zEk{k:Int}(h0:0<=k)(h:k<4294967296):yK .shr (.int .u64 k) (.int .u64 32)=some (.int .u64 0):=by
 have e:(min (32:Int).toNat IntKind.u64.bits)=32:=rfl;simp only[yK,e];rw[QC (by decide),Int.fdiv_eq_ediv_of_nonneg _ (by decide),show k / 2 ^ 32=0 by omega]
theorem zEx{a b c:Int}(e:a*b=c)(h0:0<=c)(h:c<18446744073709551616):yK .mul (.int .u64 a) (.int .u64 b)=some (.int .u64 c):=by
 subst e;simp only[yK,ne_eq,not_true_eq_false,Gi,Q2];rw[Yp h0 h]
theorem zHT{a b c:Int}(e:a+b=c)(h0:0<=c)(h:c<18446744073709551616):yK .add (.int .u64 a) (.int .u64 b)=some (.int .u64 c):=by
 subst e;simp only[yK,ne_eq,not_true_eq_false,Gi,Q2];rw[Yp h0 h]
def zRJ:U3:=(oV (oR [oK 4 (.int .u64 0),oK 5 (.int .u64 0)]) (oV (oR [oM 14 0,⟨some 15,none,(.bin .and (.tmp 14) (.const (.int .u64 4294967295)))⟩,oM 6 15]) (oV (oR [oM 16 0,⟨some 17,none,(.bin .shr (.tmp 16) (.const (.int .u64 32)))⟩,oM 7 17]) (oV (oR [oM 18 1,⟨some 19,none,(.bin .and (.tmp 18) (.const (.int .u64 4294967295)))⟩,oM 8 19]) (oV (oR [oM 20 1,⟨some 21,none,(.bin .shr (.tmp 20) (.const (.int .u64 32)))⟩,oM 9 21]) (oV (oR [oM 22 6,oM 23 8,oB .mul 24 22 23,oM 10 24]) (oV (oR [oM 25 7,oM 26 8,oB .mul 27 25 26,oM 28 10,⟨some 29,none,(.bin .shr (.tmp 28) (.const (.int .u64 32)))⟩,oB .add 30 27 29,oM 11 30]) (oV (oR [oM 31 11,⟨some 32,none,(.bin .and (.tmp 31) (.const (.int .u64 4294967295)))⟩,oM 12 32]) (oV (oR [oM 33 11,⟨some 34,none,(.bin .shr (.tmp 33) (.const (.int .u64 32)))⟩,oM 13 34]) (oV (oR [oM 35 12,oM 36 6,oM 37 9,oB .mul 38 36 37,oB .add 39 35 38,oM 12 39]) (oV (oR [oM 40 7,oM 41 9,oB .mul 42 40 41,oM 43 13,oB .add 44 42 43,oM 45 12,⟨some 46,none,(.bin .shr (.tmp 45) (.const (.int .u64 32)))⟩,oB .add 47 44 46,oM 4 47]) (oV (oR [oM 48 0,oM 49 1,oB .mul 50 48 49,oM 5 50]) .ret))))))))))))
theorem zNh(h:U2)(k:Nat)(hk:k<4294967296):WC Tryz.prog tb 194 [.int .u64 1,.int .u64 k] h fun r h'=>r=.tuple #[.int .u64 0,.int .u64 k]/\h=h':=by
 have k0:(0:Int)<=k:=by omega
 have k1:(k:Int)<4294967296:=by omega
 refine en 51 [(4,none),(5,none)] zRJ ?_;refine WO.bin zM zM (zJt (by omega) (by omega)) ?_;refine go ?_;refine WO.bin zM zM (zEk (by omega) (by omega)) ?_;refine go ?_;refine WO.bin zM zM (zJt k0 k1) ?_;refine go ?_;refine WO.bin zM zM (zEk k0 k1) ?_;refine go ?_;refine WO.bin zM zM (zEx (Int.one_mul _) k0 (by omega)) ?_;refine go ?_;refine WO.bin zM zM (zEx (Int.zero_mul _) (Qk 0) (by omega)) ?_;refine go ?_;refine WO.bin zM zM (zEk k0 k1) ?_;refine go ?_;refine WO.bin zM zM (zHT rfl (by omega) (by omega)) ?_;refine go ?_;refine WO.bin zM zM (zJt (by omega) (by omega)) ?_;refine go ?_;refine WO.bin zM zM (zEk (by omega) (by omega)) ?_;refine go ?_;refine WO.bin zM zM (zEx rfl (by omega) (by omega)) ?_;refine go ?_;refine WO.bin zM zM (zHT rfl (by omega) (by omega)) ?_;refine go ?_;refine WO.bin zM zM (zEx rfl (by omega) (by omega)) ?_;refine go ?_;refine WO.bin zM zM (zHT rfl (by omega) (by omega)) ?_;refine go ?_;refine WO.bin zM zM (zEk (by omega) (by omega)) ?_;refine go ?_;refine WO.bin zM zM (zHT rfl (by omega) (by omega)) ?_;refine go ?_;refine WO.bin zM zM (zEx (Int.one_mul _) k0 (by omega)) ?_;refine gr ?_;exact⟨rfl,rfl⟩
def zSU:U3:=(oV (oR [oK 4 (.int .u64 0),oK 5 (.int .u64 0)]) (oV (.cond (.const (.bool false)) (oV (oR [oM 11 0,⟨some 12,none,(.conv .u32 (.tmp 11))⟩,oM 13 1,⟨some 14,none,(.conv .u32 (.tmp 13))⟩,o2 15 193 12 14,oM 10 15,oE 16 10 0,oE 17 10 1,oM 6 16,oM 7 17]) (oV (oR [oM 18 6,⟨some 19,none,(.conv .u64 (.tmp 18))⟩,oM 20 7,⟨some 21,none,(.conv .u64 (.tmp 20))⟩,oM 4 19,oM 5 21]) .ret)) .skip) (oV (oR [oM 23 0,oM 24 1,o2 25 194 23 24,oM 22 25,oE 26 22 0,oE 27 22 1,oM 8 26,oM 9 27]) (oV (oR [oM 28 8,oM 29 9,oM 4 28,oM 5 29]) .ret))))
theorem zRU(h:U2)(k:Nat)(hk:k<4294967296):WC Tryz.prog tb 135 [.int .u64 1,.int .u64 k] h fun r h'=>r=.tuple #[.int .u64 0,.int .u64 k]/\h=h':=by
 refine en 30 [(4,none),(5,none)] zSU ?_;refine VA (zNh h k hk) ?_;rintro _ _ ⟨rfl,rfl⟩;refine gr ?_;exact⟨rfl,rfl⟩
theorem zFW{z:List Value}:∀ {m n:Nat},m<=n->(zY z n).take (m*z.length)=zY z m
 |0,n,_=>by simp[zY]
 |m+1,0,h=>by omega
 |m+1,n+1,h=>by
  show(z++zY z n).take _=z++zY z m;rw[show(m+1)*z.length=z.length+m*z.length by rw[Gq];omega,List.take_length_add_append,zFW (by omega)]
theorem zBd{z:List Value}:∀ {m n:Nat},(zY z n).drop (m*z.length)=zY z (n-m)
 |0,n=>by simp
 |m+1,0=>by simp[zY]
 |m+1,n+1=>by
  show(z++zY z n).drop _=_;rw[show(m+1)*z.length=z.length+m*z.length by rw[Gq];omega,List.drop_length_add_append,zBd (m:=m) (n:=n),show n+1-(m+1)=n-m by omega]
theorem zHc{z:List Value}:∀ {m n:Nat},zY z m++zY z n=zY z (m+n)
 |0,n=>by simp[zY]
 |m+1,n=>by
  show(z++zY z m)++zY z n=_;rw[QZ,zHc,show m+1+n=(m+n)+1 by omega];rfl
def zBA(z w:List Value)(n k:Nat):List Value:=zY w n++zY z (k-n)
theorem zOD{z w:List Value}{n k m:Nat}(hw:w.length=z.length)(hm:m<=n)(hk:n+m<=k):zd (zBA z w n k) (n*z.length) ((zY w n).take (m*z.length))=zBA z w (n+m) k:=by
 have h1:(zY w n).length=n*z.length:=by rw[zw,hw]
 have h3:(zY w n).take (m*z.length)=zY w m:=by rw[<-hw];exact zFW hm
 have h2:(zY w m).length=m*z.length:=by rw[zw,hw]
 unfold zd zBA;rw[h3,h2];rw[show List.take (n*z.length) (zY w n++zY z (k-n))=zY w n by rw[<-h1];exact List.take_left];rw[show n*z.length+m*z.length=(zY w n).length+m*z.length by rw[h1],List.drop_length_add_append,zBd,<-zHc,show k-n-m=k-(n+m) by omega]
theorem zMH{c g off len n:Nat}(hn:n<=len):ZZ c (.slice (some ⟨g,off,none⟩) len c) none (some n) none=some (.slice (some ⟨g,off,none⟩) n c):=by
 have b1:Nat.ble 0 n=true:=QH (QT _);have b2:Nat.ble n len=true:=QH hn;simp only[ZZ,Gm,GC,b1,b2,Qz,Q1,cond_true,Ge,Nat.zero_mul,Nat.add_zero,Nat.sub_zero]
theorem zKZ{w:List Value}(h:zK w=true):∀ n,zK (zY w n)=true
 |0=>rfl
 |n+1=>by
  have:=zKZ h n;unfold zK at *;show(w++zY w n).all _=true;rw[List.all_append,h,this];rfl
def zPf:U3:=(oV (oV (oR [oM 34 8,oM 35 7,oQ 36 35,oB .lss 37 34 36]) (oT 37 0)) (o5 1 (o6 [oM 38 8,oM 39 7,oM 40 8,(⟨some 41,none,(.slice 2 (.tmp 39) (some (.tmp 40)) none none)⟩,[]),oM 42 7,oM 43 8,(⟨some 44,none,(.slice 2 (.tmp 42) none (some (.tmp 43)) none)⟩,[]),(⟨some 45,none,(.copy 2 (.tmp 41) (.tmp 44))⟩,[]),oB .add 46 38 45,oM 8 46])))
def zTy:U3:=(oV (oR [oK 4 (.slice none 0 0)]) (oV (oV (oR [oM 9 1,oC .lss 10 9 0]) (oJ 10 (oR [⟨some 11,none,(.mkIface 9 (.const (.string ⟨#[99,97,110,110,111,116,32,98,101,32,110,101,103,97,116,105,118,101]⟩)))⟩,⟨none,none,.stuck⟩]) .skip)) (oV (oR [oM 13 0,oQ 14 13,⟨some 15,none,(.conv .u64 (.tmp 14))⟩,oM 16 1,⟨some 17,none,(.conv .u64 (.tmp 16))⟩,o2 18 135 15 17,oM 12 18,oE 19 12 0,oE 20 12 1,oM 5 19,oM 6 20]) (oV (oV (oR [oM 21 5,⟨some 22,none,(.bin .gtr (.tmp 21) (.const (.int .u64 0)))⟩,oM 23 22,oH 23 (oM 24 6),⟨some 25,some (23,false),(.bin .gtr (.tmp 24) (.const (.int .u64 9223372036854775807)))⟩,oO 26 23 25]) (oJ 26 (oR [⟨some 27,none,(.mkIface 9 (.const (.string ⟨#[116,104,101,32,114,101,115,117,108,116,32,111,102,32,40,108,101,110,40,120,41,32,42,32,99,111,117,110,116,41,32,111,118,101,114,102,108,111,119,115]⟩)))⟩,⟨none,none,.stuck⟩]) .skip)) (oV (oR [oM 28 6,⟨some 29,none,(.conv .i64 (.tmp 28))⟩,⟨some 30,none,(.mkSlice 2 [(.int .i64 0),(.int .i64 0)] (.tmp 29) (.tmp 29))⟩,oM 7 30]) (oV (oR [oM 31 7,oM 32 0,⟨some 33,none,(.copy 2 (.tmp 31) (.tmp 32))⟩,oM 8 33]) (oV (o5 0 (.loop zPf)) (oV (oR [oM 47 7,oM 4 47]) .ret))))))))
theorem zJj(h:U2)(v:Value)(a b:Int)(k:Nat)(s:Wb 2 h v 1 [I a,I b])(hm:h.mark<=h.n)(hk:k<=100000):
  WC Tryz.prog tb 83 [v,I k] h fun r h'=>(∃ g,h.n<=g/\g<h'.n/\r=.slice (some ⟨g,0,none⟩) k 2/\h'.get g=some (.row (zY [I a,I b] k) true 0))/\U8 h h':=by
 obtain⟨a1,a2,a3,rfl⟩:=Wb.shape s;have hlen:∀ {P:Program} {ih:Ex} {t:U7 Value} {x:Operand},ev t x=.slice a1 a2 a3->WE P ih t h (.len x)=some (I 1,h):=fun hx=>zDq s hx;refine en 48 [(4,none)] zTy ?_;refine WO.op _ _ rfl (hlen (by exact zM)) ?_;refine go ?_;have hw1:IntKind.wrap .u64 1=1:=rfl;have hwk:IntKind.wrap .u64 (k:Int)=k:=Yp (by omega) (by omega);simp only[hw1,hwk];refine VA (zRU h k (by omega)) ?_;rintro _ _ ⟨rfl,rfl⟩;refine go ?_;refine Uo (n:=k) hk ?_;intro h1 e1 n1 g1;refine go ?_;have s1:=s.ext e1;refine Xd (m:=min 1 k) g1 s1 (by decide) rfl (by rw[zw];show 0+_*2<=k*2;omega) rfl ?_;intro h2 n2 k2 g2 w2 m2 r2 _;have e2:U8 h h2:=⟨by omega,fun j hj=>(k2 j (by omega)).trans (e1.get j hj),fun w=>w2 (e1.wf w),m2.trans e1.mark,fun hm=>(r2 (by rw[e1.mark];exact hm)).trans (e1.wr hm)⟩;have g2:h2.get h.n=some (.row (zBA [I 0,I 0] [I a,I b] (min 1 k) k) true 0):=by
  rw[g2];congr 2;by_cases h0:k=0
  ·subst h0;rfl
  ·have hm1:min 1 k=1:=by omega
   rw[hm1];show zd (zY [I 0,I 0] k) 0 _=zY [I a,I b] 1++zY [I 0,I 0] (k-1);unfold zd;show _++List.drop (1*([I 0,I 0]:List Value).length) _=_;rw[zBd];rfl
 clear g1 k2 w2 m2 r2;refine go ?_;refine VD [34,35,36,37,38,39,40,41,42,43,44,45,46,8] (by kernel_rfl) (fun i=>k-i) (fun i t h1=>U8 h h1/\zB t 8=I i/\i<=k/\(1<=i\/k=0)/\h.n<h1.n/\h1.get h.n=some (.row (zBA [I 0,I 0] [I a,I b] i k) true 0)) (min 1 k) ?_ ?_
 ·exact⟨e2,WA,by omega,by omega,by omega,g2⟩
 rintro i t h3 hsame ⟨e3,s8,hi,hi1,n3,g3⟩;have sl3:Wb 2 h3 (.slice (some ⟨h.n,0,none⟩) k 2) k (zBA [I 0,I 0] [I a,I b] i k):=Wb.own n3 g3 (by unfold zBA;rw[QM,zw,zw];show i*2+(k-i)*2=k*2;omega);have hlen3:∀ {P:Program} {ih:Ex} {t:U7 Value} {x:Operand},ev t x=.slice (some ⟨h.n,0,none⟩) k 2->WE P ih t h3 (.len x)=some (I k,h3):=fun hx=>zDq sl3 hx;refine go ?_;refine WO.op _ _ rfl (hlen3 (by exact zM)) ?_;refine go ?_;refine VE (fun hb=> ?_) (fun hb=> ?_)<;>simp only[DB]at hb
 ·have hik:i<k:=by omega
  refine go ?_;refine VC 0 rfl rfl ?_;refine WT ?_;refine Vj (i:=i) (hy:=by exact zM) (zIg (Nat.le_of_lt hik)) ?_;refine nQ ?_;refine WT ?_;refine Vs (i:=i) (hy:=by exact zM) (zMH (Nat.le_of_lt hik)) ?_;refine nQ ?_;refine WT ?_;have gX:(inC (zC 0 h3)).get h.n=some (.row (zBA [I 0,I 0] [I a,I b] i k) true 0):=g3;have sX:Wb 2 (inC (zC 0 h3)) (.slice (some ⟨h.n,0,none⟩) i 2) i (zY [I a,I b] i):=by
   refine⟨by rw[zw];rfl,.inr ⟨h.n,0,_,rfl,by unfold yF;rw[gX],?_,n3⟩⟩;rw[ZE (by unfold zBA;rw[QM,zw,zw];show 0+i*2<=i*2+(k-i)*2;omega)];unfold zBA;rw[Q0,show i*2=(zY [I a,I b] i).length by rw[zw];rfl,List.take_left]
  refine Xd (m:=min i (k-i)) gX sX (by decide) rfl (by unfold zBA;rw[QM,zw,zw];show 0+i*2+_*2<=i*2+(k-i)*2;omega) (zKZ rfl i) ?_;intro X' n4 k4 g4 w4 m4 r4 wr4;refine WO.nil (zOq (fun j hj=> ?_) (Nat.le_of_eq n4.symm) fun cl'=> ?_)
  ·rcases wr4 j hj with rfl|h2
   ·rw[e3.mark];exact hm
   ·cases h2
  refine WT ?_;rw[Q6]at g4;have g5:=zOD (z:=[I 0,I 0]) (w:=[I a,I b]) (n:=i) (k:=k) (m:=min i (k-i)) rfl (by omega) (by omega);rw[show([I 0,I 0]:List Value).length=2 from rfl]at g5;rw[g5]at g4;have hcast:(i:Int)+(min i (k-i):Nat)=((i+min i (k-i):Nat):Int):=by omega
  rw[hcast];refine zA (i+min i (k-i)) (by omega) ⟨⟨?_,?_,?_,?_,?_⟩,WA,by omega,by omega,?_,g4⟩
  ·show h.n<=X'.n;rw[n4];exact Nat.le_of_lt n3
  ·intro j hj;exact(k4 j (by omega)).trans (e3.get j hj)
  ·intro w;exact w4 (e3.wf w)
  ·exact e3.mark
  ·exact e3.wr
  ·show h.n<X'.n;rw[n4];exact n3
 ·have hik:i=k:=by omega
  subst hik;refine gr ?_;refine⟨⟨h.n,QE _,n3,rfl,?_⟩,e3⟩;rw[g3];unfold zBA;rw[Nat.sub_self];simp[zY]
def BI(T:List U5)(t:Int):Prop:=t= -1\/(0<=t/\t<(T.length:Int))
def Ws(T:List U5)(k t:Int):Bool:=decide (t≠ -1)&&decide ((T.getD t.toNat default).kind=k)
def isL(T:List U5)(k:Int)(l:List Int):Bool:=l.all (Ws T k)
def zCx(T:List U5)(t:Int):Bool:=Ws T 1 t||Ws T 2 t||Ws T 3 t
def BK(T:List U5)(t:Int):Int:=if Ws T 2 t then(T.getD t.toNat default).elem else -1
def YS(T:List U5)(s n:Int):Int:=
 if s= -1 then -1 else if Ws T 4 s&&decide (n<((T.getD s.toNat default).parts.length:Int))then(T.getD s.toNat default).parts.getD n.toNat 0 else if Ws T 5 s then(T.getD s.toNat default).elem else -1
def zEW(T:List U5)(from' t n:Int):Bool:=decide (YS T (BK T from') n≠ -1)&&decide (BK T t=YS T (BK T from') n)
def zDL(T:List U5)(sig:Int)(args:List Int)(t:Int):Bool:=Ws T 3 sig&&decide ((T.getD sig.toNat default).parts=args)&&decide ((T.getD sig.toNat default).elem=t)
def zGc(T:List U5)(x:Wg)(l:List Int):Bool:=
 if x.op=14 then Ws T 4 (BK T (l.getD 0 0))&&zEW T (l.getD 0 0) x.ty x.n
 else if x.op=15 then Ws T 5 (BK T (l.getD 0 0))&&Ws T 1 (l.getD 1 0)&&zEW T (l.getD 0 0) x.ty 0
 else if x.op=16 then zCx T (BK T (l.getD 0 0))&&decide (x.ty=BK T (l.getD 0 0))
 else zCx T (BK T (l.getD 0 0))&&decide (l.getD 1 0=BK T (l.getD 0 0))
def sigF(F:List WP)(n:Int):Int:=(F.getD n.toNat default).sig
def zAs(T:List U5)(F:List WP)(x:Wg)(l:List Int):Bool:=
 if x.op=2 then Ws T 2 x.ty||Ws T 3 x.ty
 else if x.op=3 then decide (x.ty=sigF F x.n)
 else if x.op=10 then isL T 2 l&&decide (l.getD 0 0=l.getD 1 0)&&Ws T 1 x.ty
 else if x.op=11\/x.op=12 then Ws T 2 x.ty
 else if x.op=13 then isL T 2 l
 else if x.op=14\/x.op=15\/x.op=16\/x.op=17 then zGc T x l
 else if x.op=18 then zDL T (sigF F x.n) l x.ty
 else if x.op=19 then zDL T (l.getD 0 0) (l.drop 1) x.ty
 else if x.op=22 then zCx T x.ty&&l.all (fun t=>decide (t=x.ty))
 else if x.op=21 then isL T 1 l
 else isL T 1 l&&Ws T 1 x.ty
def Zu(x:Wg):Int:=if(zW x.op).2.2.2.2.2 then x.ty else -1
def yn(L:List WW):List Int:=L.flatMap fun b=>b.ins.map Zu
def zAz(par:List Int)(L:List WW):List Int:=par++yn L
def Zc(L:List WW):Nat->List (Int×Int)
 |0=>[]
 |n+1=>Zc L n++(List.range (L.getD n default).ins.length).map fun(i:Nat)=>((n:Int),(i:Int))
def zHE(par:Nat)(L:List WW):List (Int×Int):=List.replicate par (-1,-1)++Zc L L.length
theorem zBK{L:List WW}{n:Nat}(h:n<L.length):yn (L.take (n+1))=yn (L.take n)++(L.getD n default).ins.map Zu:=by
 unfold yn;rw[Q4,QB h,List.flatMap_append,show L.getD n default=L[n] by rw[QK,QB h];rfl];simp
theorem zBV{T:List U5}(h:yq T=0){t:Int}(h0:0<=t)(h1:t<(T.length:Int)):ZS T t.toNat:=by
 rw[zBw]at h;split at h
 ·cases h
 ·split at h
  ·rename_i hl;exact(hl t.toNat (by omega)).1
  ·cases h
theorem zEq{T:List U5}(h:yq T=0){t:Int}(ht:BI T t):BI T (BK T t):=by
 unfold BK;split
 ·rename_i hk;unfold Ws at hk;simp only[QF,QV]at hk;rcases ht with rfl|⟨h0,h1⟩
  ·exact absurd rfl hk.1
  ·have:=zBV h h0 h1;rcases this with⟨k,_⟩|⟨_,e0,e1,_⟩|⟨k,_⟩|⟨k,_⟩|⟨k,_⟩
   ·omega
   ·exact .inr ⟨e0,e1⟩
   ·omega
   ·omega
   ·omega
 ·exact .inl rfl
theorem zMr{T:List U5}(h:yq T=0){s n:Int}(hs:BI T s)(hn:0<=n):BI T (YS T s n):=by
 unfold YS;split
 ·exact .inl rfl
 rename_i hs1;have⟨h0,h1⟩:=hs.resolve_left hs1;have hm:=zBV h h0 h1;split
 ·rename_i hk;unfold Ws at hk;simp only[QF,QV]at hk;rcases hm with⟨k,_⟩|⟨k,_⟩|⟨k,_⟩|⟨_,_,_,_,_,hp⟩|⟨k,_⟩
  ·omega
  ·omega
  ·omega
  ·have hlt:n.toNat<(T.getD s.toNat default).parts.length:=by omega
   have:=hp _ (zb hlt);exact .inr ⟨this.1,by omega⟩
  ·omega
 ·split
  ·rename_i hk;unfold Ws at hk;simp only[QF,QV]at hk;rcases hm with⟨k,_⟩|⟨k,_⟩|⟨k,_⟩|⟨k,_⟩|⟨_,e0,e1,_⟩
   ·omega
   ·omega
   ·omega
   ·omega
   ·exact .inr ⟨e0,by omega⟩
  ·exact .inl rfl
theorem zGg{T:List U5}{k t:Int}(h:Ws T k t=true):t≠ -1:=by
 unfold Ws at h;simp only[QF,QV]at h;exact h.1
set_option maxRecDepth 100000
def RPl(_:U2)(cs:List Value)(x:Int×Int):Prop:=cs=[I x.1,I x.2]
structure W6(h:U2)(g:Nat)(vt vf:Value)(T:List U5)(F:List WP)(f:Int)(ks:List Int)(ps:List (Int×Int))(rs:List Int):Prop where
 own:∃ hB vk vp vr,U6 hB h (.pointer (some ⟨g,0,none⟩)) [vt,vf,I f,vk,vp,vr]/\WM h vk ks/\W4 2 RPl h vp ps/\WM h vr rs
 st:Wv h vt T
 sf:Wr h vf F
 hm:h.mark<=h.n
theorem W6.ext{h h':U2}{g:Nat}{vt vf:Value}{T:List U5}{F:List WP}{f:Int}{ks:List Int}{ps:List (Int×Int)}{rs:List Int}(M:W6 h g vt vf T F f ks ps rs)(e:U8 h h'):W6 h' g vt vf T F f ks ps rs:=by
 obtain⟨⟨hB,vk,vp,vr,o,a,b,c⟩,st,sf,hm⟩:=M;exact⟨⟨hB,vk,vp,vr,o.ext e,a.ext e,W4.ext (h:=h) (h':=h') (fun cs a (r:RPl h cs a)=>(r:RPl h' cs a)) b e,c.ext e⟩,st.ext e,Wr.ext sf e,yO e hm⟩
theorem zL7{A B:List Int}(hl:A.length=B.length)(h:∀ i,i<A.length->A.getD i 0=B.getD i 0):A=B:=by
 refine List.ext_getElem hl fun i h1 h2=> ?_;have:=h i h1;rwa [QK,QK,QB h1,QB h2]at this
def zMJ:U3:=(oV (oR [oB .lss 14 13 12]) (oV (oT 14 0) (oV (o5 1 (oV (oR [oM 15 13,oM 5 15]) (oV (o6 [oM 16 0,oM 17 5,oI 1 18 16 17,oL 19 18,oM 20 1,oM 21 5,oI 1 22 20 21,oL 23 22,oB .neq 24 19 23]) (oJ 24 (oV (oR [oZ 4]) .ret) .skip)))) (oR [oC .add 25 13 1,oM 13 25]))))
def zP6:U3:=(oV (oR [oZ 4]) (oV (oV (oR [oM 6 0,oQ 7 6,oM 8 1,oQ 9 8,oB .neq 10 7 9]) (oJ 10 (oV (oR [oZ 4]) .ret) .skip)) (oV (oV (oR [oM 11 0,oQ 12 11,oN 13 0]) (o5 0 (.loop zMJ))) (oV (oR [oK 4 (.bool true)]) .ret))))
theorem zF6(h:U2)(va vb:Value)(A B:List Int)(ka:WM h va A)(kb:WM h vb B)(la:(A.length:Int)<=9223372036854775807):WC Tryz.prog tb 187 [va,vb] h fun r h'=>r=.bool (decide (A=B))/\h=h':=by
 refine en 26 [(4,none)] zP6 ?_;by_cases hl:A.length=B.length;case neg=>
  refine gr ?_;exact⟨by rw[Qb (fun e=>hl (by rw[e]))];rfl,rfl⟩
 refine go ?_;refine VD [14,15,5,16,17,18,19,20,21,22,23,24,4,25,13] (by kernel_rfl) (fun i=>A.length-i) (fun i t h1=>h=h1/\zB t 13=I i/\i<=A.length/\Wa (∀ j,j<i->A.getD j 0=B.getD j 0)) 0 ?_ ?_
 ·exact⟨rfl,WA,QT _,⟨fun j hj=>absurd hj (GR _)⟩⟩
 rintro i t _ hsame ⟨rfl,s13,hi,hI⟩;refine go ?_;refine VE (fun hb=> ?_) (fun hb=> ?_)<;>simp only[DB]at hb
 ·have hia:i<A.length:=by omega
  have hib:i<B.length:=by omega
  refine go ?_;refine VE (fun hb=> ?_) (fun hb=> ?_)<;>simp only[DB]at hb<;>refine go ?_
  ·refine rt ?_;refine⟨?_,rfl⟩;rw[Qb (fun e=>by subst e;exact hb rfl)];rfl
  ·refine zA (i+1) (by omega) ⟨rfl,Wx,by omega,⟨fun j hj=> ?_⟩⟩;by_cases e:j=i
   ·subst e;exact hb
   ·exact hI.out j (by omega)
 ·refine gr ?_;exact⟨by rw[Qe (zL7 hl fun j hj=>hI.out j (by omega))];rfl,rfl⟩
section
variable {vt vf:Value}{T:List U5}{F:List WP}{f:Int}{ks:List Int}{ps:List (Int×Int)}{rs:List Int}{g:Nat}
def zQf:U3:=(oV (oR [oZ 4]) (oV (o6 [oM 5 0,oC .eql 6 5 (-1),oM 7 6,oH 7 (oL 8 1),(⟨some 9,some (7,false),(.nilCheck (.tmp 8))⟩,[]),oH 7 (oF 0 10 9),oH 7 (oF 0 11 10),oH 7 (oL 12 11),oH 7 (oM 13 0),oH 7 (oI 4 14 12 13),oH 7 (oF 0 15 14),oH 7 (oL 16 15),oH 7 (oL 17 2),oH 7 (oB .neq 18 16 17),oO 19 7 18,oM 4 19]) .ret))
theorem zRR(h h0 h00:U2)(p1 p2:Value)(k t:Int)(M:W6 h g vt vf T F f ks ps rs)(o1:U6 h0 h p1 [.pointer (some ⟨g,0,none⟩)])(o2:U6 h00 h p2 [.int .u8 k])(ht:BI T t):
  WC Tryz.prog tb 122 [I t,p1,p2] h fun r h'=>r=.bool (!Ws T k t)/\U8 h h':=by
 obtain⟨⟨hB,vk,vp,vr,o,a,b,c⟩,st,sf,hm⟩:=M;refine en 20 [(4,none)] zQf ?_;by_cases h1:t= -1
 ·refine gr ?_;refine⟨?_,U8.refl h⟩;subst h1;rfl
 ·obtain⟨t0,t1⟩:=ht.resolve_left h1;obtain⟨cs,⟨va,rfl,sa,hla⟩,pc,hs⟩:=ZL (i:=t.toNat) st (by omega);refine gr ?_;refine⟨?_,U8.refl h⟩;unfold Ws;rw[Qe h1];simp[one]
def zT7:U3:=(oV (oR [oX 3 0,oX 4 1,oZ 6]) (oV (oR [oM 7 2,⟨some 8,none,(.mkFunc (.func 122) [] [(.tmp 3),(.tmp 4)])⟩,o2 9 121 7 8,oW 10 9,oM 6 10]) .ret))
theorem yt(h:U2)(k:Int)(v:Value)(l:List Int)(M:W6 h g vt vf T F f ks ps rs)(s:WM h v l)(hl:l.length<=1000)(hin:∀ t∈l,BI T t):
  WC Tryz.prog tb 76 [.pointer (some ⟨g,0,none⟩),.int .u8 k,v] h fun r h'=>r=.bool (isL T k l)/\U8 h h':=by
 refine en 11 [(6,none)] zT7 ?_;refine VH ?_;intro p1 h1 e1 o1;refine go ?_;refine VH ?_;intro p2 h2 e2 o2;have o1:=o1.ext e2;have e12:=e1.trans e2;have M2:=M.ext e12;have s2:=s.ext e12;refine go ?_;refine VA (zAe h2 v _ l (fun t=> !Ws T k t) s2 (by omega) ?_) ?_
 ·intro t ht h3 e3;exact WV.func (zRR h3 h h1 p1 p2 k t (M2.ext e3) (o1.ext e3) (o2.ext e3) (hin t ht))
 rintro _ h3 ⟨rfl,e3⟩;refine gr ?_;refine⟨?_,e12.trans e3⟩;show Value.bool _=_;rw[List.not_any_eq_all_not];simp[isL]
theorem ZC(T:List U5)(k t:Int):isL T k [t]=Ws T k t:=by simp[isL]
def zQt:U3:=(oV (oR [oZ 4]) (oV (oR [oM 5 0,oM 6 1,⟨some 7,none,(.buildSlice 1 1 [(.int .i64 0)] [(0,1,(.tmp 6))])⟩,⟨some 8,none,(.call (.func 76) [(.tmp 5),(.const (.int .u8 1)),(.tmp 7)])⟩,oM 9 8,oH 9 (oM 10 0),oH 9 (oM 11 1),⟨some 12,some (9,false),(.buildSlice 1 1 [(.int .i64 0)] [(0,1,(.tmp 11))])⟩,⟨some 13,some (9,false),(.call (.func 76) [(.tmp 10),(.const (.int .u8 2)),(.tmp 12)])⟩,oO 14 9 13,oM 15 14,oH 15 (oM 16 0),oH 15 (oM 17 1),⟨some 18,some (15,false),(.buildSlice 1 1 [(.int .i64 0)] [(0,1,(.tmp 17))])⟩,⟨some 19,some (15,false),(.call (.func 76) [(.tmp 16),(.const (.int .u8 3)),(.tmp 18)])⟩,oO 20 15 19,oM 4 20]) .ret))
theorem zCE(h:U2)(t:Int)(M:W6 h g vt vf T F f ks ps rs)(ht:BI T t):
  WC Tryz.prog tb 185 [.pointer (some ⟨g,0,none⟩),I t] h fun r h'=>r=.bool (zCx T t)/\U8 h h':=by
 have hin:∀ x∈[t],BI T x:=fun x hx=>by rw[QW.1 hx];exact ht
 unfold zCx;refine en 21 [(4,none)] zQt ?_;refine WO.bl [t] ?_;intro v1 h1 e1 o1;have M1:=M.ext e1;refine go ?_;refine VA (yt h1 1 v1 [t] M1 o1.sl (by simp) hin) ?_;rintro _ h2 ⟨rfl,e2⟩;rw[ZC];cases c1:Ws T 1 t with
 |true=>
  refine gr ?_;exact⟨rfl,e1.trans e2⟩
 |false=>
  have M2:=M1.ext e2;refine go ?_;refine WO.bl [t] ?_;intro v3 h3 e3 o3;have M3:=M2.ext e3;refine go ?_;refine VA (yt h3 2 v3 [t] M3 o3.sl (by simp) hin) ?_;rintro _ h4 ⟨rfl,e4⟩;rw[ZC];have e04:=e1.trans (e2.trans (e3.trans e4));cases c2:Ws T 2 t with
  |true=>
   refine gr ?_;exact⟨rfl,e04⟩
  |false=>
   have M4:=M3.ext e4;refine go ?_;refine WO.bl [t] ?_;intro v5 h5 e5 o5;have M5:=M4.ext e5;refine go ?_;refine VA (yt h5 3 v5 [t] M5 o5.sl (by simp) hin) ?_;rintro _ h6 ⟨rfl,e6⟩;rw[ZC];refine gr ?_;exact⟨by cases Ws T 3 t<;>rfl,e04.trans (e5.trans e6)⟩
def zSN:U3:=(oV (oR [oN 4 0]) (oV (oV (oR [oM 5 0,oM 6 1,⟨some 7,none,(.buildSlice 1 1 [(.int .i64 0)] [(0,1,(.tmp 6))])⟩,⟨some 8,none,(.call (.func 76) [(.tmp 5),(.const (.int .u8 2)),(.tmp 7)])⟩,oW 9 8]) (oJ 9 (oV (oR [oN 4 (-1)]) .ret) .skip)) (oV (oR [oM 10 0,⟨some 11,none,(.nilCheck (.tmp 10))⟩,oF 0 12 11,oF 0 13 12,oL 14 13,oM 15 1,oI 4 16 14 15,oF 1 17 16,oL 18 17,oM 4 18]) .ret)))
theorem zAU(h:U2)(t:Int)(M:W6 h g vt vf T F f ks ps rs)(ht:BI T t):
  WC Tryz.prog tb 219 [.pointer (some ⟨g,0,none⟩),I t] h fun r h'=>r=I (BK T t)/\U8 h h':=by
 have hin:∀ x∈[t],BI T x:=fun x hx=>by rw[QW.1 hx];exact ht
 unfold BK;refine en 19 [(4,none)] zSN ?_;refine WO.bl [t] ?_;intro v1 h1 e1 o1;have M1:=M.ext e1;refine go ?_;refine VA (yt h1 2 v1 [t] M1 o1.sl (by simp) hin) ?_;rintro _ h2 ⟨rfl,e2⟩;rw[ZC];cases c1:Ws T 2 t with
 |false=>
  refine gr ?_;exact⟨rfl,e1.trans e2⟩
 |true=>
  obtain⟨⟨hB,vk,vp,vr,o,a,b,c⟩,st,sf,hm⟩:=M1.ext e2;obtain⟨t0,t1⟩:=ht.resolve_left (zGg c1);obtain⟨cs,⟨va,rfl,sa,hla⟩,pc,hs⟩:=ZL (i:=t.toNat) st (by omega);refine gr ?_;exact⟨rfl,e1.trans e2⟩
def zMC:U3:=(oV (oR [oB .lss 10 9 8]) (oV (oT 10 0) (oV (o5 1 (oV (oR [oI 1 11 7 9,oL 12 11,oM 6 12]) (oR [oM 13 4,oM 14 0,⟨some 15,none,(.nilCheck (.tmp 14))⟩,oF 3 16 15,oL 17 16,oM 18 6,oI 1 19 17 18,oL 20 19,⟨some 21,none,(.buildSlice 1 1 [(.int .i64 0)] [(0,1,(.tmp 20))])⟩,oY 1 22 13 21,oM 4 22]))) (oR [oC .add 23 9 1,oM 9 23]))))
def zQq:U3:=(oV (oR [oK 4 (.slice none 0 0)]) (oV (oV (oR [oM 7 1,oQ 8 7,oN 9 0]) (o5 0 (.loop zMC))) (oV (oR [oM 24 4,oM 4 24]) .ret)))
theorem zOj(h:U2)(v:Value)(l:List Int)(M:W6 h g vt vf T F f ks ps rs)(s:WM h v l)(hl:l.length<=1000)(hin:∀ r∈l,0<=r/\r<(ks.length:Int)):
  WC Tryz.prog tb 125 [.pointer (some ⟨g,0,none⟩),v] h fun r h'=>WJ h h' r (l.map fun r=>ks.getD r.toNat 0)/\U8 h h':=by
 refine en 25 [(4,none)] zQq ?_;refine VD [10,11,12,6,13,14,15,16,17,18,19,20,21,22,4,23,9] (by kernel_rfl) (fun i=>l.length-i) (fun i t h1=>U8 h h1/\zB t 9=I i/\i<=l.length/\∃ w,zB t 4=w/\WJ h h1 w ((l.take i).map fun r=>ks.getD r.toNat 0)) 0 ?_ ?_
 ·exact⟨U8.refl _,WA,QT _,_,WA,.inl ⟨rfl,rfl⟩⟩
 rintro i t h1 hsame ⟨e1,s9,hi,w,s4,ow⟩;obtain⟨⟨hB,vk,vp,vr,o,a,b,c⟩,st,sf,hm⟩:=M.ext e1;have s1:=s.ext e1;refine go ?_;refine VE (fun hb=> ?_) (fun hb=> ?_)<;>simp only[DB]at hb
 ·have hi':i<l.length:=by omega
  have hr:=hin _ (zb hi');have hsucc:(l.take (i+1)).map (fun r=>ks.getD r.toNat 0)=(l.take i).map (fun r=>ks.getD r.toNat 0)++[ks.getD (l.getD i 0).toNat 0]:=by
   rw[Q4,QB hi',GA,show l.getD i 0=l[i] by rw[QK,QB hi'];rfl];rfl
  refine go ?_;refine WO.bl [ks.getD (l.getD i 0).toNat 0] ?_;intro v2 h2 e2 o2;refine go ?_;refine Vb (ow.ext e2) (We.sl o2) (e1.trans e2) (by simp only[Qp,Q8,Qa];omega) ?_;intro v3 h3 e3 o3;refine go ?_;exact zA (i+1) (by omega) ⟨e3,Wx,by omega,_,WA,by rw[hsucc];exact o3⟩
 ·have hii:i=l.length:=by omega
  subst hii;rw[Q5]at ow;refine gr ?_;exact⟨ow,e1⟩
def zRl:U3:=(oV (oR [oZ 8]) (oV (oR [oM 9 0,oM 10 1,⟨some 11,none,(.buildSlice 1 1 [(.int .i64 0)] [(0,1,(.tmp 10))])⟩,⟨some 12,none,(.call (.func 76) [(.tmp 9),(.const (.int .u8 3)),(.tmp 11)])⟩,oM 13 12,oG 13 (oM 14 0),⟨some 15,some (13,true),(.nilCheck (.tmp 14))⟩,oG 13 (oF 0 16 15),oG 13 (oF 0 17 16),oG 13 (oL 18 17),oG 13 (oM 19 1),oG 13 (oI 4 20 18 19),oG 13 (oF 3 21 20),oG 13 (oL 22 21),oG 13 (oM 23 2),oG 13 (o2 24 187 22 23),oP 25 13 24,oM 26 25,oG 26 (oM 27 0),⟨some 28,some (26,true),(.nilCheck (.tmp 27))⟩,oG 26 (oF 0 29 28),oG 26 (oF 0 30 29),oG 26 (oL 31 30),oG 26 (oM 32 1),oG 26 (oI 4 33 31 32),oG 26 (oF 1 34 33),oG 26 (oL 35 34),oG 26 (oM 36 3),oG 26 (oB .eql 37 35 36),oP 38 26 37,oM 8 38]) .ret))
theorem zGP(h:U2)(sig t:Int)(v:Value)(l:List Int)(M:W6 h g vt vf T F f ks ps rs)(hsg:BI T sig)(s:WM h v l)(hl:l.length<=1000):
  WC Tryz.prog tb 184 [.pointer (some ⟨g,0,none⟩),I sig,v,I t] h fun r h'=>r=.bool (zDL T sig l t)/\U8 h h':=by
 have hin:∀ x∈[sig],BI T x:=fun x hx=>by rw[QW.1 hx];exact hsg
 unfold zDL;refine en 39 [(8,none)] zRl ?_;refine WO.bl [sig] ?_;intro v1 h1 e1 o1;have M1:=M.ext e1;refine go ?_;refine VA (yt h1 3 v1 [sig] M1 o1.sl (by simp) hin) ?_;rintro _ h2 ⟨rfl,e2⟩;rw[ZC];cases c1:Ws T 3 sig with
 |false=>
  refine gr ?_;exact⟨rfl,e1.trans e2⟩
 |true=>
  obtain⟨⟨hB,vk,vp,vr,o,a,b,c⟩,st,sf,hm⟩:=M1.ext e2;obtain⟨t0,t1⟩:=hsg.resolve_left (zGg c1);have s2:=s.ext (e1.trans e2);obtain⟨cs,⟨va,rfl,sa,hla⟩,pc,hs⟩:=ZL (i:=sig.toNat) st (by omega);refine go ?_;refine VA (zF6 h2 va v _ l sa s2 (by omega)) ?_;rintro _ _ ⟨rfl,rfl⟩;cases c2:decide ((T.getD sig.toNat default).parts=l)with
  |false=>
   refine gr ?_;exact⟨rfl,e1.trans e2⟩
  |true=>
   refine gr ?_;exact⟨rfl,e1.trans e2⟩
def zRa:U3:=(oV (oR [oZ 8]) (oV (oR [oM 11 0,oM 12 1,o2 13 219 11 12,oM 9 13,oN 10 (-1)]) (oV (o5 0 (oV (oR [oM 15 9,oC .eql 16 15 (-1),oM 14 16]) (oJ 14 .skip (oV (oR [oM 18 0,oM 19 9,⟨some 20,none,(.buildSlice 1 1 [(.int .i64 0)] [(0,1,(.tmp 19))])⟩,⟨some 21,none,(.call (.func 76) [(.tmp 18),(.const (.int .u8 4)),(.tmp 20)])⟩,oM 22 21,oG 22 (oM 23 3),oG 22 (oM 24 0),⟨some 25,some (22,true),(.nilCheck (.tmp 24))⟩,oG 22 (oF 0 26 25),oG 22 (oF 0 27 26),oG 22 (oL 28 27),oG 22 (oM 29 9),oG 22 (oI 4 30 28 29),oG 22 (oF 3 31 30),oG 22 (oL 32 31),oG 22 (oQ 33 32),oG 22 (oB .lss 34 23 33),oP 35 22 34,oM 17 35]) (oJ 17 (oR [oM 36 0,⟨some 37,none,(.nilCheck (.tmp 36))⟩,oF 0 38 37,oF 0 39 38,oL 40 39,oM 41 9,oI 4 42 40 41,oF 3 43 42,oL 44 43,oM 45 3,oI 1 46 44 45,oL 47 46,oM 10 47]) (oV (oR [oM 49 0,oM 50 9,⟨some 51,none,(.buildSlice 1 1 [(.int .i64 0)] [(0,1,(.tmp 50))])⟩,⟨some 52,none,(.call (.func 76) [(.tmp 49),(.const (.int .u8 5)),(.tmp 51)])⟩,oM 48 52]) (oJ 48 (oR [oM 53 0,⟨some 54,none,(.nilCheck (.tmp 53))⟩,oF 0 55 54,oF 0 56 55,oL 57 56,oM 58 9,oI 4 59 57 58,oF 1 60 59,oL 61 60,oM 10 61]) .skip))))))) (oV (oR [oM 62 10,oC .neq 63 62 (-1),oM 64 63,oG 64 (oM 65 0),oG 64 (oM 66 2),oG 64 (o2 67 219 65 66),oG 64 (oM 68 10),oG 64 (oB .eql 69 67 68),oP 70 64 69,oM 8 70]) .ret))))
theorem zIG(h:U2)(a t n:Int)(M:W6 h g vt vf T F f ks ps rs)(hc:yq T=0)(ha:BI T a)(ht:BI T t)(hn:0<=n):
  WC Tryz.prog tb 220 [.pointer (some ⟨g,0,none⟩),I a,I t,I n] h fun r h'=>r=.bool (zEW T a t n)/\U8 h h':=by
 unfold zEW;refine en 71 [(8,none)] zRa ?_;refine VA (zAU h a M ha) ?_;rintro _ h1 ⟨rfl,e1⟩;have hs:=zEq hc ha;have hpn:=zMr hc hs hn;generalize BK T a=s at *;have M1:=M.ext e1;have htt:=zEq hc ht;by_cases hs1:s= -1
 ·have hp:YS T s n= -1:=by unfold YS;rw[QI hs1]
  rw[hp];refine gr ?_;exact⟨rfl,e1⟩
 have hin:∀ x∈[s],BI T x:=fun x hx=>by rw[QW.1 hx];exact hs
 obtain⟨s0,sL⟩:=hs.resolve_left hs1;refine go ?_;refine WO.bl [s] ?_;intro v2 h2 e2 o2;have M2:=M1.ext e2;refine go ?_;refine VA (yt h2 4 v2 [s] M2 o2.sl (by simp) hin) ?_;rintro _ h3 ⟨rfl,e3⟩;rw[ZC];have M3:=M2.ext e3;have e03:=e1.trans (e2.trans e3);obtain⟨⟨hB,vk,vp,vr,o,ka,kb,kc⟩,st,sf,hm⟩:=id M3;obtain⟨cs,⟨va,rfl,sa,hla⟩,pc,hsl⟩:=ZL (i:=s.toNat) st (by omega);have other:Ws T 4 s=false\/¬n<((T.getD s.toNat default).parts.length:Int)->YS T s n=if Ws T 5 s then(T.getD s.toNat default).elem else -1:=fun h=>by
  unfold YS;rw[QC hs1,QC];rcases h with h|h
  ·rw[h];simp
  ·rw[Qb h];simp
 cases c4:Ws T 4 s with
 |true=>
  by_cases hlt:n<((T.getD s.toNat default).parts.length:Int)
  ·have hp:YS T s n=(T.getD s.toNat default).parts.getD n.toNat 0:=by unfold YS;rw[QC hs1,c4,Qe hlt];rfl
   rw[hp]at hpn |-;have hlt2:n.toNat<(T.getD s.toNat default).parts.length:=by omega
   obtain⟨pp,hpp⟩:∃ pp,(T.getD s.toNat default).parts.getD n.toNat 0=pp:=⟨_,rfl⟩;rw[hpp]at hpn |-;by_cases hp1:pp= -1
   ·rw[hp1];refine gr ?_;exact⟨rfl,e03⟩
   have hd:decide (pp≠ -1)=true:=Qe hp1;rw[hd];refine go ?_;refine VA (zAU h3 t M3 ht) ?_;rintro _ h9 ⟨rfl,e9⟩;refine gr ?_;exact⟨by rw[Qd,<-hpp];rfl,e03.trans e9⟩
  ·have hp:=other (.inr hlt);refine go ?_;refine WO.bl [s] ?_;intro v4 h4 e4 o4;have M4:=M3.ext e4;refine go ?_;refine VA (yt h4 5 v4 [s] M4 o4.sl (by simp) hin) ?_;rintro _ h5 ⟨rfl,e5⟩;rw[ZC];have M5:=M4.ext e5;have e05:=e03.trans (e4.trans e5);rw[hp]at hpn |-;cases c5:Ws T 5 s with
   |false=>
    refine gr ?_;exact⟨rfl,e05⟩
   |true=>
    rw[c5,QI rfl]at hpn;obtain⟨⟨hB',vk',vp',vr',o',ka',kb',kc'⟩,st',sf',hm'⟩:=id M5;obtain⟨cs',⟨va',rfl,sa',hla'⟩,pc',hsl'⟩:=ZL (i:=s.toNat) st' (by omega);obtain⟨pp,hpp⟩:∃ pp,(T.getD s.toNat default).elem=pp:=⟨_,rfl⟩;rw[QI rfl];rw[hpp]at hpn |- pc';by_cases hp1:pp= -1
    ·rw[hp1];refine gr ?_;exact⟨rfl,e05⟩
    have hd:decide (pp≠ -1)=true:=Qe hp1;rw[hd];refine go ?_;refine VA (zAU h5 t M5 ht) ?_;rintro _ h9 ⟨rfl,e9⟩;refine gr ?_;exact⟨by rw[Qd,show decide (BK T t=pp)=(BK T t == pp)from rfl];rfl,(e05).trans e9⟩
 |false=>
  have hp:=other (.inl c4);refine go ?_;refine WO.bl [s] ?_;intro v4 h4 e4 o4;have M4:=M3.ext e4;refine go ?_;refine VA (yt h4 5 v4 [s] M4 o4.sl (by simp) hin) ?_;rintro _ h5 ⟨rfl,e5⟩;rw[ZC];have M5:=M4.ext e5;have e05:=e03.trans (e4.trans e5);rw[hp]at hpn |-;cases c5:Ws T 5 s with
  |false=>
   refine gr ?_;exact⟨rfl,e05⟩
  |true=>
   rw[c5,QI rfl]at hpn;obtain⟨⟨hB',vk',vp',vr',o',ka',kb',kc'⟩,st',sf',hm'⟩:=id M5;obtain⟨cs',⟨va',rfl,sa',hla'⟩,pc',hsl'⟩:=ZL (i:=s.toNat) st' (by omega);obtain⟨pp,hpp⟩:∃ pp,(T.getD s.toNat default).elem=pp:=⟨_,rfl⟩;rw[QI rfl];rw[hpp]at hpn |- pc';by_cases hp1:pp= -1
   ·rw[hp1];refine gr ?_;exact⟨rfl,e05⟩
   have hd:decide (pp≠ -1)=true:=Qe hp1;rw[hd];refine go ?_;refine VA (zAU h5 t M5 ht) ?_;rintro _ h9 ⟨rfl,e9⟩;refine gr ?_;exact⟨by rw[Qd,show decide (BK T t=pp)=(BK T t == pp)from rfl];rfl,(e05).trans e9⟩
end
set_option maxRecDepth 100000
theorem zI5{k g:Nat}{hS X X':U2}{ob:Wd}(eX:U8 (inC (zC k hS)) X)(hn:X'.n=X.n)(hg:∀ j,X'.get j=if j=g then some ob else X.get j)(h1:hS.n<=g)(h2:g<X.n):U8 hS {X' with mark:=hS.mark,wr:=hS.wr}:=by
 have n1:=eX.n;have n1:hS.n+k<=X.n:=n1;refine⟨by show hS.n<=X'.n;omega,fun j hj=> ?_,fun w j hj=> ?_,rfl,fun _=>rfl⟩
 ·show X'.get j=_;rw[hg,QC (by omega)];exact eX.get j (QG hj (G6 _ _))
 ·have hj:X'.n<=j:=hj;show X'.get j=_;rw[hg,QC (by omega)];exact eX.wf (fun i hi=>w i (Nat.le_of_add_right_le hi)) j (by omega)
theorem zDw{g:Nat}{hS X X':U2}{ob:Wd}(e:U8 hS (yu hS X))(hn:X'.n=X.n)(hg:∀ j,X'.get j=if j=g then some ob else X.get j)(h1:hS.n<=g)(h2:g<X.n):U8 hS (yu hS X'):=by
 have n1:hS.n<=X.n:=e.n;refine⟨by show hS.n<=X'.n;omega,fun j hj=> ?_,fun w j hj=> ?_,rfl,fun _=>rfl⟩
 ·show X'.get j=_;rw[hg,QC (by omega)];exact e.get j hj
 ·have hj:X'.n<=j:=hj;show X'.get j=_;rw[hg,QC (by omega)];exact e.wf w j (by show X.n<=j;omega)
theorem zB9{P:Program}{tab:Wi}{m N0 g:Nat}{o:U4}{l:List (U4×List Nat)}{x:U4×List Nat}{fr:WF}{h h':U2}{Q:WF->U2->Prop}{t:U7 Value}(e:U8 (inC h) h')(hx:WU P tab m N0 (x::l) g false fr (inC h') Q):uK2 P tab m N0 [] t o (inC h) (x::l) g false Q fr h':=by
 have hw:=e.wrnil;exact⟨⟨fun g hg=>(by rw[hw]at hg;cases hg),e.n,.inl rfl⟩,hx⟩
theorem Vt{h0 h X:U2}{p:Value}{cs:List Value}(o:U6 h0 (yu h X) p cs):U6 h0 (inC X) p cs:=o
theorem Vk{h0 X:U2}{p:Value}{cs:List Value}(o:U6 h0 X p cs):U6 h0 (inC X) p cs:=o
theorem Vp{h X:U2}{p:Value}{cs:List Int}(o:WM (yu h X) p cs):WM (inC X) p cs:=o
theorem Va{X:U2}{p:Value}{cs:List Int}(o:WM X p cs):WM (inC X) p cs:=o
theorem yr{h X Y:U2}(e:U8 (inC X) Y):U8 (yu h X) (yu h Y):=by
 have h1:(yu h X).n=X.n:=rfl;refine⟨e.n,e.get,fun w=>e.wf w,rfl,fun _=>rfl⟩
section
variable {vt vf:Value}{T:List U5}{F:List WP}{f:Int}{ks:List Int}{ps:List (Int×Int)}{rs:List Int}{g:Nat}
theorem VO{h:U2}{m:Nat}{w:List Nat}(M:W6 {h with mark:=m,wr:=w} g vt vf T F f ks ps rs):W6 (inC h) g vt vf T F f ks ps rs:=⟨M.own,M.st,M.sf,QE _⟩
theorem W6.inC{h:U2}(M:W6 h g vt vf T F f ks ps rs):W6 (inC h) g vt vf T F f ks ps rs:=⟨M.own,M.st,M.sf,QE _⟩
theorem W6.aside{h:U2}(k:Nat)(M:W6 h g vt vf T F f ks ps rs):W6 (Am.inC (zC k h)) g vt vf T F f ks ps rs:=(M.ext (za k h)).inC
theorem W6.made{k g':Nat}{hS X X':U2}{ob:Wd}(M:W6 hS g vt vf T F f ks ps rs)(eX:U8 (Am.inC (zC k hS)) X)(hn:X'.n=X.n)(hg:∀ j,X'.get j=if j=g' then some ob else X.get j)(h1:hS.n<=g')(h2:g'<X.n):W6 (Am.inC X') g vt vf T F f ks ps rs:=VO (M.ext (zI5 eX hn hg h1 h2))
theorem zCP{X':U2}{g':Nat}{xs:List Int}(h:X'.get g'=some (.row (xs.map I) true 0))(h2:g'<X'.n):WM (Am.inC X') (.slice (some ⟨g',0,none⟩) xs.length 1) xs:=WM.own h2 h
theorem zJk{l:List Int}(h:∀ t∈l,BI T t){i:Nat}(hi:i<l.length):BI T (l.getD i 0):=h _ (zb hi)
def zSC:U3:=(oV (oR [oX 4 1,oZ 6]) (oV (oV (oR [oF 0 7 4,oL 8 7]) (o5 0 (oV (oR [oD .eql 10 8 14,oM 9 10]) (oJ 9 (oV (o6 [oM 11 0,oM 12 0,oM 13 2,(⟨some 14,none,(.idx 1 (.tmp 13) (.const (.int .i64 0)))⟩,[]),oL 15 14,o2 16 219 12 15,(⟨some 17,none,(.buildSlice 1 1 [(.int .i64 0)] [(0,1,(.tmp 16))])⟩,[]),(⟨some 18,none,(.call (.func 76) [(.tmp 11),(.const (.int .u8 4)),(.tmp 17)])⟩,[]),oM 19 18,oG 19 (oM 20 0),oG 19 (oM 21 2),(⟨some 22,some (19,true),(.idx 1 (.tmp 21) (.const (.int .i64 0)))⟩,[]),oG 19 (oL 23 22),oG 19 (oF 1 24 4),oG 19 (oL 25 24),oG 19 (oF 4 26 4),oG 19 (oL 27 26),oG 19 (o4 28 220 20 23 25 27),oP 29 19 28,oM 6 29]) .ret) (oV (oR [oD .eql 31 8 15,oM 30 31]) (oJ 30 (oV (o6 [oM 32 0,oM 33 0,oM 34 2,(⟨some 35,none,(.idx 1 (.tmp 34) (.const (.int .i64 0)))⟩,[]),oL 36 35,o2 37 219 33 36,(⟨some 38,none,(.buildSlice 1 1 [(.int .i64 0)] [(0,1,(.tmp 37))])⟩,[]),(⟨some 39,none,(.call (.func 76) [(.tmp 32),(.const (.int .u8 5)),(.tmp 38)])⟩,[]),oM 40 39,oG 40 (oM 41 0),oG 40 (oM 42 2),(⟨some 43,some (40,true),(.idx 1 (.tmp 42) (.const (.int .i64 1)))⟩,[]),oG 40 (oL 44 43),(⟨some 45,some (40,true),(.buildSlice 1 1 [(.int .i64 0)] [(0,1,(.tmp 44))])⟩,[]),(⟨some 46,some (40,true),(.call (.func 76) [(.tmp 41),(.const (.int .u8 1)),(.tmp 45)])⟩,[]),oP 47 40 46,oM 48 47,oG 48 (oM 49 0),oG 48 (oM 50 2),(⟨some 51,some (48,true),(.idx 1 (.tmp 50) (.const (.int .i64 0)))⟩,[]),oG 48 (oL 52 51),oG 48 (oF 1 53 4),oG 48 (oL 54 53),(⟨some 55,some (48,true),(.call (.func 220) [(.tmp 49),(.tmp 52),(.tmp 54),(.const (.int .i64 0))])⟩,[]),oP 56 48 55,oM 6 56]) .ret) (oV (oR [oD .eql 58 8 16,oM 57 58]) (oJ 57 (oV (o6 [oM 59 0,oM 60 0,oM 61 2,(⟨some 62,none,(.idx 1 (.tmp 61) (.const (.int .i64 0)))⟩,[]),oL 63 62,o2 64 219 60 63,o2 65 185 59 64,oM 66 65,oG 66 (oF 1 67 4),oG 66 (oL 68 67),oG 66 (oM 69 0),oG 66 (oM 70 2),(⟨some 71,some (66,true),(.idx 1 (.tmp 70) (.const (.int .i64 0)))⟩,[]),oG 66 (oL 72 71),(oG 66 (o2 73 219 69 72),[9]),oG 66 (oB .eql 74 68 73),oP 75 66 74,oM 6 75]) .ret) .skip)))))))) (oV (o6 [oM 76 0,oM 77 0,oM 78 2,(⟨some 79,none,(.idx 1 (.tmp 78) (.const (.int .i64 0)))⟩,[]),oL 80 79,o2 81 219 77 80,o2 82 185 76 81,oM 83 82,oG 83 (oM 84 2),(⟨some 85,some (83,true),(.idx 1 (.tmp 84) (.const (.int .i64 1)))⟩,[]),oG 83 (oL 86 85),oG 83 (oM 87 0),oG 83 (oM 88 2),(⟨some 89,some (83,true),(.idx 1 (.tmp 88) (.const (.int .i64 0)))⟩,[]),oG 83 (oL 90 89),(oG 83 (o2 91 219 87 90),[10]),oG 83 (oB .eql 92 86 91),oP 93 83 92,oM 6 93]) .ret)))
theorem zJV(h:U2)(x:Wg)(cs:List Value)(v:Value)(l:List Int)(M:W6 h g vt vf T F f ks ps rs)(hc:yq T=0)(hR:BM h cs x)(s:WM h v l)(hl:l.length<=1000)(hin:∀ t∈l,BI T t)(hty:BI T x.ty)(hop:x.op=14\/x.op=15\/x.op=16\/x.op=17)(hn:x.op=14->0<=x.n)(h1:1<=l.length)(h2:x.op=15\/x.op=17->2<=l.length):
  WC Tryz.prog tb 183 [.pointer (some ⟨g,0,none⟩),.agg cs.toArray,v] h fun r h'=>r=.bool (zGc T x l)/\U8 h h':=by
 obtain⟨xa,xf,rfl,sxa,sxf,hla,hlf,ho⟩:=hR;obtain⟨a1,a2,a3,rfl⟩:=Wb.shape sxa;obtain⟨f1,f2,f3,rfl⟩:=Wb.shape sxf;obtain⟨b1,b2,b3,rfl⟩:=Wb.shape s;have ht0:=zJk hin (show 0<l.length by omega);have hs0:=zEq hc ht0;have hin0:∀ y∈[BK T (l.getD 0 0)],BI T y:=fun y hy=>by rw[QW.1 hy];exact hs0
 refine en 94 [(6,none)] zSC ?_;refine VH ?_;intro p h3 e3 o3;have M3:=M.ext e3;have s3:=s.ext e3;unfold zGc;by_cases c14:x.op=14
 ·rw[QI c14];refine go ?_;refine VC 1 rfl rfl ?_;have ea:=za 1 h3;have sX:=Va (s3.ext ea);refine WT ?_;refine VA (zAU _ _ (M3.aside 1) ht0) ?_;rintro _ X4 ⟨rfl,e4⟩;refine nE e4 ?_;have hlt:h3.n<X4.n:=e4.n;refine WT ?_;refine Vg [BK T (l.getD 0 0)] M3.hm ?_;intro X5 n5 g5;have e5:U8 h3 (yu h3 X5):=zI5 e4 n5 g5 (QE _) hlt;have sv5:=zCP (xs:=[BK T (l.getD 0 0)]) (by rw[g5,QI rfl]) (by omega:h3.n<X5.n);refine WT ?_;refine VA (yt _ 4 _ [BK T (l.getD 0 0)] (M3.made e4 n5 g5 (QE _) hlt) sv5 (by simp) hin0) ?_;rintro _ X6 ⟨rfl,e6⟩;rw[ZC];have e6':=e5.trans (yr (h:=h3) e6);refine WO.nil ?_;refine zB9 e6 ?_;cases c4:Ws T 4 (BK T (l.getD 0 0))with
  |false=>
   refine gUr ?_;exact⟨rfl,e3.trans e6'⟩
  |true=>
   have s6:=Vp (s3.ext e6');have o6:=Vt (o3.ext e6');refine WT ?_;refine VA (zIG _ _ _ _ (VO (M3.ext e6')) hc ht0 hty (hn c14)) ?_;rintro _ X7 ⟨rfl,e7⟩;refine WO.nil ?_;refine zB9 e7 ?_;have e7':=e6'.trans (yr (h:=h3) e7);refine gUr ?_;exact⟨rfl,e3.trans e7'⟩
 rw[QC c14];refine go ?_;by_cases c15:x.op=15
 ·have h2:=h2 (.inl c15);have ht1:=zJk hin (show 1<l.length by omega);have hin1:∀ y∈[l.getD 1 0],BI T y:=fun y hy=>by rw[QW.1 hy];exact ht1
  rw[QI c15];refine go ?_;refine VC 2 rfl rfl ?_;have ea:=za 2 h3;have sX:=Va (s3.ext ea);refine WT ?_;refine VA (zAU _ _ (M3.aside 2) ht0) ?_;rintro _ X4 ⟨rfl,e4⟩;refine nE e4 ?_;have hlt:h3.n+1<X4.n:=e4.n;refine WT ?_;refine Vg [BK T (l.getD 0 0)] M3.hm ?_;intro X5 n5 g5;have e5:U8 h3 (yu h3 X5):=zI5 e4 n5 g5 (QE _) (by omega);have sv5:=zCP (xs:=[BK T (l.getD 0 0)]) (by rw[g5,QI rfl]) (by omega:h3.n<X5.n);refine WT ?_;refine VA (yt _ 5 _ [BK T (l.getD 0 0)] (M3.made e4 n5 g5 (QE _) (by omega)) sv5 (by simp) hin0) ?_;rintro _ X6 ⟨rfl,e6⟩;rw[ZC];have e6':=e5.trans (yr (h:=h3) e6);refine WO.nil ?_;refine zB9 e6 ?_;cases c5:Ws T 5 (BK T (l.getD 0 0))with
  |false=>
   refine WT ?_;refine WU.no ?_;refine gUr ?_;exact⟨rfl,e3.trans e6'⟩
  |true=>
   have s6:=Vp (s3.ext e6');have n6:X5.n<=X6.n:=e6.n;refine WT ?_;refine Vg [l.getD 1 0] (by have:=M3.hm;omega) ?_;intro X7 n7 g7;have e7':=zDw e6' n7 g7 (by omega) (by omega);have sv7:=zCP (xs:=[l.getD 1 0]) (by rw[g7,QI rfl]) (by omega:h3.n+1<X7.n);refine WT ?_;refine VA (yt _ 1 _ [l.getD 1 0] (VO (M3.ext e7')) sv7 (by simp) hin1) ?_;rintro _ X8 ⟨rfl,e8⟩;rw[ZC];have e8':=e7'.trans (yr (h:=h3) e8);refine WO.nil ?_;refine zB9 e8 ?_;cases c1:Ws T 1 (l.getD 1 0)with
   |false=>
    refine gUr ?_;exact⟨rfl,e3.trans e8'⟩
   |true=>
    have s8:=Vp (s3.ext e8');have o8:=Vt (o3.ext e8');refine WT ?_;rw[show Value.int .i64 0=I 0 from rfl];refine VA (zIG _ _ _ _ (VO (M3.ext e8')) hc ht0 hty (Qk 0)) ?_;rintro _ X9 ⟨rfl,e9⟩;have e9':=e8'.trans (yr (h:=h3) e9);refine WO.nil ?_;refine zB9 e9 ?_;refine gUr ?_;exact⟨rfl,e3.trans e9'⟩
 rw[QC c15];refine go ?_;by_cases c16:x.op=16
 ·rw[QI c16];refine go ?_;refine VC 0 rfl rfl ?_;have ea:=za 0 h3;have sX:=Va (s3.ext ea);refine WT ?_;refine VA (zAU _ _ (M3.aside 0) ht0) ?_;rintro _ X4 ⟨rfl,e4⟩;refine nE e4 ?_;refine WT ?_;have e4':=ea.trans (yr (h:=h3) e4);refine VA (zCE _ _ (VO (M3.ext e4')) hs0) ?_;rintro _ X5 ⟨rfl,e5⟩;refine nE e5 ?_;have e5':=e4'.trans (yr e5);cases c6:zCx T (BK T (l.getD 0 0))with
  |false=>
   refine WT ?_;refine zIF (fun g hg=>by cases hg) ?_;refine gUr ?_;exact⟨rfl,e3.trans e5'⟩
  |true=>
   have s5:=Vp (s3.ext e5');have o5:=Vt (o3.ext e5');refine WT ?_;refine VA (zAU _ _ (VO (M3.ext e5')) ht0) ?_;rintro _ X6 ⟨rfl,e6⟩;refine nE e6 ?_;have e6':=e5'.trans (yr e6);refine gUr ?_;exact⟨rfl,e3.trans e6'⟩
 ·rw[QC c16];have h2:=h2 (.inr (by omega));refine go ?_;refine VC 0 rfl rfl ?_;have ea:=za 0 h3;have sX:=Va (s3.ext ea);refine WT ?_;refine VA (zAU _ _ (M3.aside 0) ht0) ?_;rintro _ X4 ⟨rfl,e4⟩;refine nE e4 ?_;refine WT ?_;have e4':=ea.trans (yr (h:=h3) e4);refine VA (zCE _ _ (VO (M3.ext e4')) hs0) ?_;rintro _ X5 ⟨rfl,e5⟩;refine nE e5 ?_;have e5':=e4'.trans (yr e5);cases c6:zCx T (BK T (l.getD 0 0))with
  |false=>
   refine WT ?_;refine zIF (fun g hg=>by cases hg) ?_;refine gUr ?_;exact⟨rfl,e3.trans e5'⟩
  |true=>
   have s5:=Vp (s3.ext e5');refine WT ?_;refine VA (zAU _ _ (VO (M3.ext e5')) ht0) ?_;rintro _ X6 ⟨rfl,e6⟩;refine nE e6 ?_;have e6':=e5'.trans (yr e6);refine gUr ?_;exact⟨rfl,e3.trans e6'⟩
end
end
end Go.Proofs.YtmejfcakhpihlaaGreatDoor
