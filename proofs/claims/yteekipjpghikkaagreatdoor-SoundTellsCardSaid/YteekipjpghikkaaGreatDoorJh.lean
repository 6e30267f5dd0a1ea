/- What functions of the program come to in the abstract machine, and plain laws about it; no statement of the seat is proved in this text. -/
import Derived.Test.YteekipjpghikkaaGreatDoorJb
import Derived.Test.YteekipjpghikkaaGreatDoorJg
import Derived.Test.YteekipjpghikkaaGreatDoorJc
import Derived.Test.YteekipjpghikkaaGreatDoorAmV
import Derived.Test.YteekipjpghikkaaGreatDoorJa
set_option linter.unusedVariables false
set_option linter.unusedSimpArgs false
set_option maxHeartbeats 2000000
namespace Go.Proofs.YteekipjpghikkaaGreatDoor
noncomputable section
open Go.Am
def zAu (op:Int):Prop:=(4≤op∧op≤10)∨op=15∨op=17
def zAx (op:Int):Prop:=zAu op∨op=13∨op=14∨op=16∨op=19∨op=21
def zAy (op:Int):Prop:=op=18∨op=19∨op=22
def zNW (op:Int):Prop:=1≤op∧op≤22∧op≠13∧op≠17∧op≠21
theorem Z5 {op:Int} (h:0≤op):((zU op).2.1=true↔zAu op)∧((zU op).1=true↔zAx op)∧((zU op).2.2.2.1=true↔zAy op)∧((zU op).2.2.2.2.2=true↔zNW op)∧((zU op).2.2.2.2.1=true↔op=22)∧((zU op).2.2.1=true↔op=1∨op=3∨op=14∨op=18)∧(zU op=(false,false,false,false,false,false)↔op<1∨22<op):=by
 obtain⟨n,rfl⟩:=Int.eq_ofNat_of_zero_le h;by_cases hn:n<23
 ·clear h;unfold zAx zAy zNW zAu;have hz:(List.range 23).all (fun (n:Nat)=>decide (zU (n:Int)=(false,false,false,false,false,false)) == decide ((n:Int)<1∨22<(n:Int)))=true:=by decide+kernel
  have hz:=List.all_eq_true.1 hz n (List.mem_range.2 hn);rw[beq_iff_eq,decide_eq_decide]at hz;refine⟨?_,?_,?_,?_,?_,?_,hz⟩<;>(clear hz;revert n;decide+kernel)
 ·have e:zU (n:Int)=(false,false,false,false,false,false):=by
   unfold zU;rw[List.getD,List.getElem?_eq_none (by simp only[hasT,List.length_cons,List.length_nil];omega)];rfl
  rw[e];unfold zAx zAy zNW zAu;simp only[Bool.false_eq_true,false_iff,true_iff];omega
def yI (x:LIns):List Int:=(if (zU x.op).1 then [x.a] else [])++((if (zU x.op).2.1 then [x.b] else [])++(if (zU x.op).2.2.2.1 then x.args else []))
def zGE (x:LIns) (funcs:Int):Prop:=if x.op=1 then True else if x.op=3∨x.op=18 then 0≤x.n∧x.n<funcs else if x.op=14 then 0≤x.n∧x.n<8 else x.n=0
def Btw (l:List Int) (m:Int):Prop:=∀ p∈l,0≤p∧p<m
structure MayI (x:LIns) (s:LSz):Prop where
 op:1≤x.op∧x.op≤22
 uses:Btw (yI x) s.regs
 num:zGE x s.funcs
 a:(zU x.op).1=true∨x.a=0
 b:(zU x.op).2.1=true∨x.b=0
 g:(zU x.op).2.2.2.1=true∨(x.args.length:Int)≤0
 ans:if (zU x.op).2.2.2.2.2 then 0≤x.ty∧x.ty<s.types else x.ty=0
 frm:if (zU x.op).2.2.2.2.1 then (x.frm.length:Int)=x.args.length∧1≤(x.frm.length:Int)∧(x.frm.length:Int)≤16∧Btw x.frm s.blocks else (x.frm.length:Int)=0∧(x.args.length:Int)≤4
theorem zEH {l:List Int} {m:Int}:zEQ l m=true↔Btw l m:=by
 unfold zEQ zO Btw;simp[List.all_eq_true]
theorem zDR {l k:List Int} {m:Int}:Btw (l++k) m↔Btw l m∧Btw k m:=by
 unfold Btw;constructor
 ·exact fun h=>⟨fun p hp=>h p (List.mem_append.2 (.inl hp)),fun p hp=>h p (List.mem_append.2 (.inr hp))⟩
 ·exact fun h p hp=>(List.mem_append.1 hp).elim (h.1 p) (h.2 p)
theorem zHs {c:Bool} {l:List Int} {m:Int}:Btw (if c then l else []) m↔(c=true→Btw l m):=by
 cases c
 ·simp[Btw]
 ·simp
theorem zDD {a m:Int}:Btw [a] m↔zO a m=true:=by unfold Btw zO;simp
theorem zGf {x:LIns} {s:LSz} (ho:0≤x.op):zGE x s.funcs↔Yg x s=true∧((zU x.op).2.2.1=true∨x.n=0):=by
 obtain⟨_,_,_,_,_,hn,_⟩:=Z5 ho;rw[hn];unfold zGE Yg;by_cases h1:x.op=1
 ·simp[h1]
 by_cases h3:x.op=3∨x.op=18
 ·rw[if_neg h1,if_pos h3,if_pos h3,Bool.and_eq_true,decide_eq_true_iff,decide_eq_true_iff];omega
 by_cases h14:x.op=14
 ·rw[if_neg h1,if_neg h3,if_pos h14,if_neg h3,if_pos h14,Bool.and_eq_true,decide_eq_true_iff,decide_eq_true_iff];omega
 ·rw[if_neg h1,if_neg h3,if_neg h14,if_neg h3,if_neg h14];simp;omega
theorem zAY {x:LIns} {s:LSz} (ho:0≤x.op):Y3 x s=true↔MayI x s:=by
 obtain⟨_,_,_,_,hf,_,hz⟩:=Z5 ho;have hnum:=zGf (x:=x) (s:=s) ho;have key:MayI x s↔(1≤x.op∧x.op≤22)∧Btw (yI x) s.regs∧zGE x s.funcs∧((zU x.op).1=true∨x.a=0)∧((zU x.op).2.1=true∨x.b=0)∧((zU x.op).2.2.2.1=true∨(x.args.length:Int)≤0)∧(if (zU x.op).2.2.2.2.2 then 0≤x.ty∧x.ty<s.types else x.ty=0)∧
   (if (zU x.op).2.2.2.2.1 then (x.frm.length:Int)=x.args.length∧1≤(x.frm.length:Int)∧(x.frm.length:Int)≤16∧Btw x.frm s.blocks else (x.frm.length:Int)=0∧(x.args.length:Int)≤4):=
  ⟨fun ⟨a,b,c,d,e,f,g,h⟩=>⟨a,b,c,d,e,f,g,h⟩,fun ⟨a,b,c,d,e,f,g,h⟩=>⟨a,b,c,d,e,f,g,h⟩⟩
 rw[key,hnum];unfold Y3 zOb zIc zI8 yI;simp only;have hz':(decide (zU x.op=(false,false,false,false,false,false))=false)↔(1≤x.op∧x.op≤22):=by
  rw[decide_eq_false_iff_not,hz];omega
 have hl0:Btw x.args s.regs∨¬(x.args.length:Int)≤0:=by
  by_cases h:(x.args.length:Int)≤0
  ·left;have:x.args=[]:=List.eq_nil_of_length_eq_zero (by omega);rw[this];exact fun p hp=>by cases hp
  ·exact .inr h
 rw[zDR,zDR,zHs,zHs,zHs,zDD,zDD];have hty:(zO x.ty s.types=true)↔0≤x.ty∧x.ty<s.types:=by unfold zO;simp
 rw[←hz',←hty,←zEH,←zEH];rw[←zEH]at hl0;generalize decide (zU x.op=(false,false,false,false,false,false))=Z at *;generalize zU x.op=q at *;obtain⟨A,B,N,G,R,S⟩:=q;simp only;generalize zO x.a s.regs=ba at *;generalize zO x.b s.regs=bb at *;generalize zEQ x.args s.regs=bg at *;generalize Yg x s=bn at *;generalize zO x.ty s.types=bt at *;generalize zEQ x.frm s.blocks=bf at *;clear hz hf hnum key hz' hty;generalize x.args.length=la at *;generalize x.frm.length=lf at *;generalize x.a=a at *;generalize x.b=b at *;generalize x.n=n at *;generalize x.ty=ty at *;cases Z<;>simp only[Bool.true_or,Bool.false_or,Bool.not_true,Bool.false_and,Bool.false_eq_true,false_iff,false_and,not_false_eq_true,Bool.true_eq_false,Bool.not_false,Bool.not_true,true_and];cases R
 ·cases A<;>cases B<;>cases N<;>cases G<;>cases S<;>simp<;>(constructor<;>intro h<;>simp_all<;>omega)
 ·cases A<;>cases B<;>cases N<;>cases G<;>cases S<;>simp<;>(constructor<;>intro h<;>simp_all<;>omega)
theorem zGG {x:LEnd} {s:LSz}:zAF x s=true↔(x.kind=1∧x.a=0∧x.els=0∧Btw [x.to] s.blocks)∨(x.kind=2∧Btw [x.a] s.regs∧Btw [x.to,x.els] s.blocks)∨(x.kind=3∧x.to=0∧x.els=0∧Btw [x.a] s.regs):=by
 have h2:Btw [x.to,x.els] s.blocks↔zO x.to s.blocks=true∧zO x.els s.blocks=true:=by unfold Btw zO;simp
 rw[h2,zDD,zDD];unfold zAF;by_cases k1:x.kind=1
 ·simp[k1,and_assoc]
 by_cases k2:x.kind=2
 ·simp[k2,and_assoc]
 by_cases k3:x.kind=3
 ·simp[k3,and_assoc]
 ·simp[k1,k2,k3]
def z9 (x:LEnd):List Int:=if x.kind=2∨x.kind=3 then [x.a] else []
def zAc (par:Int) (L:List LBlk):Int:=par+zW L
structure InsU (x:LIns) (N n:Int):Prop where
 op:1≤x.op∧x.op≤22
 uses:∀ r∈yI x,0≤r∧r<N
 args:x.args.length≤20
 frm:x.frm.length≤20
 phi:x.op=22→x.frm.length=x.args.length∧(∀ r∈x.args,0≤r∧r<N)∧(∀ b∈x.frm,0≤b∧b<n)
 none:x.op≠22→x.frm.length=0
structure BlkU (b:LBlk) (N n:Int):Prop where
 ins:∀ x∈b.ins,InsU x N n
 ends:∀ r∈z9 b.fin,0≤r∧r<N
 next:∀ k∈yy b.fin,0≤k∧k<n
theorem zII {x:LIns} {s:LSz} (h:Y3 x s=true):1≤x.op∧x.op≤22:=by
 by_cases h0:0≤x.op
 ·exact((zAY h0).1 h).op
 ·exfalso;have he:zU x.op=(false,false,false,false,false,false):=by
   unfold zU;rw[show x.op.toNat=0 by omega];rfl
  unfold Y3 zOb at h;rw[he]at h;simp at h
theorem zS1 {x:LIns} {s:LSz} (h:Y3 x s=true):InsU x s.regs s.blocks:=by
 have ho:=zII h;have m:=(zAY (by omega)).1 h;have ha:=Z5 (op:=x.op) (by omega);have h22:(zU x.op).2.2.2.2.1=true↔x.op=22:=ha.2.2.2.2.1;have hg:(zU x.op).2.2.2.1=true↔zAy x.op:=ha.2.2.1;have hf:=m.frm;have hgl:=m.g;have hargs:(x.args.length:Int)≤16:=by
  split at hf
  ·omega
  ·omega
 have hfrm:(x.frm.length:Int)≤16:=by
  split at hf
  ·omega
  ·omega
 refine⟨ho,m.uses,by omega,by omega,fun e=> ?_,fun e=> ?_⟩
 ·rw[if_pos (h22.2 e)]at hf;refine⟨by omega,fun r hr=>m.uses r ?_,hf.2.2.2⟩;unfold yI;rw[show (zU x.op).2.2.2.1=true from hg.2 (by unfold zAy;omega),if_pos rfl];exact List.mem_append.2 (.inr (List.mem_append.2 (.inr hr)))
 ·rw[if_neg (fun q=>e (h22.1 q))]at hf;omega
theorem zSp {b:LBlk} {s:LSz} (h:YC b s=false):BlkU b s.regs s.blocks:=by
 unfold YC at h;rw[Bool.or_eq_false_iff]at h;obtain⟨h1,h2⟩:=h;have h2:zAF b.fin s=true:=by simpa using h2
 have he:=zGG.1 h2;refine⟨fun x hx=>zS1 ?_,fun r hr=> ?_,fun k hk=> ?_⟩
 ·cases hi:Y3 x s with
  |true=>rfl
  |false=>exact absurd h1 (by rw[List.any_eq_true.2 ⟨x,hx,by rw[hi];rfl⟩];simp)
 ·unfold z9 at hr;split at hr
  ·rw[List.mem_singleton]at hr;subst hr;rcases he with ⟨e,_⟩|⟨e,q,_⟩|⟨e,_,_,q⟩
   ·omega
   ·exact q _ (by simp)
   ·exact q _ (by simp)
  ·cases hr
 ·unfold yy at hk;rcases he with ⟨e,_,_,q⟩|⟨e,_,q⟩|⟨e,_⟩
  ·rw[if_pos e]at hk;exact q k hk
  ·rw[if_neg (by omega),if_pos e]at hk;split at hk
   ·exact q k (by rw[List.mem_singleton]at hk;subst hk;simp)
   ·exact q k hk
  ·rw[if_neg (by omega),if_neg (by omega)]at hk;cases hk
theorem zSj {T:List LType} {nf:Int} {f:LFn} (h:fnL T nf f=true):∀ b∈f.blocks,BlkU b (zAc ((T.getD f.sig.toNat default).parts.length:Int) f.blocks) f.blocks.length:=by
 intro b hb;unfold fnL at h;split at h
 ·cases h
 ·have h:(f.blocks.any fun b=>YC b (szL T nf f))=false:=by simpa using h
  have:=zSp (b:=b) (s:=szL T nf f) (by
   cases q:YC b (szL T nf f)with
   |false=>rfl
   |true=>rw[List.any_eq_true.2 ⟨b,hb,q⟩]at h;cases h)
  exact this
theorem zQr {T:List LType} {n:Int} {f:LFn} (h:fnL T n f=true):1≤f.blocks.length∧f.blocks.length≤16∧zW f.blocks≤128:=by
 unfold fnL at h;split at h
 ·cases h
 ·rename_i hb;unfold Ys at hb;simp only[Bool.or_eq_true,Bool.not_eq_true',decide_eq_true_iff,not_or,Bool.not_eq_false]at hb;obtain⟨⟨⟨_,_⟩,h3⟩,h4⟩:=hb;unfold zO at h3;simp at h3;omega
set_option maxRecDepth 100000
def zPW:ACode:=(oV (oR [oX 1 0,oK 2 (.slice none 0 0)]) (oV (oR [oF 0 4 1,oL 5 4,o1 6 43 5,⟨some 3,none,(.alloc [(.bool false),(.bool false),(.bool false),(.bool false),(.bool false),(.bool false)])⟩,oS 6 3 6]) (oV (oV (oR [oF 0 7 3,oL 8 7]) (oJ 8 (oR [oM 9 2,oF 2 10 1,oL 11 10,⟨some 12,none,(.buildSlice 1 1 [(.int .i64 0)] [(0,1,(.tmp 11))])⟩,oY 1 13 9 12,oM 2 13]) .skip)) (oV (oV (oR [oF 1 14 3,oL 15 14]) (oJ 15 (oR [oM 16 2,oF 3 17 1,oL 18 17,⟨some 19,none,(.buildSlice 1 1 [(.int .i64 0)] [(0,1,(.tmp 18))])⟩,oY 1 20 16 19,oM 2 20]) .skip)) (oV (oV (oR [oF 3 21 3,oL 22 21]) (oJ 22 (oR [oM 23 2,oF 5 24 1,oL 25 24,oY 1 26 23 25,oM 2 26]) .skip)) (oV (oR [oM 27 2,oM 2 27]) .ret))))))
theorem zLg (h:AHeap) (x:LIns) (cs:List Value) (hcs:RIns h cs x) (tt:Tbl h) (hx:x.args.length≤20):
  WC Tryz.prog tb 111 [.agg cs.toArray] h fun r h'=>OwnN h h' r (yI x)∧Ext h h':=by
 obtain⟨va,vfr,rfl,sa,sfr,hla,hlf,ho,ho2⟩:=hcs;obtain⟨aa,an,ak,rfl⟩:=SlC.shape sa;obtain⟨fa,fn,fk,rfl⟩:=SlC.shape sfr;refine en 28 [(2,none)] zPW ?_;refine WO.bx ?_;intro p h1 e1 o1;refine go ?_;refine WO.con (zLb h1 x.op (tt.ext e1) ho ho2) ?_;rintro _ h2 ⟨rfl,e2⟩;refine go ?_;refine WO.al ?_;intro p3 h3 e3 o3;refine go ?_;refine WO.stC0 (cs:=Z1 (zU x.op)) o3 e3 ?_;intro h4 e4 o4 u4;have e14:=e2.trans e4;have o1:=o1.ext e14;have sa4:=SlI.ext sa (e1.trans e14);have o4:=o4.since e2;have o4:=o4.since e1;have e04:=e1.trans e14;clear e1 e2 e3 e4 u4 e14 o3;unfold yI;generalize zU x.op=q at *;obtain⟨qa,qb,qn,qg,qf,qt⟩:=q;simp only;refine go ?_;refine WX.cutA [9,10,11,12,13,2] (by kernel_rfl) (fun t h'=>Ext h4 h'∧∃ w,zB t 2=w∧OwnN h4 h' w (if qa then [x.a] else [])) ?_ ?_
 ·cases qa with
  |true=>
   refine go ?_;refine WO.bl [x.a] ?_;intro v h2 e2 o2;refine go ?_;refine WO.apN (v:= .slice none 0 0) (xs:=[]) (h0:=h4) (.inl ⟨rfl,rfl⟩) o2.sl e2 (by simp) ?_;intro v3 h3 e3 o3;refine go ?_;exact zE ⟨e3,v3,sl_,o3⟩
  |false=>
   refine go ?_;exact zE ⟨Ext.refl _,_,sl_,.inl ⟨rfl,rfl⟩⟩
 rintro t2 h2 hs2 ⟨e2,w2,q2,ow2⟩;have o2:=o1.ext e2;have o42:=o4.ext e2;have l2:(if qa then [x.a] else []).length≤1:=by split<;>simp
 generalize (if qa then [x.a] else [])=lA at *;refine go ?_;refine WX.cutA [16,17,18,19,20,2] (by kernel_rfl) (fun t h'=>Ext h4 h'∧∃ w,zB t 2=w∧OwnN h4 h' w (lA++if qb then [x.b] else [])) ?_ ?_
 ·cases qb with
  |true=>
   refine go ?_;refine WO.bl [x.b] ?_;intro v h3 e3 o3;refine go ?_;refine WO.apN (OwnN.ext ow2 e3) o3.sl (e2.trans e3) (by simp only[List.length_singleton];omega) ?_;intro v4 h5 e5 o5;refine go ?_;exact zE ⟨e5,v4,sl_,o5⟩
  |false=>
   refine go ?_;exact zE ⟨e2,_,sl_,by simpa using ow2⟩
 rintro t3 h3 hs3 ⟨e3,w3,q3,ow3⟩;have o3:=o1.ext e3;have o43:=o4.ext e3;have sa3:=SlI.ext sa4 e3;have l3:(lA++if qb then [x.b] else []).length≤2:=by rw[List.length_append];split<;>simp<;>omega
 rw[←List.append_assoc];generalize (lA++if qb then [x.b] else [])=lB at *;refine go ?_;cases qg with
 |true=>
  refine go ?_;refine WO.apN ow3 sa3 e3 (by omega) ?_;intro v5 h5 e5 o5;refine gr ?_;exact⟨o5.since e04,e04.trans e5⟩
 |false=>
  refine gr ?_;subst q3;rw[if_neg (by simp),List.append_nil];exact⟨ow3.since e04,e04.trans e3⟩
def zRK:ACode:=(oV (oR [oX 1 0,oK 2 (.slice none 0 0)]) (oV (oV (oR [oF 0 3 1,oL 4 3,oD .eql 5 4 2,oM 6 5,oH 6 (oF 0 7 1),oH 6 (oL 8 7),oH 6 (oD .eql 9 8 3),oO 10 6 9]) (oJ 10 (oV (oR [oF 1 11 1,oL 12 11,⟨some 13,none,(.buildSlice 1 1 [(.int .i64 0)] [(0,1,(.tmp 12))])⟩,oM 2 13]) .ret) .skip)) (oV (oR [oK 2 (.slice none 0 0)]) .ret)))
theorem zF2 (h:AHeap) (x:LEnd):WC Tryz.prog tb 86 [.agg #[.int .u8 x.kind,I x.a,I x.to,I x.els]] h fun r h'=>OwnN h h' r (z9 x)∧Ext h h':=by
 refine en 14 [(2,none)] zRK ?_;refine WO.bx ?_;intro p h1 e1 o1;unfold z9;by_cases c2:x.kind=2
 ·rw[if_pos (.inl c2)];refine go ?_;refine WO.bl [x.a] ?_;intro v h2 e2 o2;refine gr ?_;exact⟨.inr (o2.since e1),e1.trans e2⟩
 by_cases c3:x.kind=3
 ·rw[if_pos (.inr c3)];refine go ?_;refine WO.bl [x.a] ?_;intro v h2 e2 o2;refine gr ?_;exact⟨.inr (o2.since e1),e1.trans e2⟩
 rw[if_neg (by simp[c2,c3])];refine gr ?_;exact⟨.inl ⟨rfl,rfl⟩,e1⟩
set_option maxRecDepth 100000
def zSP:ACode:=(oV (oR [oK 2 (.slice none 0 0)]) (oV (oV (oR [oM 3 0,⟨some 4,none,(.isNil 0 false (.tmp 3))⟩]) (oJ 4 (oV (oR [oK 2 (.slice none 0 0)]) .ret) .skip)) (oV (oR [⟨some 5,none,(.buildSlice 0 1 [(.int .i64 0)] [])⟩,oM 6 0,oY 1 7 5 6,oM 2 7]) .ret)))
theorem zNC (h:AHeap) (v:Value) (l:List Int) (s:SlI h v l) (hl:l.length≤1000000):WC Tryz.prog tb 55 [v] h fun r h'=>OwnN h h' r l∧Ext h h':=by
 refine en 8 [(2,none)] zSP ?_;obtain⟨a,n,k,rfl⟩:=SlC.shape s;cases a with
 |none=>
  have hn:l=[]:=by
   rcases s.2 with ⟨h0,_⟩|⟨g,off,row,hv,_⟩
   ·exact List.length_eq_zero_iff.1 h0
   ·cases hv
  subst hn;refine go ?_;refine WX.br (fun hb=> ?_) (fun hb=> ?_)
  ·refine gr ?_;exact⟨.inl ⟨rfl,rfl⟩,Ext.refl _⟩
  ·exact absurd hb (by simp)
 |some a=>
  refine go ?_;refine WX.br (fun hb=> ?_) (fun hb=> ?_)
  ·exact absurd hb (by simp)
  ·refine go ?_;refine WO.bl [] ?_;intro v1 h1 e1 o1;have s1:=SlI.ext s e1;refine go ?_;refine WO.apN (.inr o1) s1 e1 (by simp only[List.length_nil];omega) ?_;intro v2 h2 e2 o2;refine gr ?_;exact⟨o2,e2⟩
set_option maxRecDepth 100000
theorem zH3 {k:Int} (h0:0≤k) (h:k<4294967296):yi .and (.int .u64 k) (.int .u64 4294967295)=some (.int .u64 k):=by
 have e:(BitVec.ofInt 64 k&&& BitVec.ofInt 64 4294967295).toNat=k.toNat:=by
  rw[BitVec.toNat_and,show (BitVec.ofInt 64 4294967295).toNat=2 ^ 32 - 1 from rfl,Nat.and_two_pow_sub_one_eq_mod,BitVec.toNat_ofInt];omega
 simp only[yi,ne_eq,not_true_eq_false,if_false];rw[show ((BitVec.ofInt (IntKind.bits .u64) k&&& BitVec.ofInt (IntKind.bits .u64) 4294967295).toNat)=k.toNat from e,show ((k.toNat:Nat):Int)=k by omega,YI h0 (by omega)];rfl
theorem zDU {k:Int} (h0:0≤k) (h:k<4294967296):yi .shr (.int .u64 k) (.int .u64 32)=some (.int .u64 0):=by
 have e:(min (32:Int).toNat IntKind.u64.bits)=32:=rfl;simp only[yi,e];rw[if_neg (by decide),Int.fdiv_eq_ediv_of_nonneg _ (by decide),show k / 2 ^ 32=0 by omega]
theorem zDN {a b c:Int} (e:a * b=c) (h0:0≤c) (h:c<18446744073709551616):yi .mul (.int .u64 a) (.int .u64 b)=some (.int .u64 c):=by
 subst e;simp only[yi,ne_eq,not_true_eq_false,if_false,if_true];rw[YI h0 h]
theorem zFn {a b c:Int} (e:a+b=c) (h0:0≤c) (h:c<18446744073709551616):yi .add (.int .u64 a) (.int .u64 b)=some (.int .u64 c):=by
 subst e;simp only[yi,ne_eq,not_true_eq_false,if_false,if_true];rw[YI h0 h]
def zPo:ACode:=(oV (oR [oK 4 (.int .u64 0),oK 5 (.int .u64 0)]) (oV (oR [oM 14 0,⟨some 15,none,(.bin .and (.tmp 14) (.const (.int .u64 4294967295)))⟩,oM 6 15]) (oV (oR [oM 16 0,⟨some 17,none,(.bin .shr (.tmp 16) (.const (.int .u64 32)))⟩,oM 7 17]) (oV (oR [oM 18 1,⟨some 19,none,(.bin .and (.tmp 18) (.const (.int .u64 4294967295)))⟩,oM 8 19]) (oV (oR [oM 20 1,⟨some 21,none,(.bin .shr (.tmp 20) (.const (.int .u64 32)))⟩,oM 9 21]) (oV (oR [oM 22 6,oM 23 8,oB .mul 24 22 23,oM 10 24]) (oV (oR [oM 25 7,oM 26 8,oB .mul 27 25 26,oM 28 10,⟨some 29,none,(.bin .shr (.tmp 28) (.const (.int .u64 32)))⟩,oB .add 30 27 29,oM 11 30]) (oV (oR [oM 31 11,⟨some 32,none,(.bin .and (.tmp 31) (.const (.int .u64 4294967295)))⟩,oM 12 32]) (oV (oR [oM 33 11,⟨some 34,none,(.bin .shr (.tmp 33) (.const (.int .u64 32)))⟩,oM 13 34]) (oV (oR [oM 35 12,oM 36 6,oM 37 9,oB .mul 38 36 37,oB .add 39 35 38,oM 12 39]) (oV (oR [oM 40 7,oM 41 9,oB .mul 42 40 41,oM 43 13,oB .add 44 42 43,oM 45 12,⟨some 46,none,(.bin .shr (.tmp 45) (.const (.int .u64 32)))⟩,oB .add 47 44 46,oM 4 47]) (oV (oR [oM 48 0,oM 49 1,oB .mul 50 48 49,oM 5 50]) .ret))))))))))))
theorem zLq (h:AHeap) (k:Nat) (hk:k<4294967296):WC Tryz.prog tb 150 [.int .u64 1,.int .u64 k] h fun r h'=>r= .tuple #[.int .u64 0,.int .u64 k]∧h=h':=by
 have k0:(0:Int)≤k:=by omega
 have k1:(k:Int)<4294967296:=by omega
 refine en 51 [(4,none),(5,none)] zPo ?_;refine WO.bin zM zM (zH3 (by omega) (by omega)) ?_;refine go ?_;refine WO.bin zM zM (zDU (by omega) (by omega)) ?_;refine go ?_;refine WO.bin zM zM (zH3 k0 k1) ?_;refine go ?_;refine WO.bin zM zM (zDU k0 k1) ?_;refine go ?_;refine WO.bin zM zM (zDN (Int.one_mul _) k0 (by omega)) ?_;refine go ?_;refine WO.bin zM zM (zDN (Int.zero_mul _) (Int.le_refl 0) (by omega)) ?_;refine go ?_;refine WO.bin zM zM (zDU k0 k1) ?_;refine go ?_;refine WO.bin zM zM (zFn rfl (by omega) (by omega)) ?_;refine go ?_;refine WO.bin zM zM (zH3 (by omega) (by omega)) ?_;refine go ?_;refine WO.bin zM zM (zDU (by omega) (by omega)) ?_;refine go ?_;refine WO.bin zM zM (zDN rfl (by omega) (by omega)) ?_;refine go ?_;refine WO.bin zM zM (zFn rfl (by omega) (by omega)) ?_;refine go ?_;refine WO.bin zM zM (zDN rfl (by omega) (by omega)) ?_;refine go ?_;refine WO.bin zM zM (zFn rfl (by omega) (by omega)) ?_;refine go ?_;refine WO.bin zM zM (zDU (by omega) (by omega)) ?_;refine go ?_;refine WO.bin zM zM (zFn rfl (by omega) (by omega)) ?_;refine go ?_;refine WO.bin zM zM (zDN (Int.one_mul _) k0 (by omega)) ?_;refine gr ?_;exact⟨rfl,rfl⟩
def zSU:ACode:=(oV (oR [oK 4 (.int .u64 0),oK 5 (.int .u64 0)]) (oV (.cond (.const (.bool false)) (oV (oR [oM 11 0,⟨some 12,none,(.conv .u32 (.tmp 11))⟩,oM 13 1,⟨some 14,none,(.conv .u32 (.tmp 13))⟩,o2 15 149 12 14,oM 10 15,oE 16 10 0,oE 17 10 1,oM 6 16,oM 7 17]) (oV (oR [oM 18 6,⟨some 19,none,(.conv .u64 (.tmp 18))⟩,oM 20 7,⟨some 21,none,(.conv .u64 (.tmp 20))⟩,oM 4 19,oM 5 21]) .ret)) .skip) (oV (oR [oM 23 0,oM 24 1,o2 25 150 23 24,oM 22 25,oE 26 22 0,oE 27 22 1,oM 8 26,oM 9 27]) (oV (oR [oM 28 8,oM 29 9,oM 4 28,oM 5 29]) .ret))))
theorem zON (h:AHeap) (k:Nat) (hk:k<4294967296):WC Tryz.prog tb 94 [.int .u64 1,.int .u64 k] h fun r h'=>r= .tuple #[.int .u64 0,.int .u64 k]∧h=h':=by
 refine en 30 [(4,none),(5,none)] zSU ?_;refine WO.con (zLq h k hk) ?_;rintro _ _ ⟨rfl,rfl⟩;refine gr ?_;exact⟨rfl,rfl⟩
theorem zEj {z:List Value}:∀ {m n:Nat},m≤n→(zZ z n).take (m * z.length)=zZ z m
 |0,n,_=>by simp[zZ]
 |m+1,0,h=>by omega
 |m+1,n+1,h=>by
  show (z++zZ z n).take _=z++zZ z m;rw[show (m+1) * z.length=z.length+m * z.length by rw[Nat.add_mul];omega,List.take_length_add_append,zEj (by omega)]
theorem zAm {z:List Value}:∀ {m n:Nat},(zZ z n).drop (m * z.length)=zZ z (n - m)
 |0,n=>by simp
 |m+1,0=>by simp[zZ]
 |m+1,n+1=>by
  show (z++zZ z n).drop _=_;rw[show (m+1) * z.length=z.length+m * z.length by rw[Nat.add_mul];omega,List.drop_length_add_append,zAm (m:=m) (n:=n),show n+1 - (m+1)=n - m by omega]
theorem zGk {z:List Value}:∀ {m n:Nat},zZ z m++zZ z n=zZ z (m+n)
 |0,n=>by simp[zZ]
 |m+1,n=>by
  show (z++zZ z m)++zZ z n=_;rw[List.append_assoc,zGk,show m+1+n=(m+n)+1 by omega];rfl
def zAL (z w:List Value) (n k:Nat):List Value:=zZ w n++zZ z (k - n)
theorem zLe {z w:List Value} {n k m:Nat} (hw:w.length=z.length) (hm:m≤n) (hk:n+m≤k):zg (zAL z w n k) (n * z.length) ((zZ w n).take (m * z.length))=zAL z w (n+m) k:=by
 have h1:(zZ w n).length=n * z.length:=by rw[zt,hw]
 have h3:(zZ w n).take (m * z.length)=zZ w m:=by rw[←hw];exact zEj hm
 have h2:(zZ w m).length=m * z.length:=by rw[zt,hw]
 unfold zg zAL;rw[h3,h2];rw[show List.take (n * z.length) (zZ w n++zZ z (k - n))=zZ w n by rw[←h1];exact List.take_left];rw[show n * z.length+m * z.length=(zZ w n).length+m * z.length by rw[h1],List.drop_length_add_append,zAm,←zGk,show k - n - m=k - (n+m) by omega]
theorem zJx {c g off len n:Nat} (hn:n≤len):ZX c (.slice (some ⟨g,off,none⟩) len c) none (some n) none=some (.slice (some ⟨g,off,none⟩) n c):=by
 have b1:Nat.ble 0 n=true:=Nat.ble_eq_true_of_le (Nat.zero_le _);have b2:Nat.ble n len=true:=Nat.ble_eq_true_of_le hn;simp only[ZX,Option.getD_none,Option.getD_some,b1,b2,Option.isNone_none,Bool.and_self,cond_true,Nat.beq_refl,Nat.zero_mul,Nat.add_zero,Nat.sub_zero]
theorem zIn {w:List Value} (h:zN w=true):∀ n,zN (zZ w n)=true
 |0=>rfl
 |n+1=>by
  have:=zIn h n;unfold zN at *;show (w++zZ w n).all _=true;rw[List.all_append,h,this];rfl
def zLj:ACode:=(oV (oV (oR [oM 34 8,oM 35 7,oQ 36 35,oB .lss 37 34 36]) (oT 37 0)) (o5 1 (o6 [oM 38 8,oM 39 7,oM 40 8,(⟨some 41,none,(.slice 2 (.tmp 39) (some (.tmp 40)) none none)⟩,[]),oM 42 7,oM 43 8,(⟨some 44,none,(.slice 2 (.tmp 42) none (some (.tmp 43)) none)⟩,[]),(⟨some 45,none,(.copy 2 (.tmp 41) (.tmp 44))⟩,[]),oB .add 46 38 45,oM 8 46])))
def zR5:ACode:=(oV (oR [oK 4 (.slice none 0 0)]) (oV (oV (oR [oM 9 1,oC .lss 10 9 0]) (oJ 10 (oR [⟨some 11,none,(.mkIface 9 (.const (.string ⟨#[99,97,110,110,111,116,32,98,101,32,110,101,103,97,116,105,118,101]⟩)))⟩,⟨none,none,.stuck⟩]) .skip)) (oV (oR [oM 13 0,oQ 14 13,⟨some 15,none,(.conv .u64 (.tmp 14))⟩,oM 16 1,⟨some 17,none,(.conv .u64 (.tmp 16))⟩,o2 18 94 15 17,oM 12 18,oE 19 12 0,oE 20 12 1,oM 5 19,oM 6 20]) (oV (oV (oR [oM 21 5,⟨some 22,none,(.bin .gtr (.tmp 21) (.const (.int .u64 0)))⟩,oM 23 22,oH 23 (oM 24 6),⟨some 25,some (23,false),(.bin .gtr (.tmp 24) (.const (.int .u64 9223372036854775807)))⟩,oO 26 23 25]) (oJ 26 (oR [⟨some 27,none,(.mkIface 9 (.const (.string ⟨#[116,104,101,32,114,101,115,117,108,116,32,111,102,32,40,108,101,110,40,120,41,32,42,32,99,111,117,110,116,41,32,111,118,101,114,102,108,111,119,115]⟩)))⟩,⟨none,none,.stuck⟩]) .skip)) (oV (oR [oM 28 6,⟨some 29,none,(.conv .i64 (.tmp 28))⟩,⟨some 30,none,(.mkSlice 2 [(.int .i64 0),(.int .i64 0)] (.tmp 29) (.tmp 29))⟩,oM 7 30]) (oV (oR [oM 31 7,oM 32 0,⟨some 33,none,(.copy 2 (.tmp 31) (.tmp 32))⟩,oM 8 33]) (oV (o5 0 (.loop zLj)) (oV (oR [oM 47 7,oM 4 47]) .ret))))))))
theorem zHP (h:AHeap) (v:Value) (a b:Int) (k:Nat) (s:SlC 2 h v 1 [I a,I b]) (hm:h.mark≤h.n) (hk:k≤100000):
  WC Tryz.prog tb 57 [v,I k] h fun r h'=>(∃ g,h.n≤g∧g<h'.n∧r= .slice (some ⟨g,0,none⟩) k 2∧h'.get g=some (.row (zZ [I a,I b] k) true 0))∧Ext h h':=by
 obtain⟨a1,a2,a3,rfl⟩:=SlC.shape s;have hlen:∀ {P:Program} {ih:Ex} {t:Trie Value} {x:Operand},ev t x= .slice a1 a2 a3→aop P ih t h (.len x)=some (I 1,h):=fun hx=>zC2 s hx;refine en 48 [(4,none)] zR5 ?_;refine WO.op _ _ rfl (hlen (by exact zM)) ?_;refine go ?_;have hw1:IntKind.wrap .u64 1=1:=rfl;have hwk:IntKind.wrap .u64 (k:Int)=k:=YI (by omega) (by omega);simp only[hw1,hwk];refine WO.con (zON h k (by omega)) ?_;rintro _ _ ⟨rfl,rfl⟩;refine go ?_;refine WO.mkS (n:=k) hk ?_;intro h1 e1 n1 g1;refine go ?_;have s1:=s.ext e1;refine WO.cpM (m:=min 1 k) g1 s1 (by decide) rfl (by rw[zt];show 0+_ * 2≤k * 2;omega) rfl ?_;intro h2 n2 k2 g2 w2 m2 r2 _;have e2:Ext h h2:=⟨by omega,fun j hj=>(k2 j (by omega)).trans (e1.get j hj),fun w=>w2 (e1.wf w),m2.trans e1.mark,fun hm=>(r2 (by rw[e1.mark];exact hm)).trans (e1.wr hm)⟩;have g2:h2.get h.n=some (.row (zAL [I 0,I 0] [I a,I b] (min 1 k) k) true 0):=by
  rw[g2];congr 2;by_cases h0:k=0
  ·subst h0;rfl
  ·have hm1:min 1 k=1:=by omega
   rw[hm1];show zg (zZ [I 0,I 0] k) 0 _=zZ [I a,I b] 1++zZ [I 0,I 0] (k - 1);unfold zg;show _++List.drop (1 * ([I 0,I 0]:List Value).length) _=_;rw[zAm];rfl
 clear g1 k2 w2 m2 r2;refine go ?_;refine WX.loopA [34,35,36,37,38,39,40,41,42,43,44,45,46,8] (by kernel_rfl) (fun i=>k - i) (fun i t h1=>Ext h h1∧zB t 8=I i∧i≤k∧(1≤i∨k=0)∧h.n<h1.n∧h1.get h.n=some (.row (zAL [I 0,I 0] [I a,I b] i k) true 0)) (min 1 k) ?_ ?_
 ·exact⟨e2,sl_,by omega,by omega,by omega,g2⟩
 rintro i t h3 hsame ⟨e3,s8,hi,hi1,n3,g3⟩;have sl3:SlC 2 h3 (.slice (some ⟨h.n,0,none⟩) k 2) k (zAL [I 0,I 0] [I a,I b] i k):=SlC.own n3 g3 (by unfold zAL;rw[List.length_append,zt,zt];show i * 2+(k - i) * 2=k * 2;omega);have hlen3:∀ {P:Program} {ih:Ex} {t:Trie Value} {x:Operand},ev t x= .slice (some ⟨h.n,0,none⟩) k 2→aop P ih t h3 (.len x)=some (I k,h3):=fun hx=>zC2 sl3 hx;refine go ?_;refine WO.op _ _ rfl (hlen3 (by exact zM)) ?_;refine go ?_;refine WX.br (fun hb=> ?_) (fun hb=> ?_)<;>simp only[DB]at hb
 ·have hik:i<k:=by omega
  refine go ?_;refine WX.regionU2 0 rfl rfl ?_;refine goU ?_;refine WO.slLo (i:=i) (hy:=by exact zM) (zF6 (Nat.le_of_lt hik)) ?_;refine nQ ?_;refine goU ?_;refine WO.slHi (i:=i) (hy:=by exact zM) (zJx (Nat.le_of_lt hik)) ?_;refine nQ ?_;refine goU ?_;have gX:(inC (zC 0 h3)).get h.n=some (.row (zAL [I 0,I 0] [I a,I b] i k) true 0):=g3;have sX:SlC 2 (inC (zC 0 h3)) (.slice (some ⟨h.n,0,none⟩) i 2) i (zZ [I a,I b] i):=by
   refine⟨by rw[zt];rfl,.inr ⟨h.n,0,_,rfl,by unfold yP;rw[gX],?_,n3⟩⟩;rw[ZD (by unfold zAL;rw[List.length_append,zt,zt];show 0+i * 2≤i * 2+(k - i) * 2;omega)];unfold zAL;rw[List.drop_zero,show i * 2=(zZ [I a,I b] i).length by rw[zt];rfl,List.take_left]
  refine WO.cpM (m:=min i (k - i)) gX sX (by decide) rfl (by unfold zAL;rw[List.length_append,zt,zt];show 0+i * 2+_ * 2≤i * 2+(k - i) * 2;omega) (zIn rfl i) ?_;intro X' n4 k4 g4 w4 m4 r4 wr4;refine WO.nil (zSV (fun j hj=> ?_) (Nat.le_of_eq n4.symm) fun cl'=> ?_)
  ·rcases wr4 j hj with rfl|h2
   ·rw[e3.mark];exact hm
   ·cases h2
  refine goU ?_;rw[Nat.zero_add]at g4;have g5:=zLe (z:=[I 0,I 0]) (w:=[I a,I b]) (n:=i) (k:=k) (m:=min i (k - i)) rfl (by omega) (by omega);rw[show ([I 0,I 0]:List Value).length=2 from rfl]at g5;rw[g5]at g4;have hcast:(i:Int)+(min i (k - i):Nat)=((i+min i (k - i):Nat):Int):=by omega
  rw[hcast];refine zA (i+min i (k - i)) (by omega) ⟨⟨?_,?_,?_,?_,?_⟩,sl_,by omega,by omega,?_,g4⟩
  ·show h.n≤X'.n;rw[n4];exact Nat.le_of_lt n3
  ·intro j hj;exact(k4 j (by omega)).trans (e3.get j hj)
  ·intro w;exact w4 (e3.wf w)
  ·exact e3.mark
  ·exact e3.wr
  ·show h.n<X'.n;rw[n4];exact n3
 ·have hik:i=k:=by omega
  subst hik;refine gr ?_;refine⟨⟨h.n,Nat.le_refl _,n3,rfl,?_⟩,e3⟩;rw[g3];unfold zAL;rw[Nat.sub_self];simp[zZ]
def InT (T:List LType) (t:Int):Prop:=t= -1∨(0≤t∧t<(T.length:Int))
def isT (T:List LType) (k t:Int):Bool:=decide (t≠ -1)&&decide ((T.getD t.toNat default).kind=k)
def isL (T:List LType) (k:Int) (l:List Int):Bool:=l.all (isT T k)
def zA9 (T:List LType) (t:Int):Bool:=isT T 1 t||isT T 2 t||isT T 3 t
def toT (T:List LType) (t:Int):Int:=if isT T 2 t then (T.getD t.toNat default).elem else -1
def Zc (T:List LType) (s n:Int):Int:=
 if s= -1 then -1 else if isT T 4 s&&decide (n<((T.getD s.toNat default).parts.length:Int)) then (T.getD s.toNat default).parts.getD n.toNat 0 else if isT T 5 s then (T.getD s.toNat default).elem else -1
def zGi (T:List LType) (from' t n:Int):Bool:=decide (Zc T (toT T from') n≠ -1)&&decide (toT T t=Zc T (toT T from') n)
def zCf (T:List LType) (sig:Int) (args:List Int) (t:Int):Bool:=isT T 3 sig&&decide ((T.getD sig.toNat default).parts=args)&&decide ((T.getD sig.toNat default).elem=t)
def zID (T:List LType) (x:LIns) (l:List Int):Bool:=
 if x.op=14 then isT T 4 (toT T (l.getD 0 0))&&zGi T (l.getD 0 0) x.ty x.n
 else if x.op=15 then isT T 5 (toT T (l.getD 0 0))&&isT T 1 (l.getD 1 0)&&zGi T (l.getD 0 0) x.ty 0
 else if x.op=16 then zA9 T (toT T (l.getD 0 0))&&decide (x.ty=toT T (l.getD 0 0))
 else zA9 T (toT T (l.getD 0 0))&&decide (l.getD 1 0=toT T (l.getD 0 0))
def sigF (F:List LFn) (n:Int):Int:=(F.getD n.toNat default).sig
def yA (T:List LType) (F:List LFn) (x:LIns) (l:List Int):Bool:=
 if x.op=2 then isT T 2 x.ty||isT T 3 x.ty
 else if x.op=3 then decide (x.ty=sigF F x.n)
 else if x.op=10 then isL T 2 l&&decide (l.getD 0 0=l.getD 1 0)&&isT T 1 x.ty
 else if x.op=11∨x.op=12 then isT T 2 x.ty
 else if x.op=13 then isL T 2 l
 else if x.op=14∨x.op=15∨x.op=16∨x.op=17 then zID T x l
 else if x.op=18 then zCf T (sigF F x.n) l x.ty
 else if x.op=19 then zCf T (l.getD 0 0) (l.drop 1) x.ty
 else if x.op=22 then zA9 T x.ty&&l.all (fun t=>decide (t=x.ty))
 else if x.op=21 then isL T 1 l
 else isL T 1 l&&isT T 1 x.ty
def YQ (x:LIns):Int:=if (zU x.op).2.2.2.2.2 then x.ty else -1
def ZM (L:List LBlk):List Int:=L.flatMap fun b=>b.ins.map YQ
def zDm (par:List Int) (L:List LBlk):List Int:=par++ZM L
def yW (L:List LBlk):Nat→List (Int×Int)
 |0=>[]
 |n+1=>yW L n++(List.range (L.getD n default).ins.length).map fun (i:Nat)=>((n:Int),(i:Int))
def zC9 (par:Nat) (L:List LBlk):List (Int×Int):=List.replicate par (-1,-1)++yW L L.length
theorem zAS {L:List LBlk} {n:Nat} (h:n<L.length):ZM (L.take (n+1))=ZM (L.take n)++(L.getD n default).ins.map YQ:=by
 unfold ZM;rw[List.take_add_one,List.getElem?_eq_getElem h,List.flatMap_append,show L.getD n default=L[n] by rw[List.getD_eq_getElem?_getD,List.getElem?_eq_getElem h];rfl];simp
theorem zFj {T:List LType} (h:yb T=0) {t:Int} (h0:0≤t) (h1:t<(T.length:Int)):Yn T t.toNat:=by
 rw[zD4]at h;split at h
 ·cases h
 ·split at h
  ·rename_i hl;exact(hl t.toNat (by omega)).1
  ·cases h
theorem zFN {T:List LType} (h:yb T=0) {t:Int} (ht:InT T t):InT T (toT T t):=by
 unfold toT;split
 ·rename_i hk;unfold isT at hk;simp only[Bool.and_eq_true,decide_eq_true_eq]at hk;rcases ht with rfl|⟨h0,h1⟩
  ·exact absurd rfl hk.1
  ·have:=zFj h h0 h1;rcases this with ⟨k,_⟩|⟨_,e0,e1,_⟩|⟨k,_⟩|⟨k,_⟩|⟨k,_⟩
   ·omega
   ·exact .inr ⟨e0,e1⟩
   ·omega
   ·omega
   ·omega
 ·exact .inl rfl
theorem zE5 {T:List LType} (h:yb T=0) {s n:Int} (hs:InT T s) (hn:0≤n):InT T (Zc T s n):=by
 unfold Zc;split
 ·exact .inl rfl
 rename_i hs1;have ⟨h0,h1⟩:=hs.resolve_left hs1;have hm:=zFj h h0 h1;split
 ·rename_i hk;unfold isT at hk;simp only[Bool.and_eq_true,decide_eq_true_eq]at hk;rcases hm with ⟨k,_⟩|⟨k,_⟩|⟨k,_⟩|⟨_,_,_,_,_,hp⟩|⟨k,_⟩
  ·omega
  ·omega
  ·omega
  ·have hlt:n.toNat<(T.getD s.toNat default).parts.length:=by omega
   have:=hp _ (zS hlt);exact .inr ⟨this.1,by omega⟩
  ·omega
 ·split
  ·rename_i hk;unfold isT at hk;simp only[Bool.and_eq_true,decide_eq_true_eq]at hk;rcases hm with ⟨k,_⟩|⟨k,_⟩|⟨k,_⟩|⟨k,_⟩|⟨_,e0,e1,_⟩
   ·omega
   ·omega
   ·omega
   ·omega
   ·exact .inr ⟨e0,by omega⟩
  ·exact .inl rfl
theorem Y6 {T:List LType} {k t:Int} (h:isT T k t=true):t≠ -1:=by
 unfold isT at h;simp only[Bool.and_eq_true,decide_eq_true_eq]at h;exact h.1
set_option maxRecDepth 100000
def RPl (_:AHeap) (cs:List Value) (x:Int×Int):Prop:=cs=[I x.1,I x.2]
structure FnM (h:AHeap) (g:Nat) (vt vf:Value) (T:List LType) (F:List LFn) (f:Int) (ks:List Int) (ps:List (Int×Int)) (rs:List Int):Prop where
 own:∃ hB vk vp vr,OwnC hB h (.pointer (some ⟨g,0,none⟩)) [vt,vf,I f,vk,vp,vr]∧SlI h vk ks∧SlR 2 RPl h vp ps∧SlI h vr rs
 st:SlT h vt T
 sf:SlF h vf F
 hm:h.mark≤h.n
theorem FnM.ext {h h':AHeap} {g:Nat} {vt vf:Value} {T:List LType} {F:List LFn} {f:Int} {ks:List Int} {ps:List (Int×Int)} {rs:List Int} (M:FnM h g vt vf T F f ks ps rs) (e:Ext h h'):FnM h' g vt vf T F f ks ps rs:=by
 obtain⟨⟨hB,vk,vp,vr,o,a,b,c⟩,st,sf,hm⟩:=M;exact⟨⟨hB,vk,vp,vr,o.ext e,a.ext e,SlR.ext (h:=h) (h':=h') (fun cs a (r:RPl h cs a)=>(r:RPl h' cs a)) b e,c.ext e⟩,st.ext e,SlF.ext sf e,zp e hm⟩
theorem zKp {A B:List Int} (hl:A.length=B.length) (h:∀ i,i<A.length→A.getD i 0=B.getD i 0):A=B:=by
 refine List.ext_getElem hl fun i h1 h2=> ?_;have:=h i h1;rwa [List.getD_eq_getElem?_getD,List.getD_eq_getElem?_getD,List.getElem?_eq_getElem h1,List.getElem?_eq_getElem h2]at this
def zKu:ACode:=(oV (oR [oB .lss 14 13 12]) (oV (oT 14 0) (oV (o5 1 (oV (oR [oM 15 13,oM 5 15]) (oV (o6 [oM 16 0,oM 17 5,oI 1 18 16 17,oL 19 18,oM 20 1,oM 21 5,oI 1 22 20 21,oL 23 22,oB .neq 24 19 23]) (oJ 24 (oV (oR [oZ 4]) .ret) .skip)))) (oR [oC .add 25 13 1,oM 13 25]))))
def zOk:ACode:=(oV (oR [oZ 4]) (oV (oV (oR [oM 6 0,oQ 7 6,oM 8 1,oQ 9 8,oB .neq 10 7 9]) (oJ 10 (oV (oR [oZ 4]) .ret) .skip)) (oV (oV (oR [oM 11 0,oQ 12 11,oN 13 0]) (o5 0 (.loop zKu))) (oV (oR [oK 4 (.bool true)]) .ret))))
theorem zEz (h:AHeap) (va vb:Value) (A B:List Int) (ka:SlI h va A) (kb:SlI h vb B) (la:(A.length:Int)≤9223372036854775807):WC Tryz.prog tb 168 [va,vb] h fun r h'=>r= .bool (decide (A=B))∧h=h':=by
 refine en 26 [(4,none)] zOk ?_;by_cases hl:A.length=B.length;case neg=>
  refine gr ?_;exact⟨by rw[decide_eq_false (fun e=>hl (by rw[e]))];rfl,rfl⟩
 refine go ?_;refine WX.loopA [14,15,5,16,17,18,19,20,21,22,23,24,4,25,13] (by kernel_rfl) (fun i=>A.length - i) (fun i t h1=>h=h1∧zB t 13=I i∧i≤A.length∧Hid (∀ j,j<i→A.getD j 0=B.getD j 0)) 0 ?_ ?_
 ·exact⟨rfl,sl_,Nat.zero_le _,⟨fun j hj=>absurd hj (Nat.not_lt_zero _)⟩⟩
 rintro i t _ hsame ⟨rfl,s13,hi,hI⟩;refine go ?_;refine WX.br (fun hb=> ?_) (fun hb=> ?_)<;>simp only[DB]at hb
 ·have hia:i<A.length:=by omega
  have hib:i<B.length:=by omega
  refine go ?_;refine WX.br (fun hb=> ?_) (fun hb=> ?_)<;>simp only[DB]at hb<;>refine go ?_
  ·refine rt ?_;refine⟨?_,rfl⟩;rw[decide_eq_false (fun e=>by subst e;exact hb rfl)];rfl
  ·refine zA (i+1) (by omega) ⟨rfl,sln,by omega,⟨fun j hj=> ?_⟩⟩;by_cases e:j=i
   ·subst e;exact hb
   ·exact hI.out j (by omega)
 ·refine gr ?_;exact⟨by rw[decide_eq_true (zKp hl fun j hj=>hI.out j (by omega))];rfl,rfl⟩
section
variable {vt vf:Value} {T:List LType} {F:List LFn} {f:Int} {ks:List Int} {ps:List (Int×Int)} {rs:List Int} {g:Nat}
def zO5:ACode:=(oV (oR [oZ 4]) (oV (o6 [oM 5 0,oC .eql 6 5 (-1),oM 7 6,oH 7 (oL 8 1),(⟨some 9,some (7,false),(.nilCheck (.tmp 8))⟩,[]),oH 7 (oF 0 10 9),oH 7 (oF 0 11 10),oH 7 (oL 12 11),oH 7 (oM 13 0),oH 7 (oI 4 14 12 13),oH 7 (oF 0 15 14),oH 7 (oL 16 15),oH 7 (oL 17 2),oH 7 (oB .neq 18 16 17),oO 19 7 18,oM 4 19]) .ret))
theorem zOW (h h0 h00:AHeap) (p1 p2:Value) (k t:Int) (M:FnM h g vt vf T F f ks ps rs) (o1:OwnC h0 h p1 [.pointer (some ⟨g,0,none⟩)]) (o2:OwnC h00 h p2 [.int .u8 k]) (ht:InT T t):
  WC Tryz.prog tb 110 [I t,p1,p2] h fun r h'=>r= .bool (!isT T k t)∧Ext h h':=by
 obtain⟨⟨hB,vk,vp,vr,o,a,b,c⟩,st,sf,hm⟩:=M;refine en 20 [(4,none)] zO5 ?_;by_cases h1:t= -1
 ·refine gr ?_;refine⟨?_,Ext.refl h⟩;subst h1;rfl
 ·obtain⟨t0,t1⟩:=ht.resolve_left h1;obtain⟨cs,⟨va,rfl,sa,hla⟩,pc,hs⟩:=yQ (i:=t.toNat) st (by omega);refine gr ?_;refine⟨?_,Ext.refl h⟩;unfold isT;rw[decide_eq_true h1];simp[one]
def zRI:ACode:=(oV (oR [oX 3 0,oX 4 1,oZ 6]) (oV (oR [oM 7 2,⟨some 8,none,(.mkFunc (.func 110) [] [(.tmp 3),(.tmp 4)])⟩,o2 9 109 7 8,oW 10 9,oM 6 10]) .ret))
theorem yq (h:AHeap) (k:Int) (v:Value) (l:List Int) (M:FnM h g vt vf T F f ks ps rs) (s:SlI h v l) (hl:l.length≤1000) (hin:∀ t∈l,InT T t):
  WC Tryz.prog tb 67 [.pointer (some ⟨g,0,none⟩),.int .u8 k,v] h fun r h'=>r= .bool (isL T k l)∧Ext h h':=by
 refine en 11 [(6,none)] zRI ?_;refine WO.bx ?_;intro p1 h1 e1 o1;refine go ?_;refine WO.bx ?_;intro p2 h2 e2 o2;have o1:=o1.ext e2;have e12:=e1.trans e2;have M2:=M.ext e12;have s2:=s.ext e12;refine go ?_;refine WO.con (Yt h2 v _ l (fun t=> !isT T k t) s2 (by omega) ?_) ?_
 ·intro t ht h3 e3;exact WV.func (zOW h3 h h1 p1 p2 k t (M2.ext e3) (o1.ext e3) (o2.ext e3) (hin t ht))
 rintro _ h3 ⟨rfl,e3⟩;refine gr ?_;refine⟨?_,e12.trans e3⟩;show Value.bool _=_;rw[List.not_any_eq_all_not];simp[isL]
theorem yu (T:List LType) (k t:Int):isL T k [t]=isT T k t:=by simp[isL]
def zQO:ACode:=(oV (oR [oZ 4]) (oV (oR [oM 5 0,oM 6 1,⟨some 7,none,(.buildSlice 1 1 [(.int .i64 0)] [(0,1,(.tmp 6))])⟩,⟨some 8,none,(.call (.func 67) [(.tmp 5),(.const (.int .u8 1)),(.tmp 7)])⟩,oM 9 8,oH 9 (oM 10 0),oH 9 (oM 11 1),⟨some 12,some (9,false),(.buildSlice 1 1 [(.int .i64 0)] [(0,1,(.tmp 11))])⟩,⟨some 13,some (9,false),(.call (.func 67) [(.tmp 10),(.const (.int .u8 2)),(.tmp 12)])⟩,oO 14 9 13,oM 15 14,oH 15 (oM 16 0),oH 15 (oM 17 1),⟨some 18,some (15,false),(.buildSlice 1 1 [(.int .i64 0)] [(0,1,(.tmp 17))])⟩,⟨some 19,some (15,false),(.call (.func 67) [(.tmp 16),(.const (.int .u8 3)),(.tmp 18)])⟩,oO 20 15 19,oM 4 20]) .ret))
theorem zBA (h:AHeap) (t:Int) (M:FnM h g vt vf T F f ks ps rs) (ht:InT T t):
  WC Tryz.prog tb 166 [.pointer (some ⟨g,0,none⟩),I t] h fun r h'=>r= .bool (zA9 T t)∧Ext h h':=by
 have hin:∀ x∈[t],InT T x:=fun x hx=>by rw[List.mem_singleton.1 hx];exact ht
 unfold zA9;refine en 21 [(4,none)] zQO ?_;refine WO.bl [t] ?_;intro v1 h1 e1 o1;have M1:=M.ext e1;refine go ?_;refine WO.con (yq h1 1 v1 [t] M1 o1.sl (by simp) hin) ?_;rintro _ h2 ⟨rfl,e2⟩;rw[yu];cases c1:isT T 1 t with
 |true=>
  refine gr ?_;exact⟨rfl,e1.trans e2⟩
 |false=>
  have M2:=M1.ext e2;refine go ?_;refine WO.bl [t] ?_;intro v3 h3 e3 o3;have M3:=M2.ext e3;refine go ?_;refine WO.con (yq h3 2 v3 [t] M3 o3.sl (by simp) hin) ?_;rintro _ h4 ⟨rfl,e4⟩;rw[yu];have e04:=e1.trans (e2.trans (e3.trans e4));cases c2:isT T 2 t with
  |true=>
   refine gr ?_;exact⟨rfl,e04⟩
  |false=>
   have M4:=M3.ext e4;refine go ?_;refine WO.bl [t] ?_;intro v5 h5 e5 o5;have M5:=M4.ext e5;refine go ?_;refine WO.con (yq h5 3 v5 [t] M5 o5.sl (by simp) hin) ?_;rintro _ h6 ⟨rfl,e6⟩;rw[yu];refine gr ?_;exact⟨by cases isT T 3 t<;>rfl,e04.trans (e5.trans e6)⟩
def zP2:ACode:=(oV (oR [oN 4 0]) (oV (oV (oR [oM 5 0,oM 6 1,⟨some 7,none,(.buildSlice 1 1 [(.int .i64 0)] [(0,1,(.tmp 6))])⟩,⟨some 8,none,(.call (.func 67) [(.tmp 5),(.const (.int .u8 2)),(.tmp 7)])⟩,oW 9 8]) (oJ 9 (oV (oR [oN 4 (-1)]) .ret) .skip)) (oV (oR [oM 10 0,⟨some 11,none,(.nilCheck (.tmp 10))⟩,oF 0 12 11,oF 0 13 12,oL 14 13,oM 15 1,oI 4 16 14 15,oF 1 17 16,oL 18 17,oM 4 18]) .ret)))
theorem Yo (h:AHeap) (t:Int) (M:FnM h g vt vf T F f ks ps rs) (ht:InT T t):
  WC Tryz.prog tb 199 [.pointer (some ⟨g,0,none⟩),I t] h fun r h'=>r=I (toT T t)∧Ext h h':=by
 have hin:∀ x∈[t],InT T x:=fun x hx=>by rw[List.mem_singleton.1 hx];exact ht
 unfold toT;refine en 19 [(4,none)] zP2 ?_;refine WO.bl [t] ?_;intro v1 h1 e1 o1;have M1:=M.ext e1;refine go ?_;refine WO.con (yq h1 2 v1 [t] M1 o1.sl (by simp) hin) ?_;rintro _ h2 ⟨rfl,e2⟩;rw[yu];cases c1:isT T 2 t with
 |false=>
  refine gr ?_;exact⟨rfl,e1.trans e2⟩
 |true=>
  obtain⟨⟨hB,vk,vp,vr,o,a,b,c⟩,st,sf,hm⟩:=M1.ext e2;obtain⟨t0,t1⟩:=ht.resolve_left (Y6 c1);obtain⟨cs,⟨va,rfl,sa,hla⟩,pc,hs⟩:=yQ (i:=t.toNat) st (by omega);refine gr ?_;exact⟨rfl,e1.trans e2⟩
def zJH:ACode:=(oV (oR [oB .lss 10 9 8]) (oV (oT 10 0) (oV (o5 1 (oV (oR [oI 1 11 7 9,oL 12 11,oM 6 12]) (oR [oM 13 4,oM 14 0,⟨some 15,none,(.nilCheck (.tmp 14))⟩,oF 3 16 15,oL 17 16,oM 18 6,oI 1 19 17 18,oL 20 19,⟨some 21,none,(.buildSlice 1 1 [(.int .i64 0)] [(0,1,(.tmp 20))])⟩,oY 1 22 13 21,oM 4 22]))) (oR [oC .add 23 9 1,oM 9 23]))))
def zOM:ACode:=(oV (oR [oK 4 (.slice none 0 0)]) (oV (oV (oR [oM 7 1,oQ 8 7,oN 9 0]) (o5 0 (.loop zJH))) (oV (oR [oM 24 4,oM 4 24]) .ret)))
theorem zMn (h:AHeap) (v:Value) (l:List Int) (M:FnM h g vt vf T F f ks ps rs) (s:SlI h v l) (hl:l.length≤1000) (hin:∀ r∈l,0≤r∧r<(ks.length:Int)):
  WC Tryz.prog tb 112 [.pointer (some ⟨g,0,none⟩),v] h fun r h'=>OwnN h h' r (l.map fun r=>ks.getD r.toNat 0)∧Ext h h':=by
 refine en 25 [(4,none)] zOM ?_;refine WX.loopA [10,11,12,6,13,14,15,16,17,18,19,20,21,22,4,23,9] (by kernel_rfl) (fun i=>l.length - i) (fun i t h1=>Ext h h1∧zB t 9=I i∧i≤l.length∧∃ w,zB t 4=w∧OwnN h h1 w ((l.take i).map fun r=>ks.getD r.toNat 0)) 0 ?_ ?_
 ·exact⟨Ext.refl _,sl_,Nat.zero_le _,_,sl_,.inl ⟨rfl,rfl⟩⟩
 rintro i t h1 hsame ⟨e1,s9,hi,w,s4,ow⟩;obtain⟨⟨hB,vk,vp,vr,o,a,b,c⟩,st,sf,hm⟩:=M.ext e1;have s1:=s.ext e1;refine go ?_;refine WX.br (fun hb=> ?_) (fun hb=> ?_)<;>simp only[DB]at hb
 ·have hi':i<l.length:=by omega
  have hr:=hin _ (zS hi');have hsucc:(l.take (i+1)).map (fun r=>ks.getD r.toNat 0)=(l.take i).map (fun r=>ks.getD r.toNat 0)++[ks.getD (l.getD i 0).toNat 0]:=by
   rw[List.take_add_one,List.getElem?_eq_getElem hi',List.map_append,show l.getD i 0=l[i] by rw[List.getD_eq_getElem?_getD,List.getElem?_eq_getElem hi'];rfl];rfl
  refine go ?_;refine WO.bl [ks.getD (l.getD i 0).toNat 0] ?_;intro v2 h2 e2 o2;refine go ?_;refine WO.apN (ow.ext e2) (OwnI.sl o2) (e1.trans e2) (by simp only[List.length_map,List.length_take,List.length_singleton];omega) ?_;intro v3 h3 e3 o3;refine go ?_;exact zA (i+1) (by omega) ⟨e3,sln,by omega,_,sl_,by rw[hsucc];exact o3⟩
 ·have hii:i=l.length:=by omega
  subst hii;rw[List.take_length]at ow;refine gr ?_;exact⟨ow,e1⟩
def zPn:ACode:=(oV (oR [oZ 8]) (oV (oR [oM 9 0,oM 10 1,⟨some 11,none,(.buildSlice 1 1 [(.int .i64 0)] [(0,1,(.tmp 10))])⟩,⟨some 12,none,(.call (.func 67) [(.tmp 9),(.const (.int .u8 3)),(.tmp 11)])⟩,oM 13 12,oG 13 (oM 14 0),⟨some 15,some (13,true),(.nilCheck (.tmp 14))⟩,oG 13 (oF 0 16 15),oG 13 (oF 0 17 16),oG 13 (oL 18 17),oG 13 (oM 19 1),oG 13 (oI 4 20 18 19),oG 13 (oF 3 21 20),oG 13 (oL 22 21),oG 13 (oM 23 2),oG 13 (o2 24 168 22 23),oP 25 13 24,oM 26 25,oG 26 (oM 27 0),⟨some 28,some (26,true),(.nilCheck (.tmp 27))⟩,oG 26 (oF 0 29 28),oG 26 (oF 0 30 29),oG 26 (oL 31 30),oG 26 (oM 32 1),oG 26 (oI 4 33 31 32),oG 26 (oF 1 34 33),oG 26 (oL 35 34),oG 26 (oM 36 3),oG 26 (oB .eql 37 35 36),oP 38 26 37,oM 8 38]) .ret))
theorem zEi (h:AHeap) (sig t:Int) (v:Value) (l:List Int) (M:FnM h g vt vf T F f ks ps rs) (hsg:InT T sig) (s:SlI h v l) (hl:l.length≤1000):
  WC Tryz.prog tb 165 [.pointer (some ⟨g,0,none⟩),I sig,v,I t] h fun r h'=>r= .bool (zCf T sig l t)∧Ext h h':=by
 have hin:∀ x∈[sig],InT T x:=fun x hx=>by rw[List.mem_singleton.1 hx];exact hsg
 unfold zCf;refine en 39 [(8,none)] zPn ?_;refine WO.bl [sig] ?_;intro v1 h1 e1 o1;have M1:=M.ext e1;refine go ?_;refine WO.con (yq h1 3 v1 [sig] M1 o1.sl (by simp) hin) ?_;rintro _ h2 ⟨rfl,e2⟩;rw[yu];cases c1:isT T 3 sig with
 |false=>
  refine gr ?_;exact⟨rfl,e1.trans e2⟩
 |true=>
  obtain⟨⟨hB,vk,vp,vr,o,a,b,c⟩,st,sf,hm⟩:=M1.ext e2;obtain⟨t0,t1⟩:=hsg.resolve_left (Y6 c1);have s2:=s.ext (e1.trans e2);obtain⟨cs,⟨va,rfl,sa,hla⟩,pc,hs⟩:=yQ (i:=sig.toNat) st (by omega);refine go ?_;refine WO.con (zEz h2 va v _ l sa s2 (by omega)) ?_;rintro _ _ ⟨rfl,rfl⟩;cases c2:decide ((T.getD sig.toNat default).parts=l)with
  |false=>
   refine gr ?_;exact⟨rfl,e1.trans e2⟩
  |true=>
   refine gr ?_;exact⟨rfl,e1.trans e2⟩
def zPD:ACode:=(oV (oR [oZ 8]) (oV (oR [oM 11 0,oM 12 1,o2 13 199 11 12,oM 9 13,oN 10 (-1)]) (oV (o5 0 (oV (oR [oM 15 9,oC .eql 16 15 (-1),oM 14 16]) (oJ 14 .skip (oV (oR [oM 18 0,oM 19 9,⟨some 20,none,(.buildSlice 1 1 [(.int .i64 0)] [(0,1,(.tmp 19))])⟩,⟨some 21,none,(.call (.func 67) [(.tmp 18),(.const (.int .u8 4)),(.tmp 20)])⟩,oM 22 21,oG 22 (oM 23 3),oG 22 (oM 24 0),⟨some 25,some (22,true),(.nilCheck (.tmp 24))⟩,oG 22 (oF 0 26 25),oG 22 (oF 0 27 26),oG 22 (oL 28 27),oG 22 (oM 29 9),oG 22 (oI 4 30 28 29),oG 22 (oF 3 31 30),oG 22 (oL 32 31),oG 22 (oQ 33 32),oG 22 (oB .lss 34 23 33),oP 35 22 34,oM 17 35]) (oJ 17 (oR [oM 36 0,⟨some 37,none,(.nilCheck (.tmp 36))⟩,oF 0 38 37,oF 0 39 38,oL 40 39,oM 41 9,oI 4 42 40 41,oF 3 43 42,oL 44 43,oM 45 3,oI 1 46 44 45,oL 47 46,oM 10 47]) (oV (oR [oM 49 0,oM 50 9,⟨some 51,none,(.buildSlice 1 1 [(.int .i64 0)] [(0,1,(.tmp 50))])⟩,⟨some 52,none,(.call (.func 67) [(.tmp 49),(.const (.int .u8 5)),(.tmp 51)])⟩,oM 48 52]) (oJ 48 (oR [oM 53 0,⟨some 54,none,(.nilCheck (.tmp 53))⟩,oF 0 55 54,oF 0 56 55,oL 57 56,oM 58 9,oI 4 59 57 58,oF 1 60 59,oL 61 60,oM 10 61]) .skip))))))) (oV (oR [oM 62 10,oC .neq 63 62 (-1),oM 64 63,oG 64 (oM 65 0),oG 64 (oM 66 2),oG 64 (o2 67 199 65 66),oG 64 (oM 68 10),oG 64 (oB .eql 69 67 68),oP 70 64 69,oM 8 70]) .ret))))
theorem zGu (h:AHeap) (a t n:Int) (M:FnM h g vt vf T F f ks ps rs) (hc:yb T=0) (ha:InT T a) (ht:InT T t) (hn:0≤n):
  WC Tryz.prog tb 200 [.pointer (some ⟨g,0,none⟩),I a,I t,I n] h fun r h'=>r= .bool (zGi T a t n)∧Ext h h':=by
 unfold zGi;refine en 71 [(8,none)] zPD ?_;refine WO.con (Yo h a M ha) ?_;rintro _ h1 ⟨rfl,e1⟩;have hs:=zFN hc ha;have hpn:=zE5 hc hs hn;generalize toT T a=s at *;have M1:=M.ext e1;have htt:=zFN hc ht;by_cases hs1:s= -1
 ·have hp:Zc T s n= -1:=by unfold Zc;rw[if_pos hs1]
  rw[hp];refine gr ?_;exact⟨rfl,e1⟩
 have hin:∀ x∈[s],InT T x:=fun x hx=>by rw[List.mem_singleton.1 hx];exact hs
 obtain⟨s0,sL⟩:=hs.resolve_left hs1;refine go ?_;refine WO.bl [s] ?_;intro v2 h2 e2 o2;have M2:=M1.ext e2;refine go ?_;refine WO.con (yq h2 4 v2 [s] M2 o2.sl (by simp) hin) ?_;rintro _ h3 ⟨rfl,e3⟩;rw[yu];have M3:=M2.ext e3;have e03:=e1.trans (e2.trans e3);obtain⟨⟨hB,vk,vp,vr,o,ka,kb,kc⟩,st,sf,hm⟩:=id M3;obtain⟨cs,⟨va,rfl,sa,hla⟩,pc,hsl⟩:=yQ (i:=s.toNat) st (by omega);have other:isT T 4 s=false∨¬n<((T.getD s.toNat default).parts.length:Int)→Zc T s n=if isT T 5 s then (T.getD s.toNat default).elem else -1:=fun h=>by
  unfold Zc;rw[if_neg hs1,if_neg];rcases h with h|h
  ·rw[h];simp
  ·rw[decide_eq_false h];simp
 cases c4:isT T 4 s with
 |true=>
  by_cases hlt:n<((T.getD s.toNat default).parts.length:Int)
  ·have hp:Zc T s n=(T.getD s.toNat default).parts.getD n.toNat 0:=by unfold Zc;rw[if_neg hs1,c4,decide_eq_true hlt];rfl
   rw[hp]at hpn ⊢;have hlt2:n.toNat<(T.getD s.toNat default).parts.length:=by omega
   obtain⟨pp,hpp⟩:∃ pp,(T.getD s.toNat default).parts.getD n.toNat 0=pp:=⟨_,rfl⟩;rw[hpp]at hpn ⊢;by_cases hp1:pp= -1
   ·rw[hp1];refine gr ?_;exact⟨rfl,e03⟩
   have hd:decide (pp≠ -1)=true:=decide_eq_true hp1;rw[hd];refine go ?_;refine WO.con (Yo h3 t M3 ht) ?_;rintro _ h9 ⟨rfl,e9⟩;refine gr ?_;exact⟨by rw[Bool.true_and,←hpp];rfl,e03.trans e9⟩
  ·have hp:=other (.inr hlt);refine go ?_;refine WO.bl [s] ?_;intro v4 h4 e4 o4;have M4:=M3.ext e4;refine go ?_;refine WO.con (yq h4 5 v4 [s] M4 o4.sl (by simp) hin) ?_;rintro _ h5 ⟨rfl,e5⟩;rw[yu];have M5:=M4.ext e5;have e05:=e03.trans (e4.trans e5);rw[hp]at hpn ⊢;cases c5:isT T 5 s with
   |false=>
    refine gr ?_;exact⟨rfl,e05⟩
   |true=>
    rw[c5,if_pos rfl]at hpn;obtain⟨⟨hB',vk',vp',vr',o',ka',kb',kc'⟩,st',sf',hm'⟩:=id M5;obtain⟨cs',⟨va',rfl,sa',hla'⟩,pc',hsl'⟩:=yQ (i:=s.toNat) st' (by omega);obtain⟨pp,hpp⟩:∃ pp,(T.getD s.toNat default).elem=pp:=⟨_,rfl⟩;rw[if_pos rfl];rw[hpp]at hpn ⊢ pc';by_cases hp1:pp= -1
    ·rw[hp1];refine gr ?_;exact⟨rfl,e05⟩
    have hd:decide (pp≠ -1)=true:=decide_eq_true hp1;rw[hd];refine go ?_;refine WO.con (Yo h5 t M5 ht) ?_;rintro _ h9 ⟨rfl,e9⟩;refine gr ?_;exact⟨by rw[Bool.true_and,show decide (toT T t=pp)=(toT T t == pp) from rfl];rfl,(e05).trans e9⟩
 |false=>
  have hp:=other (.inl c4);refine go ?_;refine WO.bl [s] ?_;intro v4 h4 e4 o4;have M4:=M3.ext e4;refine go ?_;refine WO.con (yq h4 5 v4 [s] M4 o4.sl (by simp) hin) ?_;rintro _ h5 ⟨rfl,e5⟩;rw[yu];have M5:=M4.ext e5;have e05:=e03.trans (e4.trans e5);rw[hp]at hpn ⊢;cases c5:isT T 5 s with
  |false=>
   refine gr ?_;exact⟨rfl,e05⟩
  |true=>
   rw[c5,if_pos rfl]at hpn;obtain⟨⟨hB',vk',vp',vr',o',ka',kb',kc'⟩,st',sf',hm'⟩:=id M5;obtain⟨cs',⟨va',rfl,sa',hla'⟩,pc',hsl'⟩:=yQ (i:=s.toNat) st' (by omega);obtain⟨pp,hpp⟩:∃ pp,(T.getD s.toNat default).elem=pp:=⟨_,rfl⟩;rw[if_pos rfl];rw[hpp]at hpn ⊢ pc';by_cases hp1:pp= -1
   ·rw[hp1];refine gr ?_;exact⟨rfl,e05⟩
   have hd:decide (pp≠ -1)=true:=decide_eq_true hp1;rw[hd];refine go ?_;refine WO.con (Yo h5 t M5 ht) ?_;rintro _ h9 ⟨rfl,e9⟩;refine gr ?_;exact⟨by rw[Bool.true_and,show decide (toT T t=pp)=(toT T t == pp) from rfl];rfl,(e05).trans e9⟩
end
end
end Go.Proofs.YteekipjpghikkaaGreatDoor
