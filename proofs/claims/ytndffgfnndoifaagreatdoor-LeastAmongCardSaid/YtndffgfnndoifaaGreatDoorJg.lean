/- Walks of functions, plain laws; proves no statement. -/
import Derived.Test.YtndffgfnndoifaaGreatDoorJf
set_option linter.all false
set_option maxHeartbeats 2000000
set_option maxRecDepth 100000
namespace Go.Proofs.YtndffgfnndoifaaGreatDoor
open Go.Am
section
variable {h:WA}{vt vf:Value}{T:List WF}{F:List We}
def zV(T:List WF)(F:List We):Int:=(zt T F).sum
def zM9(T:List WF)(F:List We):Int:=(zt T F).sum+F.length
def zVA(T:List WF)(F:List We)(s i:Int):Prop:=(0<=s/\s<((Z9 T F).length:Int))/\0<=i/\i<(Z9 T F).getD s.toNat 0
instance (T:List WF) (F:List We) (s i:Int):Decidable (zVA T F s i):=by unfold zVA;infer_instance
end
section
variable {h:WA}{vt vf:Value}{T:List WF}{F:List We}
end
section
variable {h:WA}{vt vf:Value}{T:List WF}{F:List We}
end
def zAI{T:List WF}{F:List We}(hs:zb T F=0):(∀ x∈zt T F,0<=x/\x<=1000)/\(zt T F).length=F.length/\1<=F.length/\F.length<=8:=by
 have hp:=(z8 hs).1;obtain⟨hc,l5,lQ,hfn⟩:=yg hp;refine⟨fun x hx=> ?_,by unfold zt;simp,ω,ω⟩;unfold zt at hx;obtain⟨g,hg,rfl⟩:=Qw.1 hx;obtain⟨i,hi,rfl⟩:=zAH hg;have Z:=zC5 hp (f:=(i:Int)) ω;have h1:=Z.many;have h2:=Z.par4;have h3:=zDT (F.getD i default).blocks;unfold zR at h1;unfold yb at h2;rw[QZ]at h1 h2;omega
def zDi{l:List Int}{i:Nat}(hi:i<l.length):(l.take (i+1)).sum=(l.take i).sum+l.getD i 0:=by
 rw[GF,QB hi,Gs];simp[List.getD,QB hi]
def zTi{l:List Int}(hb:∀ x∈l,0<=x/\x<=1000)(i:Nat):(l.take i).sum<=l.sum:=by
 have h:l.sum=(l.take i).sum+(l.drop i).sum:=by
  conv=>lhs;rw[<-GR i l]
  rw[Gs]
 have:=zAC (l:=l.drop i) fun x hx=>hb x (List.mem_of_mem_drop hx);omega
def RW(h:WA)(cs:List Value)(w:Wa):Prop:=cs=[I w.pos,W w.bits]/\w.bits<18446744073709551616/\ -9223372036854775808<=w.pos/\w.pos<=9223372036854775807
abbrev W8(h:WA)(v:Value)(s:List Wa):Prop:=W7 2 RW h v s
def W8.ext{h h' v s}(k:W8 h v s)(e:WH h h'):W8 h' v s:=W7.ext (h:=h) (h':=h') (R:=RW) (fun cs a r=>r) k e
def W8.bd{h v s}(k:W8 h v s):BdW s:=fun w hw=>by
 obtain⟨i,hi,e⟩:=JZ.1 hw;obtain⟨cs,⟨_,h2,_⟩,_⟩:=k.at hi;rw[<-e];exact h2
def zN3(h:WA)(n:Int):G0 67 [I n] h fun r h'=>r=.bool (decide (0<=n)&&decide (n<1048576))/\h=h':=by
 refine en ?_;refine go ?_;repeat' (first|(refine VE (fun hb=> ?_) (fun hb=> ?_)<;>(try simp only[DB]at hb)<;>refine go ?_)|(refine VI (fun hb=> ?_) (fun hb=> ?_)<;>(try simp only[DB]at hb)<;>refine go ?_))<;>refine rt ?_<;>exact⟨by simp[one, *]<;>omega,rfl⟩
def zUd(h:WA)(a b:Nat)(ha:a<18446744073709551616)(hb:b<18446744073709551616):G0 96 [W a,W b] h fun r h'=>r=W (a|||b)/\h=h':=by
 refine en ?_;refine WO.bin zO zO (zOu ha hb).1 ?_;refine gr ?_;exact⟨rfl,rfl⟩
def zND(h:WA)(a b:Nat)(ha:a<18446744073709551616)(hb:b<18446744073709551616):G0 64 [W a,W b] h fun r h'=>r=W (SR a b)/\h=h':=by
 refine en ?_;refine WO.bin zO zO (zO6 ha hb).1 ?_;refine gr ?_;exact⟨rfl,rfl⟩
def zSK(h:WA)(n:Nat)(hn:n<18446744073709551616):G0 62 [W n] h fun r h'=>r=I ((Y5 n).length:Nat)/\h=h':=by
 refine en ?_;obtain⟨p0,p1,p2,p3,p4,p5,p6,p7,hp,hs,hx⟩:=zPZ n;obtain⟨A,hA⟩:∃ A,A=(n / 2&&& 6148914691236517205)+(n&&& 6148914691236517205):=⟨_,rfl⟩;obtain⟨B,hB⟩:∃ B,B=(A / 4&&& 3689348814741910323)+(A&&& 3689348814741910323):=⟨_,rfl⟩;obtain⟨C,hC⟩:∃ C,C=(B / 16+B)&&& 1085102592571150095:=⟨_,rfl⟩;obtain⟨y,hy⟩:∃ y,y=C+C / 256:=⟨_,rfl⟩;obtain⟨z,hz⟩:∃ z,z=y+y / 65536:=⟨_,rfl⟩;obtain⟨u,hu⟩:∃ u,u=z+z / 4294967296:=⟨_,rfl⟩;have hk:C=zGY 8 n:=by
  rw[<-(zMy 8 n).1];have e1:sw1 8 n=A:=hA.symm;have e2:sw2 8 A=B:=hB.symm;rw[e1,e2];exact hC
 obtain⟨y1,y2,y3,y4⟩:=zRM hp (hk.trans hx) hy hz hu;rw[<-hs,zU2]at y4;have bA:A<18446744073709551616:=by
  have h1:n / 2&&& 6148914691236517205<=6148914691236517205:=Nat.and_le_right;have h2:n&&& 6148914691236517205<=6148914691236517205:=Nat.and_le_right;omega
 have bB:B<=7378697629483820646:=by
  have h1:A / 4&&& 3689348814741910323<=3689348814741910323:=Nat.and_le_right;have h2:A&&& 3689348814741910323<=3689348814741910323:=Nat.and_le_right;omega
 have bC:C<18446744073709551616:=by
  have h1:C<=1085102592571150095:=by rw[hC];exact Nat.and_le_right
  omega
 have a1:zj .shr (W n) (W 1)=some (W (n / 2)):=zC2 (k:=1) (by decide);have a2:zj .and (W (n / 2)) (W 6148914691236517205)=some (W (n / 2&&& 6148914691236517205)):=zFg ω (by decide);have a3:zj .and (W n) (W 6148914691236517205)=some (W (n&&& 6148914691236517205)):=zFg hn (by decide);have a4:zj .add (W (n / 2&&& 6148914691236517205)) (W (n&&& 6148914691236517205))=some (W A):=by rw[zHZ ω,hA]
 have b1:zj .shr (W A) (W 2)=some (W (A / 4)):=zC2 (k:=2) (by decide);have b2:zj .and (W (A / 4)) (W 3689348814741910323)=some (W (A / 4&&& 3689348814741910323)):=zFg ω (by decide);have b3:zj .and (W A) (W 3689348814741910323)=some (W (A&&& 3689348814741910323)):=zFg bA (by decide);have b4:zj .add (W (A / 4&&& 3689348814741910323)) (W (A&&& 3689348814741910323))=some (W B):=by rw[zHZ ω,hB]
 have c1:zj .shr (W B) (W 4)=some (W (B / 16)):=zC2 (k:=4) (by decide);have c2:zj .add (W (B / 16)) (W B)=some (W (B / 16+B)):=zHZ ω;have c3:zj .and (W (B / 16+B)) (W 1085102592571150095)=some (W C):=by rw[zFg ω (by decide),hC]
 have d1:zj .shr (W C) (W 8)=some (W (C / 256)):=zC2 (k:=8) (by decide);have d2:zj .add (W C) (W (C / 256))=some (W y):=by rw[zHZ ω,hy]
 have e1:zj .shr (W y) (W 16)=some (W (y / 65536)):=zC2 (k:=16) (by decide);have e2:zj .add (W y) (W (y / 65536))=some (W z):=by rw[zHZ ω,hz]
 have f1:zj .shr (W z) (W 32)=some (W (z / 4294967296)):=zC2 (k:=32) (by decide);have f2:zj .add (W z) (W (z / 4294967296))=some (W u):=by rw[zHZ ω,hu]
 have g1:=zRD y3;rw[y4]at g1;clear hp hs hx hk hA hB hC hy hz hu;refine go ?_;refine WO.bin zO rfl a1 ?_;refine go ?_;refine WO.bin zO rfl a2 ?_;refine go ?_;refine WO.bin zO rfl a3 ?_;refine go ?_;refine WO.bin zO zO a4 ?_;refine go ?_;refine WO.bin zO rfl b1 ?_;refine go ?_;refine WO.bin zO rfl b2 ?_;refine go ?_;refine WO.bin zO rfl b3 ?_;refine go ?_;refine WO.bin zO zO b4 ?_;refine go ?_;refine WO.bin zO rfl c1 ?_;refine go ?_;refine WO.bin zO zO c2 ?_;refine go ?_;refine WO.bin zO rfl c3 ?_;refine go ?_;refine WO.bin zO rfl d1 ?_;refine go ?_;refine WO.bin zO zO d2 ?_;refine go ?_;refine WO.bin zO rfl e1 ?_;refine go ?_;refine WO.bin zO zO e2 ?_;refine go ?_;refine WO.bin zO rfl f1 ?_;refine go ?_;refine WO.bin zO zO f2 ?_;refine go ?_;refine WO.bin zO zO g1 ?_;refine gr ?_;exact⟨rfl,rfl⟩
section
variable {P:Program}{tab:Ws}{t:WG Value}{h:WA}{ds:List Deferred}{rd:Option Nat}{l:List WE}{Q:WM->WA->Prop}
def Ud{d g off:Nat}{x:Operand}{cells:List Value}{v:Value}(hg:z0 h g=some cells)(hr:cells[off]?=some v)(hx:WN t x (.pointer (some ⟨g,off,none⟩)))(k:WO P tab l ⟨t.set d v,ds,rd⟩ h Q):
  WO P tab (⟨some d,none,.load false 1 x⟩::l) ⟨t,ds,rd⟩ h Q:=by
 have hx:ev t x=.pointer (some ⟨g,off,none⟩):=hx;have aD:off<cells.length:=(QS.1 hr).1;have hc:cut cells off 1=some [v]:=by
  rw[yz ω,GB aD,Qv,GK];have:=(QS.1 hr).2;rw[this]
 refine WO.op v h rfl ?_ k;simp only[WK,hx,hg,Q2,cond_true,QV,hc,zI,QU,QL]
def Uv{d:Nat}{op:UnOp}{x:Operand}{vx v:Value}(hx:WN t x vx)(hv:unV op vx=some v)(k:WO P tab l ⟨t.set d v,ds,rd⟩ h Q):WO P tab (⟨some d,none,.un op x⟩::l) ⟨t,ds,rd⟩ h Q:=by
 have hx:ev t x=vx:=hx;exact WO.op v h rfl (by simp only[WK,hx,hv,QL]) k
end
def SF(h:WA):Prop:=z0 h 0=some tzV/\0<h.n
def SF.ext{h h'}(t:SF h)(e:WH h h'):SF h':=⟨e.row t.2 t.1,QG t.2 e.n⟩
def zP6(h:WA)(n k:Nat)(T:SF h)(hn:n<18446744073709551616)(hz:n≠0)(L:Low n k):G0 180 [W n] h fun r h'=>r=I k/\h=h':=by
 refine en ?_;have hz1:¬(n:Int)=0:=ω
 have a1:=zUu hz hn;have a2:zj .and (W n) (W (18446744073709551616-n))=some (W (2 ^ k)):=by rw[zFg hn ω,L.one]
 obtain⟨m,j,a3,a4,t1,t2⟩:=zQK L.lt;have hv:=zTq t1 t2;have hk:=L.lt;refine go ?_;refine Uv zO a1 ?_;refine go ?_;refine WO.bin zO zO a2 ?_;refine go ?_;refine WO.bin zO rfl a3 ?_;refine go ?_;refine WO.bin zO rfl a4 ?_;refine go ?_;refine Ud (v:= .int .u8 (k:Int)) T.1 (off:=0+j*1) (by rw[Q8,G7];exact hv) zO ?_;refine gr ?_;exact⟨rfl,rfl⟩
def zEG{s:List Wa}{i:Nat}(h:i<s.length):s.drop i=s.getD i default::s.drop (i+1):=by
 rw[GB h,QD,QB h];rfl
def zFJ{h:WA}{v:Value}{s:List Wa}{i:Nat}(k:W8 h v s)(hi:i<s.length):∃ cs,RW h cs (s.getD i default)/\Wv h v (i*2) cs/\zJQ v:=by
 obtain⟨cs,a,_,c⟩:=k.at hi;exact⟨cs,by rw[QD,QB hi];exact a,c,k.some hi⟩
def zBo(b:Bool):Int:=if b then 0 else 8
def zC9{last:Int}{w:Wa}{l:List Wa}(h:w.pos<=last\/16384<=w.pos\/(w.bits:Int)=0):zv last (w::l)=false:=by
 unfold zv;rcases h with h|h|h
 ·rw[QY (show ¬last<w.pos by omega)];rfl
 ·rw[QY (show ¬w.pos<16384 by omega),Qo];rfl
 ·rw[QY (show ¬w.bits≠0 by omega),Qo];rfl
def zJY{last:Int}{w:Wa}{l:List Wa}(h1:last<w.pos)(h2:w.pos<16384)(h3:w.bits≠0):zv last (w::l)=zv w.pos l:=by
 rw[zv,Qa h1,Qa h2,Qa h3];rfl
def zCN(h:WA)(v:Value)(s:List Wa)(k:W8 h v s)(hl:(s.length:Int)<=1000000000):
  G0 61 [v] h fun r h'=>r=I (zBo (zv (-1) s))/\WH h h':=by
 refine en ?_;refine VD (fun i=>s.length-i) (fun i t h1=>WH h h1/\zC t 8=I i/\i<=s.length/\∃ last:Int,zC t 3=I last/\Wi (zv (-1) s=zv last (s.drop i))) 0 ?_ ?_
 ·exact⟨WH.refl _,WJ,QQ _,-1,WJ,⟨rfl⟩⟩
 rintro i t h1 ab ⟨e1,s8,hi,last,s3,hc⟩;have k1:=W8.ext k e1;refine F0 ?_ ?_<;>intro hb
 ·have af:i<s.length:=ω
  obtain⟨cs,⟨rfl,w1,w2,w3⟩,pc,hs⟩:=zFJ k1 af;have hd:=hc.out;rw[zEG af]at hd;generalize s.getD i default=w at *;have hd:=Wi.mk hd;refine go ?_;refine WO.al ?_;intro p h2 e2 o2;refine go ?_;refine VG (cs:=[I w.pos,W w.bits]) o2 e2 ?_;intro h3 e3 o3 u3;refine go ?_;refine go ?_;repeat' (first|(refine VE (fun hb=> ?_) (fun hb=> ?_)<;>(try simp only[DB]at hb)<;>refine go ?_)|(refine VI (fun hb=> ?_) (fun hb=> ?_)<;>(try simp only[DB]at hb)<;>refine go ?_))
  ·refine rt ?_;exact⟨by rw[hd.out,zC9 (.inl hb)];rfl,e1.trans e3⟩
  ·refine rt ?_;exact⟨by rw[hd.out,zC9 (.inr (.inl hb))];rfl,e1.trans e3⟩
  ·refine rt ?_;exact⟨by rw[hd.out,zC9 (.inr (.inr hb))];rfl,e1.trans e3⟩
  ·refine zA (i+1) ω ⟨e1.trans e3,Wy,ω,w.pos,WJ,⟨?_⟩⟩;rw[hd.out];exact zJY ω ω ω
 ·refine gr ?_;have:=hc.out;rw[show i=s.length by omega,List.drop_length]at this;exact⟨by rw[this];rfl,e1⟩
def zUz{n:Int}(h0:0<=n)(h1:n<9223372036854775808):zj .quo (I n) (I 64)=some (I (n / 64)):=by
 simp only[zj,I,Qz];rw[QC (by decide),JO h0,zC6 ω ω]
def zQg{n:Int}(h0:0<=n):zj .rem (I n) (I 64)=some (I (n % 64)):=by
 simp only[zj,I,Qz];rw[QC (by decide),Int.tmod_eq_emod_of_nonneg h0]
def Zo(s:List Wa):Int:=((zQ s).length:Nat)
def zCt(w:Wa)(s:List Wa):(zQ (w::s)).length=(Y5 w.bits).length+(zQ s).length:=by
 unfold zQ;simp
def zFj(b:Nat):(Y5 b).length<=64:=by
 have:=JK b.testBit (List.range 64);rw[List.length_range]at this;exact this
def zMQ(h:WA)(v:Value)(s:List Wa)(k:W8 h v s)(hl:(s.length:Int)<=1000000000):
  G0 23 [v] h fun r h'=>r=.tuple #[I (if zv (-1) s then Zo s else 0),I (zBo (zv (-1) s))]/\WH h h':=by
 refine en ?_;refine VA (zCN h v s k hl) ?_;rintro _ h1 ⟨rfl,e1⟩;have k1:=W8.ext k e1;by_cases hc:zv (-1) s=true;case neg=>
  have hc:zv (-1) s=false:=by simpa using hc
  rw[hc,show zBo false=8 from rfl];refine gr ?_;exact⟨rfl,e1⟩
 rw[hc,show zBo true=0 from rfl];refine go ?_;refine VD (fun i=>s.length-i) (fun i t h2=>WH h1 h2/\zC t 14=I i/\i<=s.length/\∃ q:Nat,zC t 2=I q/\q<=64*i/\Wi (q+(zQ (s.drop i)).length=(zQ s).length)) 0 ?_ ?_
 ·exact⟨WH.refl _,WJ,QQ _,0,WJ,QF _,⟨by rw[GI,Q8]⟩⟩
 rintro i t h2 ab ⟨e2,Ak,hi,q,s2,hq,hc⟩;have k2:=W8.ext k1 e2;refine F0 ?_ ?_<;>intro hb
 ·have af:i<s.length:=ω
  obtain⟨cs,⟨rfl,w1,w2,w3⟩,pc,hs⟩:=zFJ k2 af;have hd:=hc.out;rw[zEG af,zCt]at hd;generalize s.getD i default=w at *;have hd:=Wi.mk hd;have pW:=zFj w.bits;refine go ?_;refine WO.al ?_;intro p h3 e3 o3;refine go ?_;refine VG (cs:=[I w.pos,W w.bits]) o3 e3 ?_;intro h4 e4 o4 u4;refine go ?_;refine VA (zSK h4 w.bits w1) ?_;rintro _ _ ⟨rfl,rfl⟩;refine go ?_;refine zA (i+1) ω ⟨e2.trans e4,Wy,ω,q+(Y5 w.bits).length,WJ,ω,⟨?_⟩⟩;have:=hd.out;omega
 ·refine gr ?_;have:=hc.out;rw[show i=s.length by omega,List.drop_length,show(zQ []).length=0 from rfl,JQ]at this;exact⟨by rw[this];rfl,e1.trans e2⟩
abbrev zGl(b:Nat)(h:WA)(v:Value)(s:List Wa):Prop:=WR 2 RW b h v s
def RW.dep{h:WA}{w:Wa}(h1:w.bits<18446744073709551616)(h2: -9223372036854775808<=w.pos)(h3:w.pos<=9223372036854775807)(D:Nat->Prop):B6 RW h [I w.pos,W w.bits] w D:=
 fun _ _ _=>⟨rfl,h1,h2,h3⟩
def zUb(fv:Value)(f:Nat->Nat->Nat):Prop:=∀ (h:WA) (a b:Nat),a<18446744073709551616->b<18446744073709551616->WV Tryz.prog tb fv [W a,W b] h fun r h'=>r=W (f a b)/\h=h'
def Yf(h:WA)(w:Wa):G0 127 [.agg #[I w.pos,W w.bits]] h fun r h'=>r=I w.pos/\WH h h':=by
 refine en ?_;refine VH ?_;intro p h1 e1 o1;refine gr ?_;exact⟨rfl,e1⟩
def zLu(p:Int)(v:Nat)(out:List Wa):List Wa:=if v=0 then out else out++[⟨p,v⟩]
def zBQ(p:Int)(v:Nat)(out s:List Wa):zLu p v out++s=out++zCb p v s:=by
 unfold zLu zCb;split<;>simp
structure Bz(hB h:WA)(b:Nat)(p5 p6 fv:Value)(out:List Wa):Prop where
 e:WH hB h
 o5:WB hB h p5 [fv]
 bb:hB.n<=b/\b<=h.n
 p5b:∀ g,p5=.pointer (some ⟨g,0,none⟩)->g<b
 p6b:∀ g,p6=.pointer (some ⟨g,0,none⟩)->g<b
 ne:p5≠p6
 v:∃ v,WB hB h p6 [v]/\zGl b h v out
def zCo{hB h h':WA}{p:Value}{cells:List Value}{b vn vk:Nat}{va:Option Addr}(o:WB hB h p cells)(hb:∀ g,p=.pointer (some ⟨g,0,none⟩)->g<b)(hv:∀ g,va=some ⟨g,0,none⟩->b<=g)
  (keep:∀ k,k<h.n->(∀ n k',Value.slice va vn vk≠ .slice (some ⟨k,0,none⟩) n k')->h'.get k=h.get k) (hn:h.n<=h'.n):WB hB h' p cells:=by
 obtain⟨g,g1,g2,rfl,g4⟩:=o;refine⟨g,g1,QG g2 hn,rfl,(keep g g2 fun n k' e=> ?_).trans g4⟩;cases e;have h1:=hb g rfl;have h2:=hv g rfl;omega
def zGZ{hB h h':WA}{p q:Value}{cells:List Value}(o:WB hB h p cells)(u:Wo q h h')(ah:p≠q):WB hB h' p cells:=by
 obtain⟨g,g1,g2,rfl,g4⟩:=o;exact⟨g,g1,QG g2 u.1,rfl,(u.2 g g2 fun e=>ah e.symm).trans g4⟩
def Y8{α:Type}{c b:Nat}{R:WA->List Value->α->Prop}{h:WA}{v:Value}{xs:List α}(ow:WR c R b h v xs):∃ a n k,v=.slice a n k/\∀ g,a=some ⟨g,0,none⟩->b<=g/\g<h.n:=by
 rcases ow with⟨rfl,_⟩|⟨g,_,_,g1,g2,rfl,_⟩
 ·exact⟨_,_,_,rfl,fun g e=>by cases e⟩
 ·exact⟨_,_,_,rfl,fun g' e=>by cases e;exact⟨g1,g2⟩⟩
def zBt(hB h:WA)(b:Nat)(p5 p6 fv:Value)(f:Nat->Nat->Nat)(hf:zUb fv f)(out:List Wa)(x y:Wa)(at':Int)(S:Bz hB h b p5 p6 fv out)(hx:x.bits<18446744073709551616)(hy:y.bits<18446744073709551616)(hl:out.length<=100000)
  (hz:f x.bits y.bits<18446744073709551616) (ha: -9223372036854775808<=at'/\at'<=9223372036854775807) (hm:h.mark<=h.n):
  G0 128 [.agg #[I x.pos,W x.bits],.agg #[I y.pos,W y.bits],I at',p5,p6] h fun r h'=>Bz hB h' b p5 p6 fv (zLu at' (f x.bits y.bits) out)/\h.n<=h'.n/\(∀ k∈h'.wr,k∈h.wr\/hB.n<=k)/\
   (∀ p cells,WB hB h p cells->p≠p6->(∀ g,p=.pointer (some ⟨g,0,none⟩)->g<b)->WB hB h' p cells):=by
 obtain⟨e0,o5,⟨b1,b2⟩,h5,h6,ah,v,o6,ow⟩:=S;obtain⟨va,vn,vk,rfl,Jf⟩:=Y8 ow;refine en ?_;refine VH ?_;intro p3 h1 e1 o3;refine go ?_;refine VH ?_;intro p4 h2 e2 o4;have o3:=o3.ext e2;have AB:=o5.ext (e1.trans e2);have EE:=o6.ext (e1.trans e2);have Jg:=WR.ext ow (e1.trans e2);have aE:=e0.trans (e1.trans e2);have wC:=(e1.trans e2).n;refine go ?_;refine VJ (hf h2 x.bits y.bits hx hy) ?_;rintro _ _ ⟨rfl,rfl⟩;have wD:h2.wr=h.wr:=(e1.trans e2).wr hm;refine F0 ?_ ?_<;>intro hc
 ·refine go ?_;refine XB (b:=b) (R:=RW) (h:=h2) ⟨at',f x.bits y.bits⟩ (fun _=>False) Jg aE b1 ω (by decide) hl (RW.dep hz ha.1 ha.2 _) (fun k hk=>hk.elim) (fun _ _ _ _ h=>h) ?_;intro v' h3 lit e3 mC n3 kE w3;obtain⟨dH,AD,qK,rfl,OF⟩:=Y8 mC;have gf:∀ g,va=some ⟨g,0,none⟩->b<=g:=fun g e=>(Jf g e).1;have EF:WB hB h3 p6 [.slice va vn vk]:=zCo EE h6 gf kE n3;refine go ?_;refine V3 (cs:=[.slice dH AD qK]) EF e3 ?_;intro h4 e4 xY u4 w4;refine go ?_;refine BN ?_;refine⟨⟨e4,zGZ (zCo AB h5 gf kE n3) u4 ah,⟨b1,by have:=u4.1;omega⟩,h5,h6,ah,_,xY,?_⟩,by have:=u4.1;omega,fun k hk=> ?_,fun p cells o hp uA=>zGZ (zCo (o.ext (e1.trans e2)) uA gf kE n3) u4 hp⟩
  ·unfold zLu;rw[QC ω];refine WR.upd mC (fun k k1 k2=>u4.2 k k2 fun e=> ?_) u4.1;have:=h6 k e;omega
  ·rcases w4 k hk with h|h
   ·rcases w3 k h with h|h
    ·rw[wD]at h;exact .inl h
    ·exact .inr ω
   ·exact .inr h
 ·refine go ?_;refine BN ?_;refine⟨⟨aE,AB,⟨b1,ω⟩,h5,h6,ah,_,EE,?_⟩,wC,fun k hk=> ?_,fun p cells o _ _=>o.ext (e1.trans e2)⟩
  ·unfold zLu;rw[QJ ω];exact Jg
  ·rw[wD]at hk;exact .inl hk
def Bz.enter{hB h X:WA}{b:Nat}{p5 p6 fv:Value}{out:List Wa}(S:Bz hB h b p5 p6 fv out)(e:WH (inC (zB 0 h)) X):Bz {hB with mark:=X.n,wr:=[]} (inC X) b p5 p6 fv out:=by
 obtain⟨e0,o5,⟨b1,b2⟩,h5,h6,ah,v,o6,ow⟩:=S;have o5:WB hB X p5 [fv]:=WB.ext (h:=inC (zB 0 h)) o5 e;have o6:WB hB X p6 [v]:=WB.ext (h:=inC (zB 0 h)) o6 e;have ow:zGl b X v out:=WR.upd ow (fun k _ hk=>e.get k hk) e.n;have hn:h.n<=X.n:=e.n;refine⟨⟨QM e0.n hn,fun g hg=>(e.get g (QG hg e0.n)).trans (e0.get g hg),fun w=>e.wf (e0.wf w),rfl,fun _=>rfl⟩,o5,⟨b1,QM b2 hn⟩,h5,h6,ah,v,o6,WR.upd ow (fun _ _ _=>rfl) (QF _)⟩
def Bz.leave{hB h h':WA}{b m:Nat}{p5 p6 fv:Value}{out:List Wa}(S:Bz {hB with mark:=m,wr:=[]} h' b p5 p6 fv out)(e:WH hB h):Bz hB (z9 h h') b p5 p6 fv out:=by
 obtain⟨e0,o5,⟨b1,b2⟩,h5,h6,ah,v,o6,ow⟩:=S;exact⟨⟨e0.n,e0.get,fun w=>e0.wf w,e.mark,fun hm=>e.wr hm⟩,o5,⟨b1,b2⟩,h5,h6,ah,v,o6,WR.upd ow (fun _ _ _=>rfl) (QF _)⟩
def zM8{f:Nat->Nat->Nat}{A B:List Wa}(hA:0<A.length)(h:B.length=0\/(A.getD 0 default).pos<(B.getD 0 default).pos):yM f A B=zCb (A.getD 0 default).pos (f (A.getD 0 default).bits 0) (yM f (A.drop 1) B):=by
 cases A with
 |nil=>simp at hA
 |cons x a=>
  cases B with
  |nil=>rw[yM];rfl
  |cons y b=>
   have h:x.pos<y.pos:=h.resolve_left (by simp);rw[yM,QJ h];rfl
def zMT{f:Nat->Nat->Nat}{A B:List Wa}(hB:0<B.length)(h:A.length=0\/(B.getD 0 default).pos<(A.getD 0 default).pos):yM f A B=zCb (B.getD 0 default).pos (f 0 (B.getD 0 default).bits) (yM f A (B.drop 1)):=by
 cases B with
 |nil=>simp at hB
 |cons y b=>
  cases A with
  |nil=>rw[yM];rfl
  |cons x a=>
   have h:y.pos<x.pos:=h.resolve_left (by simp);rw[yM,QC ω,QJ h];rfl
def zSX{f:Nat->Nat->Nat}{A B:List Wa}(hA:0<A.length)(hB:0<B.length)(h:(A.getD 0 default).pos=(B.getD 0 default).pos):yM f A B=zCb (A.getD 0 default).pos (f (A.getD 0 default).bits (B.getD 0 default).bits) (yM f (A.drop 1) (B.drop 1)):=by
 cases A with
 |nil=>simp at hA
 |cons x a=>
  cases B with
  |nil=>simp at hB
  |cons y b=>
   have h:x.pos=y.pos:=h;rw[yM,QC ω,QC ω];rfl
def zCF{p:Int}{v:Nat}{out:List Wa}:(zLu p v out).length<=out.length+1:=by
 unfold zLu;split<;>simp
def zMC{h h':WA}(e:WH (inC (zB 0 h)) h'):WH h (z9 h (inC h')):=⟨e.n,e.get,fun w=>e.wf w,rfl,fun _=>rfl⟩
def zJa{h h' h2:WA}(e:WH (inC (zB 0 h)) h')(e2:WH (inC h') h2):WH h (z9 h (inC h2)):=⟨QM e.n e2.n,fun g hg=>(e2.get g (QG hg e.n)).trans (e.get g hg),fun w=>e2.wf (e.wf w),rfl,fun _=>rfl⟩
def Bz.ext{hB h h':WA}{b:Nat}{p5 p6 fv:Value}{out:List Wa}(S:Bz hB h b p5 p6 fv out)(e:WH h h'):Bz hB h' b p5 p6 fv out:=by
 obtain⟨e0,o5,⟨b1,b2⟩,h5,h6,ah,v,o6,ow⟩:=S;exact⟨e0.trans e,o5.ext e,⟨b1,QM b2 e.n⟩,h5,h6,ah,v,o6.ext e,WR.ext ow e⟩
def zLQ(h:WA):z9 h (inC (zB 0 h))=h:=rfl
def zQH(hB h:WA)(va vb p5 p6 fv:Value)(f:Nat->Nat->Nat)(hf:zUb fv f)(hfz:∀ x y,x<18446744073709551616->y<18446744073709551616->f x y<18446744073709551616)(A B:List Wa)(ka:W8 hB va A)(kb:W8 hB vb B)(la:A.length<=1000)(lb:B.length<=1000)
  (e:WH hB h) (hm:hB.mark<=hB.n) (o5:WB hB h p5 [fv]) (o6:WB hB h p6 [.slice none 0 0]) (ah:p5≠p6):
  G0 126 [va,vb,.func (.func 127) #[] #[],.func (.func 128) #[] #[p5,p6]] h fun r h'=>WH hB h'/\∃ v b,hB.n<=b/\WB hB h' p6 [v]/\zGl b h' v (yM f A B)/\∀ g,p6=.pointer (some ⟨g,0,none⟩)->g<b:=by
 refine en ?_;refine WO.al ?_;intro p8 h0 e0 o8;refine go ?_;obtain⟨g8,OG,Jh,rfl,OH⟩:=id o8;have o8:=o8.since e;have S0:Bz hB h0 h0.n p5 p6 fv []:=⟨e.trans e0,o5.ext e0,⟨(e.trans e0).n,QF _⟩,fun g eg=>by
  obtain⟨g',_,a,b,_⟩:=o5;rw[b]at eg;cases eg;have:=e0.n;omega,fun g eg=>by
  obtain⟨g',_,a,b,_⟩:=o6;rw[b]at eg;cases eg;have:=e0.n;omega,ah,_,o6.ext e0,WR.nil⟩
 have wE:Value.pointer (some ⟨g8,0,none⟩)≠p6:=fun eq=>by
  obtain⟨g',_,a,b,_⟩:=o6;rw[b]at eq;cases eq;omega
 have td:∀ g,Value.pointer (some ⟨g8,0,none⟩)=.pointer (some ⟨g,0,none⟩)->g<h0.n:=fun g eg=>by cases eg;exact Jh
 generalize aR:h0.n=bb at S0 td;generalize Value.pointer (some ⟨g8,0,none⟩)=p8 at *;clear e0 OG Jh OH o5 o6;refine VD (fun p:List Wa×List Wa=>p.1.length+p.2.length) (fun p t h1=>∃ dH fG out,zC t 0=dH/\zC t 1=fG/\W8 hB dH p.1/\W8 hB fG p.2/\Bz hB h1 bb p5 p6 fv out/\WB hB h1 p8 [I 0,W 0]/\Wi (yM f A B=out++yM f p.1 p.2)/\p.1.length<=1000/\p.2.length<=1000/\out.length+(p.1.length+p.2.length)<=2000) (A,B) ?_ ?_
 ·exact⟨va,vb,[],WJ,WJ,ka,kb,S0,o8,⟨rfl⟩,la,lb,by simp only[G5];omega⟩
 clear S0 o8 ka kb la lb;rintro⟨a,b⟩ t h1 ab ⟨dH,fG,out,s0,s1,ka,kb,S,o8,hI,la,lb,lo⟩;simp only at ka kb hI la lb lo;have e1:=S.e;have mU:=W8.ext ka e1;have mV:=W8.ext kb e1;have cC:h1.mark<=h1.n:=by have:=e1.mark;have:=e1.n;omega
 have bp:h1.mark<=hB.n:=by have:=e1.mark;omega
 by_cases hA:0<a.length;case neg=>
  by_cases kF:0<b.length;case neg=>
   refine go ?_;refine BN ?_;obtain⟨e1,o5,⟨b1,b2⟩,h5,h6,ah,v,o6,ow⟩:=S;have:yM f a b=[]:=by
    have ha:a=[]:=Gq ω;have hb:b=[]:=Gq ω;subst ha hb;rw[yM]
   rw[hI.out,this,GW];exact⟨e1,v,bb,b1,o6,ow,h6⟩
  have wF:=zMT (f:=f) kF (.inl (by omega:a.length=0));have re:W8 (inC (zB 0 h1)) dH a:=mU;have rf:W8 (inC (zB 0 h1)) fG b:=mV;have ox:WB hB (inC (zB 0 h1)) p8 [I 0,W 0]:=o8;obtain⟨cb,⟨rfl,y1,y2,y3⟩,mP,oh⟩:=zq mV kF;have eF:=(mP _ (WH.refl _)).2;have eF:Wv (inC (zB 0 h1)) fG (0*2) [I (b.getD 0 default).pos,W (b.getD 0 default).bits]:=eF;obtain⟨qa,qn,qk,Ji,EG⟩:=zCX (i:=0) mV kF;generalize b.getD 0 default=y at *;have hI:=hI.out.trans (congrArg (out++·) wF);have hI:=Wi.mk hI;clear wF;refine go ?_;refine VC 0 rfl rfl ?_;refine WU ?_;refine zTp ?_;refine WU ?_;rw[zLQ];refine VC 0 rfl rfl ?_;refine WU ?_;refine zTK ?_;refine WU ?_;rw[zLQ];refine VC 0 rfl rfl ?_;refine WU ?_;refine VJ (WV.func (Yf _ y)) ?_;rintro _ h2 ⟨rfl,e2⟩;refine nE e2 ?_;have S2:=S.enter e2;refine WU ?_;refine VJ (WV.func (zBt _ (inC h2) bb p5 p6 fv f hf out ⟨0,0⟩ y y.pos S2 (by decide) y1 ω (hfz _ _ (by decide) y1) ⟨y2,y3⟩ (QF _))) ?_;rintro _ h3 ⟨S3,n3,w3,f3⟩;refine WO.nil ?_;refine zHC (fun k hk=> ?_) n3 ?_
  ·rcases w3 k hk with h|h
   ·cases h
   ·have h:hB.n<=k:=h;omega
  have S4:=S3.leave e1;have fp:WB hB (z9 h1 h3) p8 [I 0,W 0]:=f3 p8 _ (by have:=WB.ext (h:=inC (zB 0 h1)) o8 e2;exact this) wE td;generalize z9 h1 h3=h4 at S4 fp |-;obtain⟨wG,bP,wI⟩:=zBS (i:=1) kb kF ω;refine WU ?_;refine VT (i:=1) (hy:=rfl) bP ?_;refine go ?_;have ed:=zCF (p:=y.pos) (v:=f 0 y.bits) (out:=out);have Ab:(b.drop 1).length=b.length-1:=Ga ..;refine zA (a,b.drop 1) (by simp only;omega) ⟨dH,wG,_,WJ,WJ,ka,wI,S4,fp,⟨?_⟩,la,by simp only;omega,by simp only;omega⟩;rw[zBQ];exact hI.out
 by_cases kF:0<b.length;case neg=>
  have wF:=zM8 (f:=f) hA (.inl (by omega:b.length=0));have re:W8 (inC (zB 0 h1)) dH a:=mU;have rf:W8 (inC (zB 0 h1)) fG b:=mV;have ox:WB hB (inC (zB 0 h1)) p8 [I 0,W 0]:=o8;obtain⟨ca,⟨rfl,y1,y2,y3⟩,rh,OI⟩:=zq mU hA;have eG:=(rh _ (WH.refl _)).2;have eG:Wv (inC (zB 0 h1)) dH (0*2) [I (a.getD 0 default).pos,W (a.getD 0 default).bits]:=eG;generalize a.getD 0 default=y at *;have hI:=hI.out.trans (congrArg (out++·) wF);have hI:=Wi.mk hI;clear wF;refine go ?_;refine VC 0 rfl rfl ?_;refine WU ?_;refine zTT ?_;refine WU ?_;rw[zLQ];refine VC 0 rfl rfl ?_;refine WU ?_;refine VJ (WV.func (Yf _ y)) ?_;rintro _ h2 ⟨rfl,e2⟩;refine nE e2 ?_;have S2:=S.enter e2;refine WU ?_;refine VJ (WV.func (zBt _ (inC h2) bb p5 p6 fv f hf out y ⟨0,0⟩ y.pos S2 y1 (by decide) ω (hfz _ _ y1 (by decide)) ⟨y2,y3⟩ (QF _))) ?_;rintro _ h3 ⟨S3,n3,w3,f3⟩;refine WO.nil ?_;refine zHC (fun k hk=> ?_) n3 ?_
  ·rcases w3 k hk with h|h
   ·cases h
   ·have h:hB.n<=k:=h;omega
  have S4:=S3.leave e1;have fp:WB hB (z9 h1 h3) p8 [I 0,W 0]:=f3 p8 _ (by have:=WB.ext (h:=inC (zB 0 h1)) o8 e2;exact this) wE td;generalize z9 h1 h3=h4 at S4 fp |-;obtain⟨jr,bP,ri⟩:=zBS (i:=1) ka hA ω;refine WU ?_;refine VT (i:=1) (hy:=rfl) bP ?_;refine go ?_;have ed:=zCF (p:=y.pos) (v:=f y.bits 0) (out:=out);have Ab:(a.drop 1).length=a.length-1:=Ga ..;refine zA (a.drop 1,b) (by simp only;omega) ⟨jr,fG,_,WJ,WJ,ri,kb,S4,fp,⟨?_⟩,by simp only;omega,lb,by simp only;omega⟩;rw[zBQ];exact hI.out
 have re:W8 (inC (zB 0 h1)) dH a:=mU;have rf:W8 (inC (zB 0 h1)) fG b:=mV;have ox:WB hB (inC (zB 0 h1)) p8 [I 0,W 0]:=o8;obtain⟨ca,⟨rfl,x1,x2,x3⟩,rh,OI⟩:=zq mU hA;have eG:=(rh _ (WH.refl _)).2;have eG:Wv (inC (zB 0 h1)) dH (0*2) [I (a.getD 0 default).pos,W (a.getD 0 default).bits]:=eG;obtain⟨cb,⟨rfl,y1,y2,y3⟩,mP,oh⟩:=zq mV kF;have eF:=(mP _ (WH.refl _)).2;have eF:Wv (inC (zB 0 h1)) fG (0*2) [I (b.getD 0 default).pos,W (b.getD 0 default).bits]:=eF;obtain⟨qa,qn,qk,Ji,EG⟩:=zCX (i:=0) mV kF;obtain⟨ra,rn,rk,OJ,ee⟩:=zCX (i:=0) mU hA;have mF:=fun h=>zM8 (f:=f) hA (.inr h:b.length=0\/(a.getD 0 default).pos<(b.getD 0 default).pos);have qu:=fun h=>zMT (f:=f) kF (.inr h:a.length=0\/(b.getD 0 default).pos<(a.getD 0 default).pos);have te:=zSX (f:=f) hA kF;generalize a.getD 0 default=x at *;generalize b.getD 0 default=y at *;have mF:=Wi.mk mF;have qu:=Wi.mk qu;have te:=Wi.mk te;refine go ?_;refine VC 0 rfl rfl ?_;refine WU ?_;refine VJ (WV.func (Yf _ x)) ?_;rintro _ h2 ⟨rfl,e2⟩;refine nE e2 ?_;have e3:WH h1 (z9 h1 (inC h2)):=zMC e2;have EH:W8 (inC h2) dH a:=by have:=W8.ext mU e3;exact this
 have OK:W8 (inC h2) fG b:=by have:=W8.ext mV e3;exact this
 have EI:Wv (inC h2) fG (0*2) [I y.pos,W y.bits]:=by have:=(mP _ e3).2;exact this
 refine WU ?_;refine zIz ⟨qa,qn,qk,Ji,EG⟩ ?_;refine WU ?_;refine VJ (WV.func (Yf _ y)) ?_;rintro _ h4 ⟨rfl,e4⟩;refine nE e4 ?_;have e5:WH h1 (z9 h1 (inC h4)):=zJa e2 e4;by_cases aD:x.pos<y.pos
 ·have hI:=Wi.mk (hI.out.trans (congrArg (out++·) (mF.out aD)));clear mF qu te;refine WU ?_;generalize z9 h1 (inC h4)=h5 at e5 |-;have S:=S.ext e5;have o8:=o8.ext e5;have cH:=e1.trans e5;have bp:h5.mark<=hB.n:=by have:=cH.mark;omega
  have re:W8 (inC (zB 0 h5)) dH a:=by have:=W8.ext mU e5;exact this
  have ox:WB hB (inC (zB 0 h5)) p8 [I 0,W 0]:=o8;have eG:Wv (inC (zB 0 h5)) dH (0*2) [I x.pos,W x.bits]:=by have:=(rh _ e5).2;exact this
  refine VC 0 rfl rfl ?_;refine WU ?_;refine VJ (WV.func (Yf _ x)) ?_;rintro _ h6 ⟨rfl,e6⟩;refine nE e6 ?_;have S2:=S.enter e6;refine WU ?_;refine VJ (WV.func (zBt _ (inC h6) bb p5 p6 fv f hf out x ⟨0,0⟩ x.pos S2 x1 (by decide) ω (hfz _ _ x1 (by decide)) ⟨x2,x3⟩ (QF _))) ?_;rintro _ h3 ⟨S3,n3,w3,f3⟩;refine WO.nil ?_;refine zHC (fun k hk=> ?_) n3 ?_
  ·rcases w3 k hk with h|h
   ·cases h
   ·have h:hB.n<=k:=h;omega
  have S4:=S3.leave cH;have fp:WB hB (z9 h5 h3) p8 [I 0,W 0]:=f3 p8 _ (by have:=WB.ext (h:=inC (zB 0 h5)) o8 e6;exact this) wE td;generalize z9 h5 h3=h7 at S4 fp |-;obtain⟨jr,bP,ri⟩:=zBS (i:=1) ka hA ω;refine WU ?_;refine VT (i:=1) (hy:=rfl) bP ?_;refine go ?_;have ed:=zCF (p:=x.pos) (v:=f x.bits 0) (out:=out);have Ab:(a.drop 1).length=a.length-1:=Ga ..;refine zA (a.drop 1,b) (by simp only;omega) ⟨jr,fG,_,WJ,WJ,ri,kb,S4,fp,⟨?_⟩,by simp only;omega,lb,by simp only;omega⟩;rw[zBQ];exact hI.out
 refine WU ?_;generalize z9 h1 (inC h4)=h5 at e5 |-;clear e3 EH OK EI e2 e4 re rf ox eG eF;have S:=S.ext e5;have o8:=o8.ext e5;have cH:=e1.trans e5;have bp:h5.mark<=hB.n:=by have:=cH.mark;omega
 have EJ:=W8.ext mU e5;have EK:=W8.ext mV e5;have re:W8 (inC (zB 0 h5)) dH a:=EJ;have rf:W8 (inC (zB 0 h5)) fG b:=EK;have ox:WB hB (inC (zB 0 h5)) p8 [I 0,W 0]:=o8;have eG:Wv (inC (zB 0 h5)) dH (0*2) [I x.pos,W x.bits]:=by have:=(rh _ e5).2;exact this
 have eF:Wv (inC (zB 0 h5)) fG (0*2) [I y.pos,W y.bits]:=by have:=(mP _ e5).2;exact this
 refine VC 0 rfl rfl ?_;refine WU ?_;refine VJ (WV.func (Yf _ y)) ?_;rintro _ h2 ⟨rfl,e2⟩;refine nE e2 ?_;have e3:WH h5 (z9 h5 (inC h2)):=zMC e2;have EH:W8 (inC h2) dH a:=by have:=W8.ext EJ e3;exact this
 have EL:Wv (inC h2) dH (0*2) [I x.pos,W x.bits]:=by have:=(rh _ (e5.trans e3)).2;exact this
 have EM:ra.block<h5.n:=QG ee e5.n;have OL:qa.block<h5.n:=QG EG e5.n;refine WU ?_;refine zIz ⟨ra,rn,rk,OJ,EM⟩ ?_;refine WU ?_;refine VJ (WV.func (Yf _ x)) ?_;rintro _ h4 ⟨rfl,e4⟩;refine nE e4 ?_;have e6:WH h5 (z9 h5 (inC h4)):=zJa e2 e4;by_cases hgt:y.pos<x.pos
 ·have hI:=Wi.mk (hI.out.trans (congrArg (out++·) (qu.out hgt)));clear mF qu te;refine WU ?_;generalize z9 h5 (inC h4)=h6 at e6 |-;have S:=S.ext e6;have o8:=o8.ext e6;have dD:=cH.trans e6;have bp:h6.mark<=hB.n:=by have:=dD.mark;omega
  have rf:W8 (inC (zB 0 h6)) fG b:=by have:=W8.ext EK e6;exact this
  have ox:WB hB (inC (zB 0 h6)) p8 [I 0,W 0]:=o8;have eF:Wv (inC (zB 0 h6)) fG (0*2) [I y.pos,W y.bits]:=by have:=(mP _ (e5.trans e6)).2;exact this
  refine VC 0 rfl rfl ?_;refine WU ?_;refine VJ (WV.func (Yf _ y)) ?_;rintro _ h7 ⟨rfl,e7⟩;refine nE e7 ?_;have S2:=S.enter e7;refine WU ?_;refine VJ (WV.func (zBt _ (inC h7) bb p5 p6 fv f hf out ⟨0,0⟩ y y.pos S2 (by decide) y1 ω (hfz _ _ (by decide) y1) ⟨y2,y3⟩ (QF _))) ?_;rintro _ h3 ⟨S3,n3,w3,f3⟩;refine WO.nil ?_;refine zHC (fun k hk=> ?_) n3 ?_
  ·rcases w3 k hk with h|h
   ·cases h
   ·have h:hB.n<=k:=h;omega
  have S4:=S3.leave dD;have fp:WB hB (z9 h6 h3) p8 [I 0,W 0]:=f3 p8 _ (by have:=WB.ext (h:=inC (zB 0 h6)) o8 e7;exact this) wE td;generalize z9 h6 h3=h8 at S4 fp |-;obtain⟨wG,bP,wI⟩:=zBS (i:=1) kb kF ω;refine WU ?_;refine VT (i:=1) (hy:=rfl) bP ?_;refine go ?_;have ed:=zCF (p:=y.pos) (v:=f 0 y.bits) (out:=out);have Ab:(b.drop 1).length=b.length-1:=Ga ..;refine zA (a,b.drop 1) (by simp only;omega) ⟨dH,wG,_,WJ,WJ,ka,wI,S4,fp,⟨?_⟩,la,by simp only;omega,by simp only;omega⟩;rw[zBQ];exact hI.out
 have hI:=Wi.mk (hI.out.trans (congrArg (out++·) (te.out ω)));clear mF qu te;refine WU ?_;generalize z9 h5 (inC h4)=h6 at e6 |-;clear re rf ox eG eF EH EL;have S:=S.ext e6;have o8:=o8.ext e6;have dD:=cH.trans e6;have bp:h6.mark<=hB.n:=by have:=dD.mark;omega
 have re:W8 (inC (zB 0 h6)) dH a:=by have:=W8.ext EJ e6;exact this
 have rf:W8 (inC (zB 0 h6)) fG b:=by have:=W8.ext EK e6;exact this
 have ox:WB hB (inC (zB 0 h6)) p8 [I 0,W 0]:=o8;have eG:Wv (inC (zB 0 h6)) dH (0*2) [I x.pos,W x.bits]:=by have:=(rh _ (e5.trans e6)).2;exact this
 have eF:Wv (inC (zB 0 h6)) fG (0*2) [I y.pos,W y.bits]:=by have:=(mP _ (e5.trans e6)).2;exact this
 refine VC 0 rfl rfl ?_;refine WU ?_;refine VJ (WV.func (Yf _ x)) ?_;rintro _ h7 ⟨rfl,e7⟩;refine nE e7 ?_;have S2:=S.enter e7;refine WU ?_;refine VJ (WV.func (zBt _ (inC h7) bb p5 p6 fv f hf out x y x.pos S2 x1 y1 ω (hfz _ _ x1 y1) ⟨x2,x3⟩ (QF _))) ?_;rintro _ h3 ⟨S3,n3,w3,f3⟩;refine WO.nil ?_;refine zHC (fun k hk=> ?_) n3 ?_
 ·rcases w3 k hk with h|h
  ·cases h
  ·have h:hB.n<=k:=h;omega
 have S4:=S3.leave dD;have fp:WB hB (z9 h6 h3) p8 [I 0,W 0]:=f3 p8 _ (by have:=WB.ext (h:=inC (zB 0 h6)) o8 e7;exact this) wE td;generalize z9 h6 h3=h8 at S4 fp |-;obtain⟨jr,EN,ri⟩:=zBS (i:=1) ka hA ω;obtain⟨wG,EO,wI⟩:=zBS (i:=1) kb kF ω;refine WU ?_;refine VT (i:=1) (hy:=rfl) EN ?_;refine go ?_;refine VT (i:=1) (hy:=rfl) EO ?_;refine go ?_;have ed:=zCF (p:=x.pos) (v:=f x.bits y.bits) (out:=out);have hda:(a.drop 1).length=a.length-1:=Ga ..;have hdb:(b.drop 1).length=b.length-1:=Ga ..;refine zA (a.drop 1,b.drop 1) (by simp only;omega) ⟨jr,wG,_,WJ,WJ,ri,wI,S4,fp,⟨?_⟩,by simp only;omega,by simp only;omega,by simp only;omega⟩;rw[zBQ];exact hI.out
def zEq(A B:List Wa):Int:=if zv (-1) A&&zv (-1) B then 0 else 8
def zA1(f:Nat->Nat->Nat)(A B:List Wa):List Wa:=if zv (-1) A&&zv (-1) B then yM f A B else[]
def BL(h h':WA)(v:Value)(s:List Wa):Prop:=∃ b,h.n<=b/\zGl b h' v s
def BL.sl{h h' v s}(m:BL h h' v s):W8 h' v s:=let⟨_,_,o⟩:=m;WR.sl o
def BL.nil{h h':WA}:BL h h' (.slice none 0 0) []:=⟨h.n,QF _,WR.nil⟩
section
variable {P:Program}{tab:Ws}{t:WG Value}{h:WA}{ds:List Deferred}{rd:Option Nat}{l:List WE}{Q:WM->WA->Prop}
def WO.max2{d:Nat}{x y:Operand}{a b r:Int}(hr:r=if a<b then b else a)(k:WO P tab l ⟨t.set d (I r),ds,rd⟩ h Q)(hx:WN t x (I a):=by exact zO)(hy:WN t y (I b):=by exact zO):WO P tab (⟨some d,none,.maxmin true [x,y]⟩::l) ⟨t,ds,rd⟩ h Q:=by
 have hx:ev t x=I a:=hx;have hy:ev t y=I b:=hy;refine WO.op (I r) h rfl ?_ k;subst hr;simp only[WK,hx,hy,Qi,Gc];rfl
end
def zMM(h:WA)(va vb fv:Value)(f:Nat->Nat->Nat)(hf:zUb fv f)(hfz:∀ x y,x<18446744073709551616->y<18446744073709551616->f x y<18446744073709551616)(OM:fv.cells=#[fv])(A B:List Wa)(ka:W8 h va A)(kb:W8 h vb B)(la:A.length<=1000)(lb:B.length<=1000)(hm:h.mark<=h.n):
  G0 63 [va,vb,fv] h fun r h'=>(∃ v,r=.tuple #[v,I (zEq A B)]/\BL h h' v (zA1 f A B))/\WH h h':=by
 refine en ?_;refine VH ?_;intro p5 h1 e1 o5;rw[OM]at o5;have o5:WB h h1 p5 [fv]:=o5;refine go ?_;refine WO.al ?_;intro p6 h2 e2 o6;have AB:=o5.ext e2;have aQ:=e1.trans e2;have ah:p5≠p6:=fun e=>by
  obtain⟨g,_,g2,a,_⟩:=o5;obtain⟨g',g1,_,b,_⟩:=o6;rw[a,b]at e;cases e;omega
 have ri:=W8.ext ka aQ;refine go ?_;refine VA (zCN h2 va A ri ω) ?_;rintro _ h3 ⟨rfl,e3⟩;have ON:=W8.ext kb (aQ.trans e3);refine go ?_;refine VA (zCN h3 vb B ON ω) ?_;rintro _ h4 ⟨rfl,e4⟩;have cB:=aQ.trans (e3.trans e4);have o5:=AB.ext (e3.trans e4);have o6:=o6.ext (e3.trans e4);have Jj:=o6.since e1;have hm4:h4.mark<=h4.n:=by have:=cB.mark;have:=cB.n;omega
 refine go ?_;refine WO.max2 (a:=zBo (zv (-1) A)) (b:=zBo (zv (-1) B)) (r:=zEq A B) (by unfold zEq zBo;cases zv (-1) A<;>cases zv (-1) B<;>rfl) ?_;have hE:zEq A B=if(zv (-1) A&&zv (-1) B)=true then 0 else 8:=rfl;have hL:zA1 f A B=if(zv (-1) A&&zv (-1) B)=true then yM f A B else[]:=rfl;by_cases hc:(zv (-1) A&&zv (-1) B)=true
 ·rw[QJ hc]at hE hL;rw[hE,hL];refine go ?_;refine VA (zQH h h4 va vb p5 p6 fv f hf hfz A B ka kb la lb cB hm o5 Jj ah) ?_;rintro _ h5 ⟨e5,v,b,hb,OO,ow,OP⟩;obtain⟨dH,AD,qK,rfl,Jf⟩:=Y8 ow;refine go ?_;refine VG (cs:=[.slice dH AD qK]) OO e5 ?_;intro h6 e6 EP u6;refine go ?_;refine rt (vs:=[.slice dH AD qK,I 0]) ?_ (VP WJ EP rfl (BI.cons WJ BI.nil));exact⟨⟨_,rfl,b,hb,WR.upd ow (fun k k1 k2=>u6.2 k k2 fun e=>by have:=OP k e;omega) u6.1⟩,e6⟩
 ·rw[QC hc]at hE hL;rw[hE,hL];refine go ?_;refine VG (cs:=[.slice none 0 0]) Jj cB ?_;intro h6 e6 EP u6;refine go ?_;refine rt (vs:=[.slice none 0 0,I 8]) ?_ (VP WJ EP rfl (BI.cons WJ BI.nil));exact⟨⟨_,rfl,BL.nil⟩,e6⟩
def bit_or:Bitw (fun a b=>a|||b) (fun a b=>a||b):=⟨rfl,fun a b ha hb=>⟨(zOu ha hb).2,fun i=>Nat.testBit_or ..⟩⟩
def bit_not:Bitw SR (fun a b=>a&& !b):=⟨rfl,fun a b ha hb=>(zO6 ha hb).2⟩
def zVN(h:WA)(va vb:Value)(A B:List Wa)(ka:W8 h va A)(kb:W8 h vb B)(la:A.length<=1000)(lb:B.length<=1000)(hm:h.mark<=h.n):
  G0 44 [va,vb] h fun r h'=>(∃ v,r=.tuple #[v,I (zEq A B)]/\BL h h' v (zA1 (fun a b=>a|||b) A B))/\WH h h':=by
 refine en ?_;refine VA (zMM h va vb (.func (.func 96) #[] #[]) (fun a b=>a|||b) (fun h a b ha hb=>WV.func (zUd h a b ha hb)) (fun x y hx hy=>(bit_or.bit x y hx hy).1) rfl A B ka kb la lb hm) ?_;rintro _ h1 ⟨⟨v,rfl,m⟩,e1⟩;refine gr ?_;exact⟨⟨v,rfl,m⟩,e1⟩
def zJv(h:WA)(va vb:Value)(A B:List Wa)(ka:W8 h va A)(kb:W8 h vb B)(la:A.length<=1000)(lb:B.length<=1000)(hm:h.mark<=h.n):
  G0 24 [va,vb] h fun r h'=>(∃ v,r=.tuple #[v,I (zEq A B)]/\BL h h' v (zA1 SR A B))/\WH h h':=by
 refine en ?_;refine VA (zMM h va vb (.func (.func 64) #[] #[]) SR (fun h a b ha hb=>WV.func (zND h a b ha hb)) (fun x y hx hy=>(bit_not.bit x y hx hy).1) rfl A B ka kb la lb hm) ?_;rintro _ h1 ⟨⟨v,rfl,m⟩,e1⟩;refine gr ?_;exact⟨⟨v,rfl,m⟩,e1⟩
structure BG(h h':WA):Prop where
 n:h.n<=h'.n
 get:∀ g,g<h.n->h'.get g=h.get g
 wf:Wf h->Wf h'
def BG.of{h h':WA}(e:WH h h'):BG h h':=⟨e.n,e.get,e.wf⟩
def BG.trans{a b c:WA}(h:BG a b)(k:BG b c):BG a c:=⟨QM h.n k.n,fun g hg=>(k.get g (QG hg h.n)).trans (h.get g hg),fun w=>k.wf (h.wf w)⟩
def BG.to{h h':WA}(e:BG h h'):WH {h with mark:=h'.mark,wr:=h'.wr} h':=⟨e.n,e.get,fun w=>e.wf w,rfl,fun _=>rfl⟩
def zG0{h v s}(k:W8 h v s):∃ a n m,v=.slice a n m:=let⟨_,a,_⟩:=k;a.shape
def W8.extN{h h' v s}(k:W8 h v s)(e:BG h h'):W8 h' v s:=by
 have:=W8.ext (h:={h with mark:=h'.mark,wr:=h'.wr}) (by exact k) e.to;exact this
def SF.extN{h h'}(T:SF h)(e:BG h h'):SF h':=by
 have:=SF.ext (h:={h with mark:=h'.mark,wr:=h'.wr}) (by exact T) e.to;exact this
def zJe(w:Wa)(s:List Wa):zQ (w::s)=(Y5 w.bits).map (fun k:Nat=>64*w.pos+(k:Int))++zQ s:=rfl
def zNJ{l r:List Int}{j:Nat}{x:Int}(h:l.drop j=x::r):j<l.length/\l.getD j 0=x/\l.drop (j+1)=r:=by
 have hj:j<l.length:=by
  rcases GP j l.length with h1|h1
  ·exact h1
  ·rw[List.drop_eq_nil_of_le h1]at h;cases h
 rw[GB hj]at h;cases h;exact⟨hj,by rw[QD,QB hj];rfl,rfl⟩
def zKQ(hA hB h:WA)(y p v:Value)(s:List Wa)(ok:Bh s)(hl:(s.length:Int)<=1000000000)(J:Nat->(Nat->Prop)->WA->Prop)(W0:Nat->Prop)(h0:J 0 W0 h)(o:WB hA h p [v])(k:W8 hB v s)(T:SF hB)(eB:BG hB h)(hm:h.mark<=hB.n)
  (hp:∀ i Wr h',J i Wr h'->BG hB h'/\∀ k,Wr k->hB.n<=k/\k<h'.n) (hk:∀ i Wr h' ef,J i Wr h'->BG h' ef->J i Wr ef)
  (hy:∀ i Wr h',i<(zQ s).length->J i Wr h'->h'.mark<=h'.n->WV Tryz.prog tb y [I ((zQ s).getD i 0)] h' fun r ef=>r=.bool true/\h'.n<=ef.n/\(∀ k,k<h'.n->¬Wr k->ef.get k=h'.get k)/\(∀ g∈ef.wr,g∈h'.wr\/hB.n<=g)/\∃ wJ,J (i+1) wJ ef/\∀ k,wJ k->Wr k\/h'.n<=k):
  G0 179 [y,p] h fun _ h'=>(∃ Wr,J (zQ s).length Wr h')/\h'.mark=h.mark/\h'.wr=h.wr:=by
 have kh:=k.extN eB;have hp:=Wi.mk hp;have hk:=Wi.mk hk;have hy:=Wi.mk hy;have ok:=Wi.mk ok;obtain⟨_,_,_,rfl⟩:=zG0 k;refine en ?_;refine VD (fun i=>s.length-i) (fun i t h1=>∃ j Wr,zC t 8=I i/\i<=s.length/\j<=(zQ s).length/\J j Wr h1/\BG hB h1/\h1.mark=h.mark/\h1.wr=h.wr/\Wi ((zQ s).drop j=zQ (s.drop i))) 0 ?_ ?_
 ·exact⟨0,W0,WJ,QQ _,QQ _,h0,eB,rfl,rfl,⟨rfl⟩⟩
 clear h0 eB kh;rintro i t h1 ab ⟨j,Wr,s8,hi,ER,j1,e1,m1,r1,hI⟩;have k1:=k.extN e1;refine F0 ?_ ?_<;>intro hb
 ·have af:i<s.length:=ω
  obtain⟨cs,⟨rfl,w1,w2,w3⟩,pc,hs⟩:=zFJ k1 af;have hd:=hI.out;rw[zEG af,zJe]at hd;have hw4:=ok.out.each (s.getD i default) (by rw[QD,QB af];exact JE af);generalize s.getD i default=w at *;have hd:=Wi.mk hd;refine go ?_;refine WO.al ?_;intro p4 h2 e2 o4;refine go ?_;refine VG (cs:=[I w.pos,W w.bits]) o4 e2 ?_;intro h3 e3 sP u3;refine go ?_;obtain⟨g4,g41,g42,rfl,OQ⟩:=id sP;refine VD (fun rest=>rest) (fun rest t h4=>∃ j Wr,zC t 5=W rest/\j<=(zQ s).length/\rest<18446744073709551616/\J j Wr h4/\BG hB h4/\h4.mark=h.mark/\h4.wr=h.wr/\WB h1 h4 (.pointer (some ⟨g4,0,none⟩)) [I w.pos,W w.bits]/\¬Wr g4/\Wi ((zQ s).drop j=(Y5 rest).map (fun k:Nat=>64*w.pos+(k:Int))++zQ (s.drop (i+1)))) w.bits ?_ ?_
  ·refine⟨j,Wr,WJ,ER,w1,hk.out _ _ _ _ j1 (BG.of e3),e1.trans (BG.of e3),e3.mark.trans m1,?_,sP,fun hw=> ?_,hd⟩
   ·have:=e1.n;rw[e3.wr (by rw[m1];omega)];exact r1
   ·have:=((hp.out _ _ _ j1).2 _ hw).2;omega
  clear hd hI j1 e1 m1 r1 k1 pc hs e2 o4 u3 sP e3 OQ;rintro rest t4 h4 kj ⟨j,Wr,s5,ER,hr,j4,e4,m4,r4,o4,hw,hI⟩;refine go ?_;refine VE (fun aI=> ?_) (fun aI=> ?_)<;>simp only[DB]at aI
  ·have bE:rest≠0:=ω
   obtain⟨kk,L⟩:=low bE hr;have aD:=L.lt;have hI:=hI.out;rw[L.list,Qi,JG]at hI;obtain⟨eJ,ez,OR⟩:=zNJ hI;have hI:=Wi.mk OR;have iB:=L.less;refine go ?_;refine VC 0 rfl rfl ?_;have o4X:WB h1 (inC (zB 0 h4)) (.pointer (some ⟨g4,0,none⟩)) [I w.pos,W w.bits]:=o4;have TX:SF (inC (zB 0 h4)):=by have:=T.extN e4;exact this
   refine WU ?_;refine VA (zP6 _ rest kk TX hr bE L) ?_;rintro _ _ ⟨rfl,rfl⟩;refine nE (WH.refl _) ?_;refine WU ?_;have Jk:=hy.out j Wr (inC (inC (zB 0 h4))) eJ (hk.out _ _ _ _ j4 ⟨QF _,fun _ _=>rfl,id⟩) (QF _);rw[ez]at Jk;refine VJ Jk ?_;rintro _ h5 ⟨rfl,n5,k5,w5,wJ,j5,hW'⟩;refine WO.nil ?_;refine zL2 (fun k hk=> ?_) n5 (fun bV=> ?_)
   ·rcases w5 k hk with h|h
    ·cases h
    ·rw[m4];omega
   refine WU ?_;have n5:h4.n<=h5.n:=n5;have ES:WB h1 (z9 h4 (inC h5)) (.pointer (some ⟨g4,0,none⟩)) [I w.pos,W w.bits]:=by
    obtain⟨q,q1,q2,q3,q4⟩:=o4;cases q3;exact⟨g4,q1,QG q2 n5,rfl,(k5 g4 q2 hw).trans q4⟩
   have j6:=hk.out _ _ _ (z9 h4 (inC h5)) j5 ⟨QF _,fun _ _=>rfl,id⟩;have e5:BG hB (z9 h4 (inC h5)):=(hp.out _ _ _ j6).1;have m6:(z9 h4 (inC h5)).mark=h.mark:=m4;have r6:(z9 h4 (inC h5)).wr=h.wr:=r4;have OS:¬wJ g4:=fun hW=>by
    rcases hW' g4 hW with h|h
    ·exact hw h
    ·obtain⟨q,q1,q2,q3,q4⟩:=o4;cases q3;have:h4.n<=g4:=h;omega
   generalize z9 h4 (inC h5)=h6 at *;refine WO.bin zO rfl (zUx (a:=rest) (b:=1) hr ω) ?_;refine go ?_;refine WO.bin zO zO (zFg (a:=rest) (b:=rest-1) hr ω) ?_;refine go ?_;exact zA (rest&&& (rest-1)) iB ⟨j+1,wJ,WJ,eJ,Nat.lt_trans iB hr,j6,e5,m6,r6,ES,OS,hI⟩
  ·have bE:rest=0:=ω
   subst bE;refine go ?_;have hI:=hI.out;rw[zLd]at hI;exact zA (i+1) ω ⟨j,Wr,Wy,ω,ER,j4,e4,m4,r4,⟨hI⟩⟩
 ·refine go ?_;refine BN ?_;have hI:=hI.out;rw[show i=s.length by omega,List.drop_length,show zQ []=[]from rfl]at hI;have OT:j=(zQ s).length:=by
   have:=congrArg List.length hI;rw[Ga,G5]at this;omega
  subst OT;exact⟨⟨Wr,j1⟩,m1,r1⟩
def zKs(h:WA)(v:Value)(s:List Wa)(k:W8 h v s):G0 135 [v] h fun r h'=>(∃ p,r=.func (.func 179) #[] #[p]/\WB h h' p [v])/\WH h h':=by
 obtain⟨_,_,_,rfl⟩:=zG0 k;refine en ?_;refine VH ?_;intro p h1 e1 o1;refine gr ?_;exact⟨⟨p,rfl,o1⟩,e1⟩
def Ww.extN{h h':WA}{g:Nat}{o:Wp}(k:Ww h g o)(e:BG h h'):Ww h' g o:=⟨QG k.1 e.n,(e.get g k.1).trans k.2⟩
def WB.extN{h0 h h' p cells}(o:WB h0 h p cells)(e:BG h h'):WB h0 h' p cells:=by
 obtain⟨g,a,b,c,d⟩:=o;exact⟨g,a,QG b e.n,c,(e.get g b).trans d⟩
def WP.extN{h0 h h' v xs}(o:WP h0 h v xs)(e:BG h h'):WP h0 h' v xs:=by
 rcases o with o|⟨g,a,b,c,d⟩
 ·exact .inl o
 ·exact .inr ⟨g,a,QG b e.n,c,(e.get g b).trans d⟩
def zJq{h0 h1 h:WA}{p v:Value}{a:Option Addr}{n k:Nat}{cs:List Value}{xs:List Int}(o:WB h0 h p (.slice a n k::cs))(i:WP h1 h v xs):∀ b m c,v=.slice (some b) m c->p≠ .pointer (some ⟨b.block,0,none⟩):=by
 intro b m c hv hp;obtain⟨g,_,_,rfl,hg⟩:=o;rcases i with⟨rfl,_⟩|⟨g2,_,_,rfl,ir⟩
 ·cases hv
 ·cases hv;cases hp;rw[hg]at ir;cases xs with
  |nil=>cases ir
  |cons x xs=>cases ir
def zOO{h0 h h':WA}{p v:Value}{a:Option Addr}{n k:Nat}{cs:List Value}{xs:List Int}(o:WB h0 h p (.slice a n k::cs))(i:WP h0 h v xs)(u:Bm v h h'):WB h0 h' p (.slice a n k::cs):=by
 have ah:=zJq o i;obtain⟨g,g1,g2,rfl,hg⟩:=o;exact⟨g,g1,QG g2 u.1,rfl,(u.2 g g2 fun b m c hv e=>ah b m c hv (by rw[e])).trans hg⟩
def zFi{h0 h h':WA}{p v:Value}{a:Option Addr}{n k:Nat}{cs:List Value}{xs:List Int}(i:Wq h0 h v xs)(o:WB h0 h p (.slice a n k::cs))(u:Wo p h h'):Wq h0 h' v xs:=by
 have ah:=zJq o (.inr i);obtain⟨g,g1,g2,rfl,hg⟩:=i;exact⟨g,g1,QG g2 u.1,rfl,(u.2 g g2 fun e=>ah _ _ _ rfl e).trans hg⟩
def zM2(h:WA)(v:Value)(s:List Wa)(k:W8 h v s)(T:SF h)(hl:(s.length:Int)<=1000000)(hm:h.mark<=h.n):
  G0 72 [v] h fun r h'=>(∃ w,r=.tuple #[w,I (zBo (zv (-1) s))]/\WP h h' w (if zv (-1) s then zQ s else[]))/\WH h h':=by
 refine en ?_;refine WO.al ?_;intro p2 h1 e1 o1;have k1:=W8.ext k e1;refine go ?_;refine VA (zCN h1 v s k1 ω) ?_;rintro _ h2 ⟨rfl,e2⟩;have aQ:=e1.trans e2;have o2:=o1.ext e2;have k2:=W8.ext k aQ;by_cases hc:zv (-1) s=true;case neg=>
  have hc:zv (-1) s=false:=by simpa using hc
  rw[hc,show zBo false=8 from rfl];refine go ?_;refine VG (cs:=[.slice none 0 0]) o2 aQ ?_;intro h3 e3 o3 u3;refine go ?_;refine rt (vs:=[.slice none 0 0,I 8]) ?_ (VP WJ o3 rfl (BI.cons WJ BI.nil));exact⟨⟨_,rfl,.inl ⟨rfl,rfl⟩⟩,e3⟩
 have ok:=(YE k.bd).1 hc;rw[hc,show zBo true=0 from rfl];refine go ?_;refine VA (zKs h2 v s k2) ?_;rintro _ h3 ⟨⟨p,rfl,o3⟩,e3⟩;have OU:=o2.ext e3;have df:=aQ.trans e3;refine go ?_;refine Vq ?_;intro L g r hO uM eO hL hg lL lg;have eb:=df.trans eO;have AE:h.n<=L:=QM df.n hL;have OV:=OU.ext eO;have hlen:((zQ s).length:Int)<=64*s.length:=by
  have:∀ l:List Wa,(zQ l).length<=64*l.length:=fun l=>by
   induction l with
   |nil=>exact QF _
   |cons w l ih=>rw[zCt,Qn];have:=zFj w.bits;omega
  have:=this s;omega
 have OW:hO.mark<=h.n:=by rw[eb.mark];exact hm
 refine WV.func ?_;refine WC.mono (zKQ h2 h hO _ p v s ok ω (fun i Wr h'=>BG h h'/\Ww h' L (.loop r)/\Ww h' g (.deferred (some []))/\∃ w,WB h h' p2 [w]/\WP h h' w ((zQ s).take i)/\Wr=fun k=>p2=.pointer (some ⟨k,0,none⟩)\/k=L\/∃ n c,w=.slice (some ⟨k,0,none⟩) n c)
  (fun k=>p2=.pointer (some ⟨k,0,none⟩)\/k=L\/∃ n c,Value.slice none 0 0=.slice (some ⟨k,0,none⟩) n c) ?_ (o3.ext eO) k T (BG.of eb) OW ?_ ?_ ?_) ?_
 ·exact⟨BG.of eb,lL,lg,_,OV,.inl ⟨rfl,rfl⟩,rfl⟩
 ·rintro i _ h' ⟨e',dQ,j0,w,ow,on,rfl⟩;refine⟨e',fun k hk=> ?_⟩;rcases hk with hk|rfl|⟨n,c,hk⟩
  ·obtain⟨q,q1,q2,q3,q4⟩:=ow;rw[q3]at hk;cases hk;exact⟨q1,q2⟩
  ·exact⟨AE,dQ.1⟩
  ·rcases on with⟨q,_⟩|⟨q,q1,q2,q3,q4⟩
   ·rw[q]at hk;cases hk
   ·rw[q3]at hk;cases hk;exact⟨q1,q2⟩
 ·rintro i _ h' ef ⟨e',dQ,j0,w,ow,on,rfl⟩ wK;exact⟨e'.trans wK,Ww.extN dQ wK,Ww.extN j0 wK,w,WB.extN ow wK,WP.extN on wK,rfl⟩
 ·rintro i _ h' hi ⟨e',dQ,j0,w,ow,on,rfl⟩ iO;refine Vo dQ uM rfl ?_;simp only[zCE];refine go ?_;refine zCI ?_;intro h4 lS;have eB:=e'.to;generalize tf:({h with mark:=h'.mark,wr:=h'.wr}:WA)=hb at eB;have dC:hb.n=h.n:=by rw[<-tf]
  have ET:∀ {hx p cells},WB h hx p cells->WB hb hx p cells:=fun o=>by rw[<-tf];exact o
  have wL:∀ {hx p cells},WB hb hx p cells->WB h hx p cells:=fun o=>by rw[<-tf]at o;exact o
  have EU:∀ {hx v xs},WP h hx v xs->WP hb hx v xs:=fun o=>by rw[<-tf];exact o
  have wM:∀ {hx v xs},WP hb hx v xs->WP h hx v xs:=fun o=>by rw[<-tf]at o;exact o
  have e4:WH hb h4:=by rw[lS];exact eB.set ω dQ.1 _
  have n4:h4.n=h'.n:=by rw[lS];rfl
  have m4:h4.mark=h'.mark:=by rw[lS];rfl
  have w4:∀ k∈h4.wr,k∈h'.wr\/h.n<=k:=fun k hk=>by
   rw[lS]at hk;have hk:k∈h'.log L:=hk;rcases yj hk with rfl|h
   ·exact .inr AE
   ·exact .inl h
  have g4:∀ k,k≠L->h4.get k=h'.get k:=fun k hk=>by rw[lS,zn,QC hk]
  have gR:WB hb h4 p2 [w]:=by rw[lS];exact(ET ow).setR dQ rfl
  have mE:WP hb h4 w ((zQ s).take i):=by rw[lS];exact WP.setR (EU on) dQ rfl
  have j7:Ww h4 L (.loop (busy r)):=by rw[lS];exact dQ.self
  have iS:Ww h4 g (.deferred (some [])):=by
   rw[lS];refine j0.set ?_;intro e;subst e;have:=j0.2;rw[dQ.2]at this;cases this
  clear lS;obtain⟨wa,wn,wk,rfl⟩:=Wm.shape mE.sl;refine go ?_;refine WO.bl [(zQ s).getD i 0] ?_;intro v5 h5 e5 o5;have m5:h4.mark<=h4.n:=ω
  have w5:h5.wr=h4.wr:=e5.wr m5;refine go ?_;have bh:=e4.trans e5;have xV:((zQ s).take i).length<=i:=by rw[Qp];omega
  refine UJ (WP.ext mE e5) o5.sl bh (by simp) (by simp only[Qb];omega) ?_;intro v6 h6 e6 o6 u6 w6 f6;have fD:=zOO (gR.ext e5) (WP.ext mE e5) u6;have OX:=(j7.ext e5).upd rfl (WP.ext mE e5) u6;have th:=(iS.ext e5).upd rfl (WP.ext mE e5) u6;obtain⟨va,vn,vk,rfl⟩:=Wm.shape o6.sl;refine go ?_;refine V3 (cs:=[.slice va vn vk]) fD e6 ?_;intro h7 e7 OY u7 w7;have OZ:Wq hb h6 (.slice va vn vk) ((zQ s).take i++[(zQ s).getD i 0]):=by
   rcases o6 with⟨_,q⟩|q
   ·simp at q
   ·exact q
  have O0:=zFi OZ fD u7;have ti:=OX.updC rfl fD u7;have Jl:=th.updC rfl fD u7;refine go ?_;refine zB9 ti ?_;have tk:(zQ s).take (i+1)=(zQ s).take i++[(zQ s).getD i 0]:=by rw[GF];simp[List.getD,QB hi]
  have Jm:h'.n<=h7.n:=by have:=e5.n;have:=u6.1;have:=u7.1;omega
  have e8:WH hb (h7.set L (.loop r)):=e7.set ω ti.1 _;have wN:∀ k,k<h'.n->¬(p2=.pointer (some ⟨k,0,none⟩)\/k=L\/∃ n c,Value.slice wa wn wk=.slice (some ⟨k,0,none⟩) n c)->(h7.set L (.loop r)).get k=h'.get k:=fun k hk EV=>by
   have h1:k≠L:=fun e=>EV (.inr (.inl e));have a1:=e5.n;have a2:=u6.1;rw[zn,QC h1,u7.2 k ω (fun e=>EV (.inl e)),u6.2 k ω (fun b m c e1 e2=> ?_),e5.get k ω,g4 k h1];subst e2;rcases on with⟨q,_⟩|⟨q,q1,q2,q3,q4⟩
   ·rw[q]at e1;cases e1
   ·rw[q3]at e1;cases e1;exact EV (.inr (.inr ⟨_,_,q3⟩))
  have rj:∀ k,k<h.n->¬(p2=.pointer (some ⟨k,0,none⟩)\/k=L\/∃ n c,Value.slice wa wn wk=.slice (some ⟨k,0,none⟩) n c):=fun k hk hW=>by
   rcases hW with hW|rfl|⟨n,c,hW⟩
   ·obtain⟨q,q1,q2,q3,q4⟩:=ow;rw[q3]at hW;cases hW;omega
   ·omega
   ·rcases on with⟨q,_⟩|⟨q,q1,q2,q3,q4⟩
    ·rw[q]at hW;cases hW
    ·rw[q3]at hW;cases hW;omega
  have eN:BG h (h7.set L (.loop r)):=⟨QM e'.n Jm,fun k hk=>(wN k (QG hk e'.n) (rj k hk)).trans (e'.get k hk),fun wf=>e8.wf (by rw[<-tf];exact wf)⟩;refine⟨rfl,Jm,wN,fun k hk=> ?_,_,⟨eN,ti.self,Jl.set ?_,_,wL (OY.setR ti rfl),?_,rfl⟩,fun k hk=> ?_⟩
  ·have hk:k∈h7.log L:=hk;rcases yj hk with rfl|hk
   ·exact .inr AE
   rcases w7 k hk with hk|hk
   ·rcases w6 k hk with hk|hk
    ·rw[w5]at hk;exact w4 k hk
    ·exact .inr ω
   ·exact .inr ω
  ·intro e;subst e;have:=Jl.2;rw[ti.2]at this;cases this
  ·rw[tk];exact wM (WP.setR (.inr O0) ti rfl)
  ·rcases hk with hk|hk|⟨n,c,hk⟩
   ·exact .inl (.inl hk)
   ·exact .inl (.inr (.inl hk))
   ·refine .inr ?_;have:=f6 _ _ _ hk;have:=e5.n;omega
 ·rintro _ h4 ⟨⟨_,e4,j7,iS,w,gR,mE,rfl⟩,m4,r4⟩;refine⟨j7,fun r3=> ?_⟩;have uN:g≠L:=by intro e;subst e;have:=iS.2;rw[j7.2]at this;cases this
  have E4:WH h h4:=⟨e4.n,e4.get,e4.wf,m4.trans eb.mark,fun hm=>r4.trans (eb.wr hm)⟩;obtain⟨h5,tj⟩:∃ h5,h5=h4.set L (.loop r3):=⟨_,rfl⟩;have e5:WH h h5:=by rw[tj];exact E4.set AE j7.1 _
  have fV:WB h h5 p2 [w]:=by rw[tj];exact gR.setR j7 rfl
  have sF:WP h h5 w ((zQ s).take (zQ s).length):=by rw[tj];exact WP.setR mE j7 rfl
  have qp:Ww h5 g (.deferred (some [])):=by rw[tj];exact iS.set uN
  rw[<-tj];clear tj;obtain⟨wa,wn,wk,rfl⟩:=Wm.shape sF.sl;refine go ?_;refine VG fV e5 ?_;intro h6 e6 fD u6;have Jn:WP h h6 (.slice wa wn wk) ((zQ s).take (zQ s).length):=by
   rcases sF with q|q
   ·exact .inl q
   ·exact .inr (zFi q fV u6)
  have th:=qp.updC rfl fV u6;refine go ?_;refine zFW th ?_;refine rt (vs:=[.slice wa wn wk,I 0]) ?_ (VP WJ (fD.setR th rfl) rfl (BI.cons WJ BI.nil));rw[Qs]at Jn;refine⟨⟨_,rfl,WP.setR Jn th rfl⟩,e6.set (by have:=df.n;omega) th.1 _⟩
def zOU{x:Int}{l:List Int}:x∈Zv l↔x∈l:=(JR l _).mem_iff
def zN6(l:List Int):(Zv l).length=l.length:=(JR l _).length_eq
def zL0(l:List Int):(Zv l).Pairwise (·<=·):=by
 have hp:(Zv l).Pairwise (fun a b=>decide (a<=b)=true):=List.pairwise_mergeSort (fun a b c h1 h2=>by simp only[Qc]at *;omega) (fun a b=>by simp only[GM,Qc];omega) l;exact hp.imp fun h=>JM h
def zSY{s:List Wa}{xs:List Int}{n:Int}(u:Bo s xs)(h:∀ x∈xs,x<=n):∀ w∈s,w.pos<=n / 64:=by
 intro w hw;obtain⟨a,b,c,d⟩:=u.ok.each w hw;obtain⟨k,hk⟩:=zI2 c;have aU:=zAL d hk;have:=(u.mem (64*w.pos+k)).1 ⟨w,hw,ω,by rw[show((64*w.pos+(k:Int)) % 64).toNat=k by omega];exact hk⟩;have:=h _ this;omega
def ofE(l:List Int):Int:=if l.all (fun n=>decide (0<=n)&&decide (n<1048576))then 0 else 2
def zRj{l:List Int}{n:Int}(h:n∈l)(hn:(decide (0<=n)&&decide (n<1048576))=false):ofE l=2:=by
 unfold ofE;rw[QC fun ha=>by
  have:=QX.1 ha n h;rw[hn]at this;cases this]
def zJN{l:List Int}(h:∀ n∈l,0<=n/\n<1048576):ofE l=0:=by
 unfold ofE;rw[QJ (QX.2 fun n hn=>by have:=h n hn;simp[this.1,this.2])]
def Bo.perm{s:List Wa}{xs ys:List Int}(u:Bo s xs)(h:∀ n,n∈xs↔n∈ys):Bo s ys:=⟨u.ok,fun n=>(u.mem n).trans (h n)⟩
def zNX{α:Type}(l:List α)(h:l≠[]):∃ s w,l=s++[w]:=⟨l.dropLast,l.getLast h,(List.dropLast_concat_getLast h).symm⟩
def zJi:Bo [] []:=⟨Bh.nil,fun n=>⟨(fun⟨_,h,_⟩=>by cases h),(fun h=>by cases h)⟩⟩
def zTR(h:WA)(v:Value)(l:List Int)(s:Wc h v l)(hl:l.length<=16)(hm:h.mark<=h.n):
  G0 52 [v] h fun r h'=>(∃ w t,r=.tuple #[w,I (ofE l)]/\BL h h' w t/\(ofE l=0->Bo t l)/\(ofE l≠0->t=[]))/\WH h h':=by
 refine en ?_;refine VA (zGG h v l s ω) ?_;rintro c h1 ⟨o1,e1⟩;refine go ?_;refine VA (zMU h h1 c l e1 hm o1 ω) ?_;rintro _ h2 ⟨o2,e2,_⟩;have O1:=o2.sl;have hlen:=zN6 l;have iC:=zL0 l;have az:∀ n,n∈Zv l↔n∈l:=fun n=>zOU;generalize Zv l=L at *;have iC:=Wi.mk iC;have az:=Wi.mk az;have bT:h2.mark<=h2.n:=by have:=e2.mark;have:=e2.n;omega
 refine go ?_;refine VD (fun i=>L.length-i) (fun i t h3=>∃ w out,zC t 16=I i/\i<=L.length/\WH h2 h3/\zC t 5=w/\zGl h2.n h3 w out/\Wi (Bo out (L.take i))/\out.length<=i/\Wi (∀ j,j<i->0<=L.getD j 0/\L.getD j 0<1048576)) 0 ?_ ?_
 ·exact⟨_,[],WJ,QQ _,WH.refl _,WJ,WR.nil,⟨zJi⟩,QF _,⟨fun j hj=>by omega⟩⟩
 rintro i t h3 ab ⟨w,out,s16,hi,e3,s5,ow,hU,EW,aq⟩;have DM:Wc h3 c L:=Wc.ext O1 e3;refine F0 ?_ ?_<;>intro hb
 ·have af:i<L.length:=ω
  refine go ?_;refine VA (zN3 h3 (L.getD i 0)) ?_;rintro _ _ ⟨rfl,rfl⟩;have Jo:L.getD i 0∈L:=by rw[QD,QB af];exact JE af
  have mR:L.take (i+1)=L.take i++[L.getD i 0]:=by rw[GF];simp[List.getD,QB af]
  have hle:∀ x∈L.take i,x<=L.getD i 0:=fun x hx=>by
   obtain⟨j,hj,rfl⟩:=G6 hx;rw[Qp]at hj;rw[List.getElem_take,QD,QB af];exact List.pairwise_iff_getElem.1 iC.out j i ω af ω
  have AF:=zSY hU.out hle;by_cases hw:(decide (0<=L.getD i 0)&&decide (L.getD i 0<1048576))=false
  ·rw[hw];have hE:=zRj ((az.out _).1 Jo) hw;refine gr ?_;rw[hE];exact⟨⟨_,[],rfl,BL.nil,(fun h=>by cases h),fun _=>rfl⟩,e2.trans e3⟩
  have hw:(decide (0<=L.getD i 0)&&decide (L.getD i 0<1048576))=true:=by simpa using hw
  have hn:0<=L.getD i 0/\L.getD i 0<1048576:=by simpa using hw
  rw[hw];generalize lZ:L.getD i 0=n at *;have mR:=Wi.mk mR;have rm:Wi (∀ j,j<i+1->0<=L.getD j 0/\L.getD j 0<1048576):=⟨fun j hj=>by
   by_cases e:j=i
   ·subst e;rw[lZ];exact hn
   ·exact aq.out j ω⟩
  clear hle Jo hw;have AF:=Wi.mk AF;refine go ?_;refine WO.bin zO rfl (zUz hn.1 ω) ?_;have O2:=WR.sl ow;have uG:h3.mark<=h2.n:=by rw[e3.mark];exact bT
  by_cases h0:out.length=0
  ·have ho:out=[]:=Gq h0;subst ho;refine go ?_;refine XB (b:=h2.n) (R:=RW) (hB:=h2) ⟨n / 64,0⟩ (fun _=>False) ow e3 (QF _) e3.n (by decide) ω (RW.dep (show(0:Nat)<18446744073709551616 by decide) (by simp only;omega) (by simp only;omega) _) (fun k hk=>hk.elim) (fun _ _ _ _ h=>h) ?_;intro w5 h5 lit e5 fV n5 wO O3;obtain⟨va,vn,vk,rfl,_⟩:=Y8 fV;obtain⟨O5,sI,lw,hO,my,nU⟩:∃ (O5 sI:List Wa) (lw:Wa),O5=sI++[lw]/\sI=[]/\lw=⟨n / 64,0⟩:=⟨_,_,_,rfl,rfl,rfl⟩;have fV:zGl h2.n h5 (.slice va vn vk) O5:=by rw[hO,my,nU];exact fV
   have bP:sI.length=0:=by rw[my];rfl
   have bP:sI.length<=i:=ω
   have wP:O5.length=sI.length+1:=by rw[hO];simp
   have Jp:O5.length<=20000:=ω
   refine go ?_;refine VC 0 rfl rfl ?_;have oy:zGl h2.n (zB 0 h5) (.slice va vn vk) O5:=WR.upd fV (fun _ _ _=>rfl) (QF _);have wQ:W8 (inC (zB 0 h5)) (.slice va vn vk) O5:=WR.sl oy;obtain⟨cs,⟨rfl,y1,y2,y3⟩,pc,hs⟩:=zFJ (i:=((O5.length:Int)-1).toNat) wQ ω;have fA:O5.getD ((O5.length:Int)-1).toNat default=lw:=by
    rw[show((O5.length:Int)-1).toNat=sI.length by omega,hO];simp[List.getD]
   rw[fA]at y1 y2 y3 pc;have hsh:zj .shl (W 1) (I (n % 64))=some (W (2 ^ (n % 64).toNat)):=by
    rw[show I (n % 64)=I (((n % 64).toNat:Nat):Int) by congr 1;omega];exact(zEH ω).1
   have bO:2 ^ (n % 64).toNat<18446744073709551616:=(zEH (k:=(n % 64).toNat) ω).2;have fj:=zOu y1 bO;generalize aU:2 ^ (n % 64).toNat=k2 at hsh bO fj;refine WU ?_;refine WO.bin zO rfl (zQg hn.1) ?_;refine nQ ?_;refine WU ?_;refine WO.bin rfl zO hsh ?_;refine nQ ?_;refine WU ?_;refine WO.bin zO zO fj.1 ?_;refine nQ ?_;refine WU ?_;refine V9 (i:=((O5.length:Int)-1).toNat) (off:=1) (cs:=[W (lw.bits|||k2)]) (ho:=by simp) ⟨lw.pos,lw.bits|||k2⟩ oy e5 (by rw[e5.mark];exact bT) rfl (QF _) ω (fun old hx hr ho=>by
    rw[fA]at hr;obtain⟨rfl,r1,r2,r3⟩:=hr;exact⟨rfl,fj.2,r2,r3⟩) ?_
   intro h6 e6 fD n6 f6;have dr:O5.set ((O5.length:Int)-1).toNat ⟨lw.pos,lw.bits|||k2⟩=sI++[⟨lw.pos,lw.bits|||k2⟩]:=by
    rw[show((O5.length:Int)-1).toNat=sI.length by omega,hO,List.set_append_right _ _ (QF _),JI];rfl
   rw[dr]at fD;refine go ?_;refine zA (i+1) ω ⟨_,_,Wy,ω,e6,WJ,fD,⟨?_⟩,by simp only[QH,Qb];omega,rm⟩;rw[mR.out,<-aU];subst nU my;have:=hU.out.new hn (fun w hw=>by cases hw);rw[Nat.zero_or];exact this
  ·obtain⟨sI,lw,hO⟩:=zNX out (fun e=>h0 (by rw[e];rfl));have wP:out.length=sI.length+1:=by rw[hO];simp
   obtain⟨cs,⟨rfl,y1,y2,y3⟩,pc,hs⟩:=zFJ (i:=((out.length:Int)-1).toNat) O2 ω;have fA:out.getD ((out.length:Int)-1).toNat default=lw:=by
    rw[show((out.length:Int)-1).toNat=sI.length by omega,hO];simp[List.getD]
   rw[fA]at y1 y2 y3 pc;by_cases DQ:lw.pos=n / 64
   ·refine go ?_;clear pc y1 y2 y3 hs fA wP;obtain⟨O5,Jq⟩:∃ O5,O5=out:=⟨_,rfl⟩;rw[<-Jq]at ow hO EW;have bP:sI.length<=i:=by rw[hO,QH,Qb]at EW;omega
    have wP:O5.length=sI.length+1:=by rw[hO];simp
    have Jp:O5.length<=20000:=ω
    refine go ?_;refine VC 0 rfl rfl ?_;have oy:zGl h2.n (zB 0 h3) w O5:=WR.upd ow (fun _ _ _=>rfl) (QF _);have wQ:W8 (inC (zB 0 h3)) w O5:=WR.sl oy;obtain⟨cs,⟨rfl,y1,y2,y3⟩,pc,hs⟩:=zFJ (i:=((O5.length:Int)-1).toNat) wQ ω;have fA:O5.getD ((O5.length:Int)-1).toNat default=lw:=by
     rw[show((O5.length:Int)-1).toNat=sI.length by omega,hO];simp[List.getD]
    rw[fA]at y1 y2 y3 pc;have hsh:zj .shl (W 1) (I (n % 64))=some (W (2 ^ (n % 64).toNat)):=by
     rw[show I (n % 64)=I (((n % 64).toNat:Nat):Int) by congr 1;omega];exact(zEH ω).1
    have bO:2 ^ (n % 64).toNat<18446744073709551616:=(zEH (k:=(n % 64).toNat) ω).2;have fj:=zOu y1 bO;generalize aU:2 ^ (n % 64).toNat=k2 at hsh bO fj;refine WU ?_;refine WO.bin zO rfl (zQg hn.1) ?_;refine nQ ?_;refine WU ?_;refine WO.bin rfl zO hsh ?_;refine nQ ?_;refine WU ?_;refine WO.bin zO zO fj.1 ?_;refine nQ ?_;refine WU ?_;refine V9 (i:=((O5.length:Int)-1).toNat) (off:=1) (cs:=[W (lw.bits|||k2)]) (ho:=by simp) ⟨lw.pos,lw.bits|||k2⟩ oy e3 (by rw[e3.mark];exact bT) rfl (QF _) ω (fun old hx hr ho=>by
     rw[fA]at hr;obtain⟨rfl,r1,r2,r3⟩:=hr;exact⟨rfl,fj.2,r2,r3⟩) ?_
    intro h6 e6 fD n6 f6;have dr:O5.set ((O5.length:Int)-1).toNat ⟨lw.pos,lw.bits|||k2⟩=sI++[⟨lw.pos,lw.bits|||k2⟩]:=by
     rw[show((O5.length:Int)-1).toNat=sI.length by omega,hO,List.set_append_right _ _ (QF _),JI];rfl
    rw[dr]at fD;refine go ?_;refine zA (i+1) ω ⟨_,_,Wy,ω,e6,WJ,fD,⟨?_⟩,by simp only[QH,Qb];omega,rm⟩;rw[mR.out,<-aU];subst Jq;rw[hO]at hU;exact hU.out.old hn DQ
   ·refine go ?_;refine XB (b:=h2.n) (R:=RW) (hB:=h2) ⟨n / 64,0⟩ (fun _=>False) ow e3 (QF _) e3.n (by decide) ω (RW.dep (show(0:Nat)<18446744073709551616 by decide) (by simp only;omega) (by simp only;omega) _) (fun k hk=>hk.elim) (fun _ _ _ _ h=>h) ?_;intro w5 h5 lit e5 fV n5 wO O3;obtain⟨va,vn,vk,rfl,_⟩:=Y8 fV;clear pc y1 y2 y3 hs fA wP;have fo:∀ x∈out,x.pos<n / 64:=fun x hx=>by
     have hle:=AF.out x hx;rcases Qf.1 (hO▸hx:x∈sI++[lw])with h|h
     ·have h1:=(List.pairwise_append.1 (hO▸hU.out.ok.dv:(sI++[lw]).Pairwise _)).2.2 x h lw (by simp);have h2:=AF.out lw (by rw[hO];simp);omega
     ·rw[QO]at h;subst h;omega
    have fo:=Wi.mk fo;clear hO;obtain⟨O5,tl,oz,hO,my,nU⟩:∃ (O5 sI:List Wa) (lw:Wa),O5=sI++[lw]/\sI=out/\lw=⟨n / 64,0⟩:=⟨_,_,_,rfl,rfl,rfl⟩;have fV:zGl h2.n h5 (.slice va vn vk) O5:=by rw[hO,my,nU];exact fV
    have bP:tl.length=out.length:=by rw[my]
    have bP:tl.length<=i:=ω
    have wP:O5.length=tl.length+1:=by rw[hO];simp
    have Jp:O5.length<=20000:=ω
    refine go ?_;refine VC 0 rfl rfl ?_;have oy:zGl h2.n (zB 0 h5) (.slice va vn vk) O5:=WR.upd fV (fun _ _ _=>rfl) (QF _);have wQ:W8 (inC (zB 0 h5)) (.slice va vn vk) O5:=WR.sl oy;obtain⟨cs,⟨rfl,y1,y2,y3⟩,pc,hs⟩:=zFJ (i:=((O5.length:Int)-1).toNat) wQ ω;have fA:O5.getD ((O5.length:Int)-1).toNat default=oz:=by
     rw[show((O5.length:Int)-1).toNat=tl.length by omega,hO];simp[List.getD]
    rw[fA]at y1 y2 y3 pc;have hsh:zj .shl (W 1) (I (n % 64))=some (W (2 ^ (n % 64).toNat)):=by
     rw[show I (n % 64)=I (((n % 64).toNat:Nat):Int) by congr 1;omega];exact(zEH ω).1
    have bO:2 ^ (n % 64).toNat<18446744073709551616:=(zEH (k:=(n % 64).toNat) ω).2;have fj:=zOu y1 bO;generalize aU:2 ^ (n % 64).toNat=k2 at hsh bO fj;refine WU ?_;refine WO.bin zO rfl (zQg hn.1) ?_;refine nQ ?_;refine WU ?_;refine WO.bin rfl zO hsh ?_;refine nQ ?_;refine WU ?_;refine WO.bin zO zO fj.1 ?_;refine nQ ?_;refine WU ?_;refine V9 (i:=((O5.length:Int)-1).toNat) (off:=1) (cs:=[W (oz.bits|||k2)]) (ho:=by simp) ⟨oz.pos,oz.bits|||k2⟩ oy e5 (by rw[e5.mark];exact bT) rfl (QF _) ω (fun old hx hr ho=>by
     rw[fA]at hr;obtain⟨rfl,r1,r2,r3⟩:=hr;exact⟨rfl,fj.2,r2,r3⟩) ?_
    intro h6 e6 fD n6 f6;have dr:O5.set ((O5.length:Int)-1).toNat ⟨oz.pos,oz.bits|||k2⟩=tl++[⟨oz.pos,oz.bits|||k2⟩]:=by
     rw[show((O5.length:Int)-1).toNat=tl.length by omega,hO,List.set_append_right _ _ (QF _),JI];rfl
    rw[dr]at fD;refine go ?_;refine zA (i+1) ω ⟨_,_,Wy,ω,e6,WJ,fD,⟨?_⟩,by simp only[QH,Qb];omega,rm⟩;rw[mR.out,<-aU];subst nU my;have:=hU.out.new hn fo.out;rw[Nat.zero_or];exact this
 ·refine gr ?_;have O4:i=L.length:=ω
  subst O4;rw[Qs]at hU;have hE:ofE l=0:=zJN fun n hn=>by
   obtain⟨j,hj,e⟩:=G6 ((az.out n).2 hn);have:=aq.out j hj;rwa [QD,QB hj,GG,e]at this
  rw[hE];subst s5;exact⟨⟨_,out,rfl,⟨h2.n,e2.n,ow⟩,fun _=>hU.out.perm az.out,fun h=>absurd rfl h⟩,e2.trans e3⟩
def zNf(h:WA)(x:WF)(va:Value)(sa:Wc h va x.parts)(h4:x.kind=4):
  G0 281 [.agg #[.int .u8 x.kind,I x.elem,I x.many,va]] h fun r h'=>r=va/\WH h h':=by
 obtain⟨a1,a2,a3,rfl⟩:=Wm.shape sa;refine en ?_;refine VH ?_;intro p h1 e1 o1;replace o1:WB h h1 p [.int .u8 x.kind,I x.elem,I x.many,.slice a1 a2 a3]:=o1;refine gr ?_;exact⟨rfl,e1⟩
def zPD(h:WA)(vt:Value)(T:List WF)(k n:Int)(st:BB h vt T)(hT:T.length<=100)(hp:∀ x∈T,x.parts.length<=100)(hc:y8 T=0)(hk:0<=k/\k<(T.length:Int))(h4:(T.getD k.toNat default).kind=4)(hn:0<=n/\n<((T.getD k.toNat default).parts.length:Int)):
  G0 235 [vt,I k,I n] h fun r h'=>r=.tuple #[I ((T.getD k.toNat default).parts.getD n.toNat 0),I 0]/\WH h h':=by
 have hm:=zBY hc hk.1 hk.2;have h8:=(zGV hm h4).1;refine en ?_;refine VA (zHF h vt T k st hT hp hc hk) ?_;rintro _ h2 ⟨rfl,e2⟩;have cz:=BB.ext st e2;obtain⟨cs,⟨va,rfl,sa,dP⟩,pc,hs⟩:=ZX (i:=k.toNat) cz ω;obtain⟨t1,t2,t3,rfl⟩:=zD cz;generalize T.getD k.toNat default=x at *;obtain⟨a1,a2,a3,rfl⟩:=Wm.shape sa;refine go ?_;refine VA (zNf h2 x _ sa h4) ?_;rintro _ h3 ⟨rfl,e3⟩;have qJ:=sa.ext e3;refine go ?_;refine WO.bl [n] ?_;intro v4 g9 e4 o4;have ht:yl (x.parts.length:Int) [n]=true:=by unfold yl;simp[hn.1,hn.2]
 refine go ?_;refine VA (zBJ g9 v4 (x.parts.length:Int) [n] o4.sl (by simp)) ?_;rintro _ h5 ⟨rfl,e5⟩;rw[ht];have xJ:=qJ.ext (e4.trans e5);refine gr ?_;exact⟨rfl,e2.trans (e3.trans (e4.trans e5))⟩
def zQt{h:WA}{v:Value}{l:List Int}{n:Nat}(s:Wc h v l)(hl:0<l.length)(hn:n<=l.length):∃ r,Zk 1 v none (some n) none=some r/\Wc h r (l.take n):=by
 obtain⟨h1,⟨h2,_⟩|⟨g,off,row,rfl,h3,h4,h5⟩⟩:=s
 ·omega
 have hlen:(l.take n).length=n:=by rw[Qp];omega
 refine⟨.slice (some ⟨g,off+0*1,none⟩) (n-0) 1,?_,by simp,.inr ⟨g,off,row,by rw[hlen];simp,h3,?_,h5⟩⟩
 ·have b1:Nat.ble 0 n=true:=QK (QQ _);have b2:Nat.ble n l.length=true:=QK hn;simp only[Zk,Gv,GG,b1,b2,Q2,GC,cond_true,Gl]
 ·obtain⟨c1,c2⟩:=zEE h4;rw[yz (by rw[hlen];omega),List.map_take,c2,hlen,List.take_take,G7,G7,Gg hn]
def stepL(T:List WF)(s n:Int):Int:=(((T.getD s.toNat default).parts.take n.toNat).map fun p=>((yF T p.toNat).length:Int)).sum
def zRJ(h:WA)(vt:Value)(T:List WF)(k n:Int)(st:BB h vt T)(hT:T.length<=100)(hp:∀ x∈T,x.parts.length<=100)(hc:y8 T=0)(hk:0<=k/\k<(T.length:Int))(h4:(T.getD k.toNat default).kind=4)(hn:0<=n/\n<((T.getD k.toNat default).parts.length:Int))(hm:h.mark<=h.n):
  G0 172 [vt,I k,I n] h fun r h'=>(∃ e,r=.tuple #[I (stepL T k n),e])/\WH h h':=by
 have iW:=zBY hc hk.1 hk.2;have tq:=zGV iW h4;have au:=zBu hc;refine en ?_;refine VA (zPD h vt T k n st hT hp hc hk h4 hn) ?_;rintro _ h2 ⟨rfl,e2⟩;have cz:=BB.ext st e2;obtain⟨cs,⟨va,rfl,sa,dP⟩,pc,hs⟩:=ZX (i:=k.toNat) cz ω;obtain⟨t1,t2,t3,rfl⟩:=zD cz;have oU:stepL T k n=(((T.getD k.toNat default).parts.take n.toNat).map fun p=>((yF T p.toNat).length:Int)).sum:=rfl;rw[oU];have bF:∀ p∈(T.getD k.toNat default).parts,(0<=p/\p<(T.length:Int))/\(yF T p.toNat).length<=32:=fun p dG=>by
  have h1:=tq.2 p dG;have h2:=au p.toNat ω;exact⟨ω,QM (zB2 (p.toNat+1) p.toNat (Q9 _) fun j hj=>(au j ω).1) h2.2⟩
 clear oU;generalize T.getD k.toNat default=x at *;obtain⟨a1,a2,a3,rfl⟩:=Wm.shape sa;have I3:=tq.1;clear tq;obtain⟨w,hw,sw⟩:=zQt (n:=n.toNat) sa ω ω;have Om:(x.parts.take n.toNat).length=n.toNat:=by rw[Qp];omega
 have rq:∀ p∈x.parts.take n.toNat,(0<=p/\p<(T.length:Int))/\(yF T p.toNat).length<=32:=fun p dG=>bF p (GO dG);obtain⟨m,rfl⟩:∃ m:Nat,n=m:=⟨n.toNat,ω⟩;rw[QZ]at *;generalize x.parts.take m=l at *;replace bF:=Wi.mk bF;replace rq:=Wi.mk rq;replace au:=Wi.mk au;obtain⟨w1,w2,w3,rfl⟩:=Wm.shape sw;refine go ?_;refine V7 hw ?_;refine go ?_;refine VD (fun i=>l.length-i) (fun i t h3=>zC t 38=I i/\i<=l.length/\WH h2 h3/\zC t 6=I ((l.take i).map fun p=>((yF T p.toNat).length:Int)).sum/\0<=((l.take i).map fun p=>((yF T p.toNat).length:Int)).sum/\((l.take i).map fun p=>((yF T p.toNat).length:Int)).sum<=32*i) 0 ?_ ?_
 ·exact⟨WJ,QQ _,WH.refl _,WJ,by simp,by simp⟩
 rintro i t h3 ab ⟨s38,hi,e3,s6,aW,dM⟩;have sw3:=sw.ext e3;refine go ?_;refine VE (fun bH=> ?_) (fun bH=> ?_)<;>simp only[DB]at bH
 ·have af:i<l.length:=ω
  have hx:=rq.out _ (zd af);have cf:((l.take (i+1)).map fun p=>((yF T p.toNat).length:Int)).sum=((l.take i).map fun p=>((yF T p.toNat).length:Int)).sum+((yF T (l.getD i 0).toNat).length:Int):=by
   rw[GF,QB af,Q5,Gs];congr 1;simp[List.getD,QB af]
  have nT:=e2.trans e3;refine go ?_;refine VA (zEQ h3 _ T (l.getD i 0) (BB.ext st nT) hT hp hc hx.1 (by rw[nT.mark];exact QM hm nT.n)) ?_;rintro _ h4 ⟨⟨v,rfl,ov⟩,e4⟩;have sv:=ov.sl;obtain⟨v1,v2,v3,rfl⟩:=Wm.shape sv;generalize((l.take i).map fun p=>((yF T p.toNat).length:Int)).sum=a at *;refine go ?_;exact zA (i+1) ω ⟨Wy,ω,e3.trans e4,by rw[cf];exact WJ,by rw[cf];omega,by rw[cf];omega⟩
 ·have bj:i=l.length:=ω
  subst bj;rw[Qs]at *;refine gr ?_;exact⟨⟨_,rfl⟩,e2.trans e3⟩
end Go.Proofs.YtndffgfnndoifaaGreatDoor
